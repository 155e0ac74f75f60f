/- Several texts in one, in build order. What they prove, each by its own first remark:
Written by our own copy of a printing program (a twelfth state) out of the translation. Not trusted: Lean checks it.
The sponge of the reference, told in natural numbers, and that it agrees with the layer's.
The examples of the chapter that each law on the sponge checks, and that rounds make the permutation.
The same for Mul, Neg, Sub, Inv. -/
import Derived.Test.YtjfekjblnoagkaaDoorM2
import Derived.Test.YtjfekjblnoagkaaDoorM4
section
namespace Go.Proofs.YtjfekjblnoagkaaDoor.Q
open Go.RowKit Go.Proofs.YtjfekjblnoagkaaDoorW.PrintWords Go.Proofs.YtjfekjblnoagkaaDoorW.PrintLast Go.Proofs.YtjfekjblnoagkaaDoorW.PrintMore
attribute [local go_sem] max2_int min2_int max_two min_two max_three min_three max_four min_four   -- for this text's walks alone
set_option linter.unusedVariables false
set_option linter.unusedSimpArgs false

/-! ### attestorref06_Perm: function 24 -/
def attestorref06_Perm.l0 : Nat → Int → Int → Int → Int → Int → Int → Option (Int × Int × Int × Int)
  | 0, _, _, _, _, _, _ => none
  | k + 1, x0, x5, x235000, x235001, x235002, x235003 => if x5 < 8 then ((attestorref06_Round.f k x0 x5 x235000 x235001 x235002 x235003).bind fun bt237 => (attestorref06_Perm.l0 k x0 (wrap64 (x5 + 1)) bt237.1 bt237.2.1 bt237.2.2.1 bt237.2.2.2)) else (some (x235000, x235001, x235002, x235003))
def attestorref06_Perm.f (k : Nat) (a0 : Int) (a1_0 : Int) (a1_1 : Int) (a1_2 : Int) (a1_3 : Int) : Option (Int × Int × Int × Int) := (attestorref01_Valid.f a0).bind fun t236 => (if t236 = true then (attestorref06_Perm.l0 k a0 0 a1_0 a1_1 a1_2 a1_3) else (some (0, 0, 0, 0)))
theorem attestorref06_Perm.mono_l : ∀ k, (∀ y0 y1 y2 y3 y4 y5, LeO (attestorref06_Perm.l0 k y0 y1 y2 y3 y4 y5) (attestorref06_Perm.l0 (k + 1) y0 y1 y2 y3 y4 y5))
  | 0 => fun _ _ _ _ _ _ r h => by simp [attestorref06_Perm.l0] at h
  | k + 1 => by
    have ih0 := attestorref06_Perm.mono_l k
    · intro y0 y1 y2 y3 y4 y5
      unfold attestorref06_Perm.l0
      repeat' first
      | (with_reducible exact ih0 _ _ _ _ _ _)
      | (with_reducible exact attestorref06_Round.mono _ _ _ _ _ _ _)
      | (with_reducible exact LeO.refl _)
      | (with_reducible exact LeO.none _)
      | (with_reducible refine LeO.ite ?_ ?_)
      | (with_reducible refine LeO.bind ?_ (fun _ => ?_))
      | exact ih0 _ _ _ _ _ _
      | exact attestorref06_Round.mono _ _ _ _ _ _ _
      | exact LeO.none _
      | refine LeO.ite ?_ ?_
      | refine LeO.bind ?_ (fun _ => ?_)
theorem attestorref06_Perm.mono : ∀ a0 a1 a2 a3 a4 k, LeO (attestorref06_Perm.f k a0 a1 a2 a3 a4) (attestorref06_Perm.f (k + 1) a0 a1 a2 a3 a4) := by
  intro a0 a1 a2 a3 a4 k
  have ih0 := attestorref06_Perm.mono_l k
  unfold attestorref06_Perm.f
  repeat' first
      | (with_reducible exact ih0 _ _ _ _ _ _)
      | (with_reducible exact attestorref06_Round.mono _ _ _ _ _ _ _)
      | (with_reducible exact LeO.refl _)
      | (with_reducible exact LeO.none _)
      | (with_reducible refine LeO.ite ?_ ?_)
      | (with_reducible refine LeO.bind ?_ (fun _ => ?_))
      | exact ih0 _ _ _ _ _ _
      | exact attestorref06_Round.mono _ _ _ _ _ _ _
      | exact LeO.none _
      | refine LeO.ite ?_ ?_
      | refine LeO.bind ?_ (fun _ => ?_)
set_option maxHeartbeats 8000000 in
set_option maxRecDepth 100000 in
theorem attestorref06_Perm.calls (k : Nat) (a0 : Int) (a1_0 : Int) (a1_1 : Int) (a1_2 : Int) (a1_3 : Int) (r1 : Int) (r2 : Int) (r3 : Int) (r4 : Int) (w : World) (h : attestorref06_Perm.f k a0 a1_0 a1_1 a1_2 a1_3 = some (r1, r2, r3, r4)) :
    Calls Tryd.prog 24 #[.int .i64 a0, .agg #[.int .u64 a1_0, .int .u64 a1_1, .int .u64 a1_2, .int .u64 a1_3]] w fun e w' => e = .returned (.agg #[.int .u64 r1, .int .u64 r2, .int .u64 r3, .int .u64 r4]) ∧ Below w.heap.size w w' := by
  have hu23 := Tryd.underlying23
  have HB := Aside0.mk (Below.refl w.heap.size w)
  have H : ((attestorref01_Valid.f a0).bind fun t236 => (if t236 = true then (attestorref06_Perm.l0 k a0 0 a1_0 a1_1 a1_2 a1_3) else (some (0, 0, 0, 0)))) = some (r1, r2, r3, r4) := h
  clear h
  replace H := Option.bind_eq_some_iff.mp H
  obtain ⟨t236, A30, H⟩ := H
  replace H : (if t236 = true then (attestorref06_Perm.l0 k a0 0 a1_0 a1_1 a1_2 a1_3) else (some (0, 0, 0, 0))) = some (r1, r2, r3, r4) := H
  have A3 := Aside0.mk A30
  clear A30
  by_cases c4 : t236 = true
  · subst c4
    have H1 : (attestorref06_Perm.l0 k a0 0 a1_0 a1_1 a1_2 a1_3) = some (r1, r2, r3, r4) := by rw [if_pos rfl] at H; exact H
    clear H
    have H := H1
    clear H1
    have H' := Aside0.mk H
    clear H
    go_enter Tryd.func24, Tryd.ntmps24
    go_wp2_with (first | ((with_reducible refine gate_dst (N := 3) rfl ?_); refine box_event ?hg (N := 3) ?hd (cs := #[.int .u64 a1_0, .int .u64 a1_1, .int .u64 a1_2, .int .u64 a1_3]) (t := 23) ?hr ?_; (case hd => rfl); (case hg => rfl); (case hr => first | (go_simp; done) | (go_simp; rfl)); intro gb234 hg w5 hbox hb; have n0_ := Aside0.mk (below_step (by repeat (first | (with_reducible first | exact HB.out | apply below_alloc | apply pw_below_drewN | apply below_drew1) | exact HB.out)) hb); have n1_ := Aside0.mk (hbox); have n2_ := Aside0.mk ((by rw [hg]; exact (below_size (by repeat (first | (with_reducible first | exact HB.out | apply below_alloc | apply pw_below_drewN | apply below_drew1) | exact HB.out))) : w.heap.size ≤ gb234)); have n3_ := Aside0.mk ((by rw [hg]; exact (below_size (by repeat (first | (with_reducible first | exact HB.out | apply below_alloc | apply pw_below_drewN | apply below_drew1) | exact HB.out))) : w.heap.size ≤ gb234)); clear HB; have HB := n0_; have BK234 := n1_; have GW234 := n2_; have GE234 := n3_; clear n0_ n1_ n2_ n3_; clear hb hbox hg) | ((with_reducible refine gate_dst (N := 4) rfl ?_); refine box_event ?hg (N := 4) ?hd (cs := #[.int .u64 0, .int .u64 0, .int .u64 0, .int .u64 0]) (t := 23) ?hr ?_; (case hd => rfl); (case hg => rfl); (case hr => first | (go_simp; done) | (go_simp; rfl)); intro gb235 hg w6 hbox hb; have n0_ := Aside0.mk (blk_below (g := gb234) (o := .cells #[.int .u64 a1_0, .int .u64 a1_1, .int .u64 a1_2, .int .u64 a1_3] 23 (0, 0)) (by (with_reducible repeat (first | refine blk_drewN ?_ _ | refine blk_drew ?_ | refine blk_alloc ?_ _)); exact BK234.out) hb); have n1_ := Aside0.mk (below_step (by repeat (first | (with_reducible first | exact HB.out | apply below_alloc | apply pw_below_drewN | apply below_drew1 | refine below_set ?_ GE234.out) | exact HB.out)) hb); have n2_ := Aside0.mk (hbox); have n3_ := Aside0.mk ((by rw [hg]; exact (below_size (by repeat (first | (with_reducible first | exact HB.out | apply below_alloc | apply pw_below_drewN | apply below_drew1 | refine below_set ?_ GE234.out) | exact HB.out))) : w.heap.size ≤ gb235)); have n4_ := Aside0.mk ((by rw [hg]; exact (below_size (by repeat (first | (with_reducible first | exact HB.out | apply below_alloc | apply pw_below_drewN | apply below_drew1 | refine below_set ?_ GE234.out) | exact HB.out))) : w.heap.size ≤ gb235)); have n5_ := Aside0.mk ((by rw [hg]; exact Nat.ne_of_lt (blk_lt (g := gb234) (o := .cells #[.int .u64 a1_0, .int .u64 a1_1, .int .u64 a1_2, .int .u64 a1_3] 23 (0, 0)) (by (with_reducible repeat (first | refine blk_drewN ?_ _ | refine blk_drew ?_ | refine blk_alloc ?_ _)); exact BK234.out)) : gb234 ≠ gb235)); have n6_ := Aside0.mk ((by rw [hg]; exact Nat.ne_of_gt (blk_lt (g := gb234) (o := .cells #[.int .u64 a1_0, .int .u64 a1_1, .int .u64 a1_2, .int .u64 a1_3] 23 (0, 0)) (by (with_reducible repeat (first | refine blk_drewN ?_ _ | refine blk_drew ?_ | refine blk_alloc ?_ _)); exact BK234.out)) : gb235 ≠ gb234)); clear BK234; clear HB; have BK234 := n0_; have HB := n1_; have BK235 := n2_; have GW235 := n3_; have GE235 := n4_; have NB234_235 := n5_; have NB235_234 := n6_; clear n0_ n1_ n2_ n3_ n4_ n5_ n6_; clear hb hbox hg) | ((with_reducible refine gate_callee (f := 31) rfl ?_); refine goesL_ (some 7) rfl rfl Tryd.func31 (by kernel_rfl) rfl #[.int .i64 a0] rfl (by (try simp only [List.map_toArray, List.map_cons, List.map_nil]); first | done | rfl | (simp only [List.length_drop, List.length_take]; rfl) | (go_simp; done) | (go_simp; rw [Int.tmod_eq_emod_of_nonneg (by omega)]; omega)) ?_; (with_reducible refine (attestorref01_Valid.calls a0 true _ A3.out).mono ?_); rintro e w' ⟨rfl, ⟨nd, rfl⟩⟩; refine ⟨_, rfl, ?_⟩))
    go_loopg [5] k (fun kq v5 w' => ∃ (x5_1 : Int) (x235000_1 : Int) (x235001_1 : Int) (x235002_1 : Int) (x235003_1 : Int), v5 = .int .i64 x5_1 ∧ Aside0 (attestorref06_Perm.l0 kq a0 x5_1 x235000_1 x235001_1 x235002_1 x235003_1 = some (r1, r2, r3, r4)) ∧ Aside0 (kq ≤ k) ∧ Aside0 (w'.heap[gb234]? = some (.cells #[.int .u64 x235000_1, .int .u64 x235001_1, .int .u64 x235002_1, .int .u64 x235003_1] 23 (0, 0))) ∧ Aside0 (w'.heap[gb235]? = some (.cells #[.int .u64 0, .int .u64 0, .int .u64 0, .int .u64 0] 23 (0, 0))) ∧ Aside0 (Below w.heap.size w w'))
    case atStart => exact ⟨(0), (a1_0), (a1_1), (a1_2), (a1_3), (by first | rfl | (simp; done) | (simp [*]; done) | (simp; rfl) | (simp; decide +kernel)), H', ⟨Nat.le_refl _⟩, ⟨by (with_reducible repeat (first | refine blk_drewN ?_ _ | refine blk_drew ?_ | refine blk_alloc ?_ _)); exact BK234.out⟩, ⟨by (with_reducible repeat (first | refine blk_drewN ?_ _ | refine blk_drew ?_ | refine blk_alloc ?_ _)); exact BK235.out⟩, ⟨by repeat (first | (with_reducible first | exact HB.out | apply below_alloc | apply pw_below_drewN | apply below_drew1 | refine below_set ?_ GE234.out | refine below_set ?_ GE235.out) | exact HB.out)⟩⟩
    case round =>
      clear H'
      try clear c2
      try clear p2
      try clear c3
      try clear c4
      obtain ⟨x5_1, x235000_1, x235001_1, x235002_1, x235003_1, rfl, HA, HK1, BK234, BK235, HB⟩ := hrel
      cases gk with
      | zero => exact absurd HA.out (by simp [attestorref06_Perm.l0])
      | succ k1 =>
        have H := HA.out
        clear HA
        simp only [attestorref06_Perm.l0] at H
        by_cases c7 : x5_1 < 8
        · rw [if_pos c7] at H
          have c7b0 : decide (x5_1 < 8) = true := decide_eq_true c7
          clear c7
          replace H := Option.bind_eq_some_iff.mp H
          obtain ⟨⟨t237, t238, t239, t240⟩, A80, H⟩ := H
          replace H : (attestorref06_Perm.l0 k1 a0 (wrap64 (x5_1 + 1)) t237 t238 t239 t240) = some (r1, r2, r3, r4) := H
          have A8 := Aside0.mk A80
          clear A80
          have H' := Aside0.mk H
          clear H
          have hnb9 := NB234_235.out
          have hnc9 := NB235_234.out
          have hcz10_0 : wr.cell? ⟨gb234, 0, none⟩ = some (.int .u64 x235000_1) := (blk_cell BK234.out 0).trans rfl
          have hcz10_1 : wr.cell? ⟨gb234, 1, none⟩ = some (.int .u64 x235001_1) := (blk_cell BK234.out 1).trans rfl
          have hcz10_2 : wr.cell? ⟨gb234, 2, none⟩ = some (.int .u64 x235002_1) := (blk_cell BK234.out 2).trans rfl
          have hcz10_3 : wr.cell? ⟨gb234, 3, none⟩ = some (.int .u64 x235003_1) := (blk_cell BK234.out 3).trans rfl
          have hfz10_0 := blk_frozen BK234.out 0
          have hfz10_1 := blk_frozen BK234.out 1
          have hfz10_2 := blk_frozen BK234.out 2
          have hfz10_3 := blk_frozen BK234.out 3
          go_wp2_with (first | ((with_reducible refine gate_callee (f := 15) rfl ?_); refine goesL_ (some 17) rfl rfl Tryd.func15 (by kernel_rfl) rfl #[.int .i64 a0, .int .i64 x5_1, .agg #[.int .u64 x235000_1, .int .u64 x235001_1, .int .u64 x235002_1, .int .u64 x235003_1]] rfl (by (try simp only [List.map_toArray, List.map_cons, List.map_nil]); first | done | rfl | (simp only [List.length_drop, List.length_take]; rfl) | (go_simp; done) | (go_simp; rw [Int.tmod_eq_emod_of_nonneg (by omega)]; omega)) ?_; (with_reducible refine (attestorref06_Round.calls k1 a0 x5_1 x235000_1 x235001_1 x235002_1 x235003_1 t237 t238 t239 t240 _ A8.out).mono ?_); rintro e w11 ⟨rfl, hb⟩; refine ⟨_, rfl, ?_⟩; have n0_ := Aside0.mk (blk_below (g := gb234) (o := .cells #[.int .u64 x235000_1, .int .u64 x235001_1, .int .u64 x235002_1, .int .u64 x235003_1] 23 (0, 0)) (by (with_reducible repeat (first | refine blk_drewN ?_ _ | refine blk_drew ?_ | refine blk_alloc ?_ _)); exact BK234.out) hb); have n1_ := Aside0.mk (blk_below (g := gb235) (o := .cells #[.int .u64 0, .int .u64 0, .int .u64 0, .int .u64 0] 23 (0, 0)) (by (with_reducible repeat (first | refine blk_drewN ?_ _ | refine blk_drew ?_ | refine blk_alloc ?_ _)); exact BK235.out) hb); have n2_ := Aside0.mk (below_step (by repeat (first | (with_reducible first | exact HB.out | apply below_alloc | apply pw_below_drewN | apply below_drew1 | refine below_set ?_ GE234.out | refine below_set ?_ GE235.out) | exact HB.out)) hb); clear BK234; clear BK235; clear HB; have BK234 := n0_; have BK235 := n1_; have HB := n2_; clear n0_ n1_ n2_; (try clear hb); (try clear hb2); (try clear hk); (try clear hi); have hcz12_0 : w11.cell? ⟨gb234, 0, none⟩ = some (.int .u64 x235000_1) := (blk_cell BK234.out 0).trans rfl; have hcz12_1 : w11.cell? ⟨gb234, 1, none⟩ = some (.int .u64 x235001_1) := (blk_cell BK234.out 1).trans rfl; have hcz12_2 : w11.cell? ⟨gb234, 2, none⟩ = some (.int .u64 x235002_1) := (blk_cell BK234.out 2).trans rfl; have hcz12_3 : w11.cell? ⟨gb234, 3, none⟩ = some (.int .u64 x235003_1) := (blk_cell BK234.out 3).trans rfl; have hfz12_0 := blk_frozen BK234.out 0; have hfz12_1 := blk_frozen BK234.out 1; have hfz12_2 := blk_frozen BK234.out 2; have hfz12_3 := blk_frozen BK234.out 3))
          go_roundg k1
          case measure => have := HK1.out; omega
          case rel => exact ⟨(wrap64 (x5_1 + 1)), (t237), (t238), (t239), (t240), (by first | rfl | (simp; done) | (simp [*]; done) | (simp; rfl) | (simp; decide +kernel)), H', ⟨by have := HK1.out; omega⟩, ⟨by (with_reducible repeat (first | refine blk_drewN ?_ _ | refine blk_drew ?_ | refine blk_alloc ?_ _)); refine blk_put (cs := #[.int .u64 t237, .int .u64 t238, .int .u64 t239, .int .u64 x235003_1]) ?_ 3 _ rfl; (with_reducible repeat (first | refine blk_drewN ?_ _ | refine blk_drew ?_ | refine blk_alloc ?_ _)); refine blk_put (cs := #[.int .u64 t237, .int .u64 t238, .int .u64 x235002_1, .int .u64 x235003_1]) ?_ 2 _ rfl; (with_reducible repeat (first | refine blk_drewN ?_ _ | refine blk_drew ?_ | refine blk_alloc ?_ _)); refine blk_put (cs := #[.int .u64 t237, .int .u64 x235001_1, .int .u64 x235002_1, .int .u64 x235003_1]) ?_ 1 _ rfl; (with_reducible repeat (first | refine blk_drewN ?_ _ | refine blk_drew ?_ | refine blk_alloc ?_ _)); refine blk_put (cs := #[.int .u64 x235000_1, .int .u64 x235001_1, .int .u64 x235002_1, .int .u64 x235003_1]) ?_ 0 _ rfl; (with_reducible repeat (first | refine blk_drewN ?_ _ | refine blk_drew ?_ | refine blk_alloc ?_ _)); exact BK234.out⟩, ⟨by (with_reducible repeat (first | refine blk_drewN ?_ _ | refine blk_drew ?_ | refine blk_alloc ?_ _)); refine blk_far ?_ NB235_234.out _; (with_reducible repeat (first | refine blk_drewN ?_ _ | refine blk_drew ?_ | refine blk_alloc ?_ _)); refine blk_far ?_ NB235_234.out _; (with_reducible repeat (first | refine blk_drewN ?_ _ | refine blk_drew ?_ | refine blk_alloc ?_ _)); refine blk_far ?_ NB235_234.out _; (with_reducible repeat (first | refine blk_drewN ?_ _ | refine blk_drew ?_ | refine blk_alloc ?_ _)); refine blk_far ?_ NB235_234.out _; (with_reducible repeat (first | refine blk_drewN ?_ _ | refine blk_drew ?_ | refine blk_alloc ?_ _)); exact BK235.out⟩, ⟨by repeat (first | (with_reducible first | exact HB.out | apply below_alloc | apply pw_below_drewN | apply below_drew1 | refine below_set ?_ GE234.out | refine below_set ?_ GE235.out) | exact HB.out)⟩⟩
        · rw [if_neg c7] at H
          have c7b0 : decide (x5_1 < 8) = false := decide_eq_false c7
          clear c7
          simp only [Option.some.injEq, Prod.mk.injEq] at H
          obtain ⟨rfl, rfl, rfl, rfl⟩ := H
          have hnb13 := NB234_235.out
          have hnc13 := NB235_234.out
          have hcz14_0 : wr.cell? ⟨gb234, 0, none⟩ = some (.int .u64 x235000_1) := (blk_cell BK234.out 0).trans rfl
          have hcz14_1 : wr.cell? ⟨gb234, 1, none⟩ = some (.int .u64 x235001_1) := (blk_cell BK234.out 1).trans rfl
          have hcz14_2 : wr.cell? ⟨gb234, 2, none⟩ = some (.int .u64 x235002_1) := (blk_cell BK234.out 2).trans rfl
          have hcz14_3 : wr.cell? ⟨gb234, 3, none⟩ = some (.int .u64 x235003_1) := (blk_cell BK234.out 3).trans rfl
          have hfz14_0 := blk_frozen BK234.out 0
          have hfz14_1 := blk_frozen BK234.out 1
          have hfz14_2 := blk_frozen BK234.out 2
          have hfz14_3 := blk_frozen BK234.out 3
          have hcz15_0 : wr.cell? ⟨gb235, 0, none⟩ = some (.int .u64 0) := (blk_cell BK235.out 0).trans rfl
          have hcz15_1 : wr.cell? ⟨gb235, 1, none⟩ = some (.int .u64 0) := (blk_cell BK235.out 1).trans rfl
          have hcz15_2 : wr.cell? ⟨gb235, 2, none⟩ = some (.int .u64 0) := (blk_cell BK235.out 2).trans rfl
          have hcz15_3 : wr.cell? ⟨gb235, 3, none⟩ = some (.int .u64 0) := (blk_cell BK235.out 3).trans rfl
          have hfz15_0 := blk_frozen BK235.out 0
          have hfz15_1 := blk_frozen BK235.out 1
          have hfz15_2 := blk_frozen BK235.out 2
          have hfz15_3 := blk_frozen BK235.out 3
          go_wp2
          refine bodyPost_ret (results_cell_row rfl _ _ gb235 23 #[.int .u64 x235000_1, .int .u64 x235001_1, .int .u64 x235002_1, .int .u64 x235003_1] (0, 0) _ rfl (by (with_reducible repeat (first | refine blk_drewN ?_ _ | refine blk_drew ?_ | refine blk_alloc ?_ _)); refine blk_put (cs := #[.int .u64 x235000_1, .int .u64 x235001_1, .int .u64 x235002_1, .int .u64 0]) ?_ 3 _ rfl; (with_reducible repeat (first | refine blk_drewN ?_ _ | refine blk_drew ?_ | refine blk_alloc ?_ _)); refine blk_put (cs := #[.int .u64 x235000_1, .int .u64 x235001_1, .int .u64 0, .int .u64 0]) ?_ 2 _ rfl; (with_reducible repeat (first | refine blk_drewN ?_ _ | refine blk_drew ?_ | refine blk_alloc ?_ _)); refine blk_put (cs := #[.int .u64 x235000_1, .int .u64 0, .int .u64 0, .int .u64 0]) ?_ 1 _ rfl; (with_reducible repeat (first | refine blk_drewN ?_ _ | refine blk_drew ?_ | refine blk_alloc ?_ _)); refine blk_put (cs := #[.int .u64 0, .int .u64 0, .int .u64 0, .int .u64 0]) ?_ 0 _ rfl; (with_reducible repeat (first | refine blk_drewN ?_ _ | refine blk_drew ?_ | refine blk_alloc ?_ _)); exact BK235.out) Tryd.underlying23 rfl (by kernel_rfl)) rfl ?_
          exact ⟨by first | rfl | (simp [errW_none, errW_some] <;> rfl) | (simp [*, errW_none, errW_some] <;> rfl), by repeat (first | (with_reducible first | exact HB.out | apply below_alloc | apply pw_below_drewN | apply below_drew1 | refine below_set ?_ GE234.out | refine below_set ?_ GE235.out) | exact HB.out)⟩
  · replace c4 := Bool.eq_false_iff.mpr c4
    subst c4
    have H1 : (some (0, 0, 0, 0)) = some (r1, r2, r3, r4) := by rw [if_neg (show ¬ (false = true) by decide)] at H; exact H
    clear H
    have H := H1
    clear H1
    simp only [Option.some.injEq, Prod.mk.injEq] at H
    obtain ⟨rfl, rfl, rfl, rfl⟩ := H
    go_enter Tryd.func24, Tryd.ntmps24
    go_wp2_with (first | ((with_reducible refine gate_dst (N := 3) rfl ?_); refine box_event ?hg (N := 3) ?hd (cs := #[.int .u64 a1_0, .int .u64 a1_1, .int .u64 a1_2, .int .u64 a1_3]) (t := 23) ?hr ?_; (case hd => rfl); (case hg => rfl); (case hr => first | (go_simp; done) | (go_simp; rfl)); intro gb234 hg w16 hbox hb; have n0_ := Aside0.mk (below_step (by repeat (first | (with_reducible first | exact HB.out | apply below_alloc | apply pw_below_drewN | apply below_drew1) | exact HB.out)) hb); have n1_ := Aside0.mk (hbox); have n2_ := Aside0.mk ((by rw [hg]; exact (below_size (by repeat (first | (with_reducible first | exact HB.out | apply below_alloc | apply pw_below_drewN | apply below_drew1) | exact HB.out))) : w.heap.size ≤ gb234)); have n3_ := Aside0.mk ((by rw [hg]; exact (below_size (by repeat (first | (with_reducible first | exact HB.out | apply below_alloc | apply pw_below_drewN | apply below_drew1) | exact HB.out))) : w.heap.size ≤ gb234)); clear HB; have HB := n0_; have BK234 := n1_; have GW234 := n2_; have GE234 := n3_; clear n0_ n1_ n2_ n3_; clear hb hbox hg) | ((with_reducible refine gate_dst (N := 4) rfl ?_); refine box_event ?hg (N := 4) ?hd (cs := #[.int .u64 0, .int .u64 0, .int .u64 0, .int .u64 0]) (t := 23) ?hr ?_; (case hd => rfl); (case hg => rfl); (case hr => first | (go_simp; done) | (go_simp; rfl)); intro gb235 hg w17 hbox hb; have n0_ := Aside0.mk (blk_below (g := gb234) (o := .cells #[.int .u64 a1_0, .int .u64 a1_1, .int .u64 a1_2, .int .u64 a1_3] 23 (0, 0)) (by (with_reducible repeat (first | refine blk_drewN ?_ _ | refine blk_drew ?_ | refine blk_alloc ?_ _)); exact BK234.out) hb); have n1_ := Aside0.mk (below_step (by repeat (first | (with_reducible first | exact HB.out | apply below_alloc | apply pw_below_drewN | apply below_drew1 | refine below_set ?_ GE234.out) | exact HB.out)) hb); have n2_ := Aside0.mk (hbox); have n3_ := Aside0.mk ((by rw [hg]; exact (below_size (by repeat (first | (with_reducible first | exact HB.out | apply below_alloc | apply pw_below_drewN | apply below_drew1 | refine below_set ?_ GE234.out) | exact HB.out))) : w.heap.size ≤ gb235)); have n4_ := Aside0.mk ((by rw [hg]; exact (below_size (by repeat (first | (with_reducible first | exact HB.out | apply below_alloc | apply pw_below_drewN | apply below_drew1 | refine below_set ?_ GE234.out) | exact HB.out))) : w.heap.size ≤ gb235)); have n5_ := Aside0.mk ((by rw [hg]; exact Nat.ne_of_lt (blk_lt (g := gb234) (o := .cells #[.int .u64 a1_0, .int .u64 a1_1, .int .u64 a1_2, .int .u64 a1_3] 23 (0, 0)) (by (with_reducible repeat (first | refine blk_drewN ?_ _ | refine blk_drew ?_ | refine blk_alloc ?_ _)); exact BK234.out)) : gb234 ≠ gb235)); have n6_ := Aside0.mk ((by rw [hg]; exact Nat.ne_of_gt (blk_lt (g := gb234) (o := .cells #[.int .u64 a1_0, .int .u64 a1_1, .int .u64 a1_2, .int .u64 a1_3] 23 (0, 0)) (by (with_reducible repeat (first | refine blk_drewN ?_ _ | refine blk_drew ?_ | refine blk_alloc ?_ _)); exact BK234.out)) : gb235 ≠ gb234)); clear BK234; clear HB; have BK234 := n0_; have HB := n1_; have BK235 := n2_; have GW235 := n3_; have GE235 := n4_; have NB234_235 := n5_; have NB235_234 := n6_; clear n0_ n1_ n2_ n3_ n4_ n5_ n6_; clear hb hbox hg) | ((with_reducible refine gate_callee (f := 31) rfl ?_); refine goesL_ (some 7) rfl rfl Tryd.func31 (by kernel_rfl) rfl #[.int .i64 a0] rfl (by (try simp only [List.map_toArray, List.map_cons, List.map_nil]); first | done | rfl | (simp only [List.length_drop, List.length_take]; rfl) | (go_simp; done) | (go_simp; rw [Int.tmod_eq_emod_of_nonneg (by omega)]; omega)) ?_; (with_reducible refine (attestorref01_Valid.calls a0 false _ A3.out).mono ?_); rintro e w' ⟨rfl, ⟨nd, rfl⟩⟩; refine ⟨_, rfl, ?_⟩; (try (rw [drewN_self w17]; generalize hq_ : World.drewN w17 _ = w17; have n0_ : Aside0 (w17.heap[gb234]? = some (.cells #[.int .u64 a1_0, .int .u64 a1_1, .int .u64 a1_2, .int .u64 a1_3] 23 (0, 0))) := ⟨by rw [← hq_]; exact (by (with_reducible repeat (first | refine blk_drewN ?_ _ | refine blk_drew ?_ | refine blk_alloc ?_ _)); exact BK234.out)⟩; have n1_ : Aside0 (w17.heap[gb235]? = some (.cells #[.int .u64 0, .int .u64 0, .int .u64 0, .int .u64 0] 23 (0, 0))) := ⟨by rw [← hq_]; exact (by (with_reducible repeat (first | refine blk_drewN ?_ _ | refine blk_drew ?_ | refine blk_alloc ?_ _)); exact BK235.out)⟩; have n2_ : Aside0 (Below w.heap.size w w17) := ⟨by rw [← hq_]; exact (by repeat (first | (with_reducible first | exact HB.out | apply below_alloc | apply pw_below_drewN | apply below_drew1 | refine below_set ?_ GE234.out | refine below_set ?_ GE235.out) | exact HB.out))⟩; clear BK234 BK235 HB hq_; have BK234 := n0_; have BK235 := n1_; have HB := n2_; clear n0_ n1_ n2_)); have hnb18 := NB235_234.out; have hnc18 := NB234_235.out; have hcz19_0 : w17.cell? ⟨gb235, 0, none⟩ = some (.int .u64 0) := (blk_cell BK235.out 0).trans rfl; have hcz19_1 : w17.cell? ⟨gb235, 1, none⟩ = some (.int .u64 0) := (blk_cell BK235.out 1).trans rfl; have hcz19_2 : w17.cell? ⟨gb235, 2, none⟩ = some (.int .u64 0) := (blk_cell BK235.out 2).trans rfl; have hcz19_3 : w17.cell? ⟨gb235, 3, none⟩ = some (.int .u64 0) := (blk_cell BK235.out 3).trans rfl; have hfz19_0 := blk_frozen BK235.out 0; have hfz19_1 := blk_frozen BK235.out 1; have hfz19_2 := blk_frozen BK235.out 2; have hfz19_3 := blk_frozen BK235.out 3))
    refine bodyPost_ret (results_cell_row rfl _ _ gb235 23 #[.int .u64 0, .int .u64 0, .int .u64 0, .int .u64 0] (0, 0) _ rfl (by (with_reducible repeat (first | refine blk_drewN ?_ _ | refine blk_drew ?_ | refine blk_alloc ?_ _)); refine blk_put (cs := #[.int .u64 0, .int .u64 0, .int .u64 0, .int .u64 0]) ?_ 3 _ rfl; (with_reducible repeat (first | refine blk_drewN ?_ _ | refine blk_drew ?_ | refine blk_alloc ?_ _)); refine blk_put (cs := #[.int .u64 0, .int .u64 0, .int .u64 0, .int .u64 0]) ?_ 2 _ rfl; (with_reducible repeat (first | refine blk_drewN ?_ _ | refine blk_drew ?_ | refine blk_alloc ?_ _)); refine blk_put (cs := #[.int .u64 0, .int .u64 0, .int .u64 0, .int .u64 0]) ?_ 1 _ rfl; (with_reducible repeat (first | refine blk_drewN ?_ _ | refine blk_drew ?_ | refine blk_alloc ?_ _)); refine blk_put (cs := #[.int .u64 0, .int .u64 0, .int .u64 0, .int .u64 0]) ?_ 0 _ rfl; (with_reducible repeat (first | refine blk_drewN ?_ _ | refine blk_drew ?_ | refine blk_alloc ?_ _)); exact BK235.out) Tryd.underlying23 rfl (by kernel_rfl)) rfl ?_
    exact ⟨by first | rfl | (simp [errW_none, errW_some] <;> rfl) | (simp [*, errW_none, errW_some] <;> rfl), by repeat (first | (with_reducible first | exact HB.out | apply below_alloc | apply pw_below_drewN | apply below_drew1 | refine below_set ?_ GE234.out | refine below_set ?_ GE235.out) | exact HB.out)⟩

end Go.Proofs.YtjfekjblnoagkaaDoor.Q
end
section
namespace Go.Proofs.YtjfekjblnoagkaaDoor.Q
open Go.RowKit Go.Proofs.YtjfekjblnoagkaaDoorW.PrintWords Go.Proofs.YtjfekjblnoagkaaDoorW.PrintLast Go.Proofs.YtjfekjblnoagkaaDoorW.PrintMore
open Go.Proofs.YtjfekjblnoagkaaDoor.Num
set_option linter.unusedVariables false
set_option linter.unusedSimpArgs false

theorem rconst_yes {f : Int} {p g e : Nat} (D : Fd f p g e) (k r pl : Nat) (hk : 66 < k) (hr : r < 8) (hp : pl < 4) : attestorref06_Constant.f k f r pl = some ((cst p g (4 * r + (pl + 1)) : Nat) : Int) := by
  obtain ⟨k, rfl⟩ : ∃ j, k = j + 1 + 1 := ⟨k - 2, by omega⟩
  unfold attestorref06_Constant.f
  rw [rvalid_yes D.F]
  simp only [Option.bind_some, if_true]
  rw [if_neg (by omega), if_neg (by omega), if_neg (by omega), decide_eq_false (by omega)]
  simp only [attestorref06_Constant.j0, Bool.false_eq_true, if_false]
  rw [rgen_eq, D.gen]
  simp only [Option.bind_some]
  rw [expo r pl hr hp, rpow_f D.F 6 (k + 1) g _ (by omega) (by omega) (by omega)]
  simp only [Option.bind_some]
  rw [show (7 : Int) = ((7 : Nat) : Int) from rfl, radd_f D.F]
  rfl
theorem rconst_no (f r pl : Int) (k : Nat) (h : ¬ ((0 ≤ f ∧ f < 4) ∧ (0 ≤ r ∧ r < 8) ∧ 0 ≤ pl ∧ pl < 4)) : attestorref06_Constant.f (k + 1) f r pl = some 0 := by
  unfold attestorref06_Constant.f
  by_cases h1 : 0 ≤ f ∧ f < 4
  · obtain ⟨p, F⟩ := fld_of h1.1 h1.2
    rw [rvalid_yes F]
    simp only [Option.bind_some, if_true]
    split
    · simp only [attestorref06_Constant.j0, if_true]
    · split
      · simp only [attestorref06_Constant.j0, if_true]
      · split
        · simp only [attestorref06_Constant.j0, if_true]
        · rw [decide_eq_true (by omega)]
          simp only [attestorref06_Constant.j0, if_true]
  · rw [rvalid_no h1]
    simp only [Option.bind_some, Bool.false_eq_true, if_false, attestorref06_Constant.j0, if_true]
theorem const_both (f r pl : Int) (k : Nat) (hk : 70 < k) : ∃ v, sponge_Constant.f k f r pl = some v ∧ attestorref06_Constant.f k f r pl = some v := by
  by_cases h : (0 ≤ f ∧ f < 4) ∧ (0 ≤ r ∧ r < 8) ∧ 0 ≤ pl ∧ pl < 4
  · obtain ⟨h1, h2, h3⟩ := h
    obtain ⟨p, g, e, D⟩ := fd_of h1.1 h1.2
    obtain ⟨r, rfl⟩ := Int.eq_ofNat_of_zero_le h2.1
    obtain ⟨pl, rfl⟩ := Int.eq_ofNat_of_zero_le h3.1
    exact ⟨_, const_yes D k r pl (by omega) (by omega) (by omega), rconst_yes D k r pl (by omega) (by omega) (by omega)⟩
  · obtain ⟨k, rfl⟩ : ∃ j, k = j + 1 := ⟨k - 1, by omega⟩
    exact ⟨0, const_no f r pl k h, rconst_no f r pl k h⟩
theorem pm (p e a c : Nat) : ((a + c) % p) ^ e % p = (a % p + c) ^ e % p := by
  rw [Nat.pow_mod (a % p + c) e p, Nat.mod_add_mod]
theorem rl0_0 (k : Nat) (f r s0 s1 s2 s3 : Int) : attestorref06_Round.l0 (k + 1) f r 0 s0 s1 s2 s3 = (attestorref06_Constant.f k f r 0).bind fun c => (attestorref01_Add.f f s0 c).bind fun v => attestorref06_Round.l0 k f r 1 v s1 s2 s3 := by
  rw [attestorref06_Round.l0, if_pos (by decide), if_pos (by decide), v01]
  rfl
theorem rl1_0 (k : Nat) (f s0 s1 s2 s3 : Int) : attestorref06_Round.l1 (k + 1) f 0 s0 s1 s2 s3 = (attestorref01_Exponent.f k f).bind fun c => (attestorref01_Pow.f k f s0 (IntKind.u64.wrap c)).bind fun v => attestorref06_Round.l1 k f 1 v s1 s2 s3 := by
  rw [attestorref06_Round.l1, if_pos (by decide), if_pos (by decide), v01]
  rfl
theorem rl2_0 (k : Nat) (f s0 s1 s2 s3 t0 t1 t2 t3 : Int) : attestorref06_Round.l2 (k + 1) f 0 s0 s1 s2 s3 t0 t1 t2 t3 = (attestorref06_row.f 0).bind fun m => attestorref06_Round.l3 k f 0 0 s0 s1 s2 s3 t0 t1 t2 t3 m.1 m.2.1 m.2.2.1 m.2.2.2 := by
  rw [attestorref06_Round.l2, if_pos (by decide)]
theorem rl3_00 (k : Nat) (f s0 s1 s2 s3 t0 t1 t2 t3 m0 m1 m2 m3 : Int) : attestorref06_Round.l3 (k + 1) f 0 0 s0 s1 s2 s3 t0 t1 t2 t3 m0 m1 m2 m3 = (attestorref01_Mul.f f m0 s0).bind fun c => (attestorref01_Add.f f t0 c).bind fun v => attestorref06_Round.l3 k f 0 1 s0 s1 s2 s3 v t1 t2 t3 m0 m1 m2 m3 := by
  rw [attestorref06_Round.l3, if_pos (by decide), if_pos (by decide), if_pos (by decide), if_pos (by decide), v01]
  rfl
theorem rl3_01 (k : Nat) (f s0 s1 s2 s3 t0 t1 t2 t3 m0 m1 m2 m3 : Int) : attestorref06_Round.l3 (k + 1) f 0 1 s0 s1 s2 s3 t0 t1 t2 t3 m0 m1 m2 m3 = (attestorref01_Mul.f f m1 s1).bind fun c => (attestorref01_Add.f f t0 c).bind fun v => attestorref06_Round.l3 k f 0 2 s0 s1 s2 s3 v t1 t2 t3 m0 m1 m2 m3 := by
  rw [attestorref06_Round.l3, if_pos (by decide), if_pos (by decide), if_pos (by decide), if_pos (by decide), v12]
  rfl
theorem rl3_02 (k : Nat) (f s0 s1 s2 s3 t0 t1 t2 t3 m0 m1 m2 m3 : Int) : attestorref06_Round.l3 (k + 1) f 0 2 s0 s1 s2 s3 t0 t1 t2 t3 m0 m1 m2 m3 = (attestorref01_Mul.f f m2 s2).bind fun c => (attestorref01_Add.f f t0 c).bind fun v => attestorref06_Round.l3 k f 0 3 s0 s1 s2 s3 v t1 t2 t3 m0 m1 m2 m3 := by
  rw [attestorref06_Round.l3, if_pos (by decide), if_pos (by decide), if_pos (by decide), if_pos (by decide), v23]
  rfl
theorem rl3_03 (k : Nat) (f s0 s1 s2 s3 t0 t1 t2 t3 m0 m1 m2 m3 : Int) : attestorref06_Round.l3 (k + 1) f 0 3 s0 s1 s2 s3 t0 t1 t2 t3 m0 m1 m2 m3 = (attestorref01_Mul.f f m3 s3).bind fun c => (attestorref01_Add.f f t0 c).bind fun v => attestorref06_Round.l3 k f 0 4 s0 s1 s2 s3 v t1 t2 t3 m0 m1 m2 m3 := by
  rw [attestorref06_Round.l3, if_pos (by decide), if_pos (by decide), if_pos (by decide), if_pos (by decide), v34]
  rfl
theorem rl3_04 (k : Nat) (f s0 s1 s2 s3 t0 t1 t2 t3 m0 m1 m2 m3 : Int) : attestorref06_Round.l3 (k + 1) f 0 4 s0 s1 s2 s3 t0 t1 t2 t3 m0 m1 m2 m3 = attestorref06_Round.l2 k f 1 s0 s1 s2 s3 t0 t1 t2 t3 := by
  rw [attestorref06_Round.l3, if_neg (by decide), v01]
theorem rl0_1 (k : Nat) (f r s0 s1 s2 s3 : Int) : attestorref06_Round.l0 (k + 1) f r 1 s0 s1 s2 s3 = (attestorref06_Constant.f k f r 1).bind fun c => (attestorref01_Add.f f s1 c).bind fun v => attestorref06_Round.l0 k f r 2 s0 v s2 s3 := by
  rw [attestorref06_Round.l0, if_pos (by decide), if_pos (by decide), v12]
  rfl
theorem rl1_1 (k : Nat) (f s0 s1 s2 s3 : Int) : attestorref06_Round.l1 (k + 1) f 1 s0 s1 s2 s3 = (attestorref01_Exponent.f k f).bind fun c => (attestorref01_Pow.f k f s1 (IntKind.u64.wrap c)).bind fun v => attestorref06_Round.l1 k f 2 s0 v s2 s3 := by
  rw [attestorref06_Round.l1, if_pos (by decide), if_pos (by decide), v12]
  rfl
theorem rl2_1 (k : Nat) (f s0 s1 s2 s3 t0 t1 t2 t3 : Int) : attestorref06_Round.l2 (k + 1) f 1 s0 s1 s2 s3 t0 t1 t2 t3 = (attestorref06_row.f 1).bind fun m => attestorref06_Round.l3 k f 1 0 s0 s1 s2 s3 t0 t1 t2 t3 m.1 m.2.1 m.2.2.1 m.2.2.2 := by
  rw [attestorref06_Round.l2, if_pos (by decide)]
theorem rl3_10 (k : Nat) (f s0 s1 s2 s3 t0 t1 t2 t3 m0 m1 m2 m3 : Int) : attestorref06_Round.l3 (k + 1) f 1 0 s0 s1 s2 s3 t0 t1 t2 t3 m0 m1 m2 m3 = (attestorref01_Mul.f f m0 s0).bind fun c => (attestorref01_Add.f f t1 c).bind fun v => attestorref06_Round.l3 k f 1 1 s0 s1 s2 s3 t0 v t2 t3 m0 m1 m2 m3 := by
  rw [attestorref06_Round.l3, if_pos (by decide), if_pos (by decide), if_pos (by decide), if_pos (by decide), v01]
  rfl
theorem rl3_11 (k : Nat) (f s0 s1 s2 s3 t0 t1 t2 t3 m0 m1 m2 m3 : Int) : attestorref06_Round.l3 (k + 1) f 1 1 s0 s1 s2 s3 t0 t1 t2 t3 m0 m1 m2 m3 = (attestorref01_Mul.f f m1 s1).bind fun c => (attestorref01_Add.f f t1 c).bind fun v => attestorref06_Round.l3 k f 1 2 s0 s1 s2 s3 t0 v t2 t3 m0 m1 m2 m3 := by
  rw [attestorref06_Round.l3, if_pos (by decide), if_pos (by decide), if_pos (by decide), if_pos (by decide), v12]
  rfl
theorem rl3_12 (k : Nat) (f s0 s1 s2 s3 t0 t1 t2 t3 m0 m1 m2 m3 : Int) : attestorref06_Round.l3 (k + 1) f 1 2 s0 s1 s2 s3 t0 t1 t2 t3 m0 m1 m2 m3 = (attestorref01_Mul.f f m2 s2).bind fun c => (attestorref01_Add.f f t1 c).bind fun v => attestorref06_Round.l3 k f 1 3 s0 s1 s2 s3 t0 v t2 t3 m0 m1 m2 m3 := by
  rw [attestorref06_Round.l3, if_pos (by decide), if_pos (by decide), if_pos (by decide), if_pos (by decide), v23]
  rfl
theorem rl3_13 (k : Nat) (f s0 s1 s2 s3 t0 t1 t2 t3 m0 m1 m2 m3 : Int) : attestorref06_Round.l3 (k + 1) f 1 3 s0 s1 s2 s3 t0 t1 t2 t3 m0 m1 m2 m3 = (attestorref01_Mul.f f m3 s3).bind fun c => (attestorref01_Add.f f t1 c).bind fun v => attestorref06_Round.l3 k f 1 4 s0 s1 s2 s3 t0 v t2 t3 m0 m1 m2 m3 := by
  rw [attestorref06_Round.l3, if_pos (by decide), if_pos (by decide), if_pos (by decide), if_pos (by decide), v34]
  rfl
theorem rl3_14 (k : Nat) (f s0 s1 s2 s3 t0 t1 t2 t3 m0 m1 m2 m3 : Int) : attestorref06_Round.l3 (k + 1) f 1 4 s0 s1 s2 s3 t0 t1 t2 t3 m0 m1 m2 m3 = attestorref06_Round.l2 k f 2 s0 s1 s2 s3 t0 t1 t2 t3 := by
  rw [attestorref06_Round.l3, if_neg (by decide), v12]
theorem rl0_2 (k : Nat) (f r s0 s1 s2 s3 : Int) : attestorref06_Round.l0 (k + 1) f r 2 s0 s1 s2 s3 = (attestorref06_Constant.f k f r 2).bind fun c => (attestorref01_Add.f f s2 c).bind fun v => attestorref06_Round.l0 k f r 3 s0 s1 v s3 := by
  rw [attestorref06_Round.l0, if_pos (by decide), if_pos (by decide), v23]
  rfl
theorem rl1_2 (k : Nat) (f s0 s1 s2 s3 : Int) : attestorref06_Round.l1 (k + 1) f 2 s0 s1 s2 s3 = (attestorref01_Exponent.f k f).bind fun c => (attestorref01_Pow.f k f s2 (IntKind.u64.wrap c)).bind fun v => attestorref06_Round.l1 k f 3 s0 s1 v s3 := by
  rw [attestorref06_Round.l1, if_pos (by decide), if_pos (by decide), v23]
  rfl
theorem rl2_2 (k : Nat) (f s0 s1 s2 s3 t0 t1 t2 t3 : Int) : attestorref06_Round.l2 (k + 1) f 2 s0 s1 s2 s3 t0 t1 t2 t3 = (attestorref06_row.f 2).bind fun m => attestorref06_Round.l3 k f 2 0 s0 s1 s2 s3 t0 t1 t2 t3 m.1 m.2.1 m.2.2.1 m.2.2.2 := by
  rw [attestorref06_Round.l2, if_pos (by decide)]
theorem rl3_20 (k : Nat) (f s0 s1 s2 s3 t0 t1 t2 t3 m0 m1 m2 m3 : Int) : attestorref06_Round.l3 (k + 1) f 2 0 s0 s1 s2 s3 t0 t1 t2 t3 m0 m1 m2 m3 = (attestorref01_Mul.f f m0 s0).bind fun c => (attestorref01_Add.f f t2 c).bind fun v => attestorref06_Round.l3 k f 2 1 s0 s1 s2 s3 t0 t1 v t3 m0 m1 m2 m3 := by
  rw [attestorref06_Round.l3, if_pos (by decide), if_pos (by decide), if_pos (by decide), if_pos (by decide), v01]
  rfl
theorem rl3_21 (k : Nat) (f s0 s1 s2 s3 t0 t1 t2 t3 m0 m1 m2 m3 : Int) : attestorref06_Round.l3 (k + 1) f 2 1 s0 s1 s2 s3 t0 t1 t2 t3 m0 m1 m2 m3 = (attestorref01_Mul.f f m1 s1).bind fun c => (attestorref01_Add.f f t2 c).bind fun v => attestorref06_Round.l3 k f 2 2 s0 s1 s2 s3 t0 t1 v t3 m0 m1 m2 m3 := by
  rw [attestorref06_Round.l3, if_pos (by decide), if_pos (by decide), if_pos (by decide), if_pos (by decide), v12]
  rfl
theorem rl3_22 (k : Nat) (f s0 s1 s2 s3 t0 t1 t2 t3 m0 m1 m2 m3 : Int) : attestorref06_Round.l3 (k + 1) f 2 2 s0 s1 s2 s3 t0 t1 t2 t3 m0 m1 m2 m3 = (attestorref01_Mul.f f m2 s2).bind fun c => (attestorref01_Add.f f t2 c).bind fun v => attestorref06_Round.l3 k f 2 3 s0 s1 s2 s3 t0 t1 v t3 m0 m1 m2 m3 := by
  rw [attestorref06_Round.l3, if_pos (by decide), if_pos (by decide), if_pos (by decide), if_pos (by decide), v23]
  rfl
theorem rl3_23 (k : Nat) (f s0 s1 s2 s3 t0 t1 t2 t3 m0 m1 m2 m3 : Int) : attestorref06_Round.l3 (k + 1) f 2 3 s0 s1 s2 s3 t0 t1 t2 t3 m0 m1 m2 m3 = (attestorref01_Mul.f f m3 s3).bind fun c => (attestorref01_Add.f f t2 c).bind fun v => attestorref06_Round.l3 k f 2 4 s0 s1 s2 s3 t0 t1 v t3 m0 m1 m2 m3 := by
  rw [attestorref06_Round.l3, if_pos (by decide), if_pos (by decide), if_pos (by decide), if_pos (by decide), v34]
  rfl
theorem rl3_24 (k : Nat) (f s0 s1 s2 s3 t0 t1 t2 t3 m0 m1 m2 m3 : Int) : attestorref06_Round.l3 (k + 1) f 2 4 s0 s1 s2 s3 t0 t1 t2 t3 m0 m1 m2 m3 = attestorref06_Round.l2 k f 3 s0 s1 s2 s3 t0 t1 t2 t3 := by
  rw [attestorref06_Round.l3, if_neg (by decide), v23]
theorem rl0_3 (k : Nat) (f r s0 s1 s2 s3 : Int) : attestorref06_Round.l0 (k + 1) f r 3 s0 s1 s2 s3 = (attestorref06_Constant.f k f r 3).bind fun c => (attestorref01_Add.f f s3 c).bind fun v => attestorref06_Round.l0 k f r 4 s0 s1 s2 v := by
  rw [attestorref06_Round.l0, if_pos (by decide), if_pos (by decide), v34]
  rfl
theorem rl1_3 (k : Nat) (f s0 s1 s2 s3 : Int) : attestorref06_Round.l1 (k + 1) f 3 s0 s1 s2 s3 = (attestorref01_Exponent.f k f).bind fun c => (attestorref01_Pow.f k f s3 (IntKind.u64.wrap c)).bind fun v => attestorref06_Round.l1 k f 4 s0 s1 s2 v := by
  rw [attestorref06_Round.l1, if_pos (by decide), if_pos (by decide), v34]
  rfl
theorem rl2_3 (k : Nat) (f s0 s1 s2 s3 t0 t1 t2 t3 : Int) : attestorref06_Round.l2 (k + 1) f 3 s0 s1 s2 s3 t0 t1 t2 t3 = (attestorref06_row.f 3).bind fun m => attestorref06_Round.l3 k f 3 0 s0 s1 s2 s3 t0 t1 t2 t3 m.1 m.2.1 m.2.2.1 m.2.2.2 := by
  rw [attestorref06_Round.l2, if_pos (by decide)]
theorem rl3_30 (k : Nat) (f s0 s1 s2 s3 t0 t1 t2 t3 m0 m1 m2 m3 : Int) : attestorref06_Round.l3 (k + 1) f 3 0 s0 s1 s2 s3 t0 t1 t2 t3 m0 m1 m2 m3 = (attestorref01_Mul.f f m0 s0).bind fun c => (attestorref01_Add.f f t3 c).bind fun v => attestorref06_Round.l3 k f 3 1 s0 s1 s2 s3 t0 t1 t2 v m0 m1 m2 m3 := by
  rw [attestorref06_Round.l3, if_pos (by decide), if_pos (by decide), if_pos (by decide), if_pos (by decide), v01]
  rfl
theorem rl3_31 (k : Nat) (f s0 s1 s2 s3 t0 t1 t2 t3 m0 m1 m2 m3 : Int) : attestorref06_Round.l3 (k + 1) f 3 1 s0 s1 s2 s3 t0 t1 t2 t3 m0 m1 m2 m3 = (attestorref01_Mul.f f m1 s1).bind fun c => (attestorref01_Add.f f t3 c).bind fun v => attestorref06_Round.l3 k f 3 2 s0 s1 s2 s3 t0 t1 t2 v m0 m1 m2 m3 := by
  rw [attestorref06_Round.l3, if_pos (by decide), if_pos (by decide), if_pos (by decide), if_pos (by decide), v12]
  rfl
theorem rl3_32 (k : Nat) (f s0 s1 s2 s3 t0 t1 t2 t3 m0 m1 m2 m3 : Int) : attestorref06_Round.l3 (k + 1) f 3 2 s0 s1 s2 s3 t0 t1 t2 t3 m0 m1 m2 m3 = (attestorref01_Mul.f f m2 s2).bind fun c => (attestorref01_Add.f f t3 c).bind fun v => attestorref06_Round.l3 k f 3 3 s0 s1 s2 s3 t0 t1 t2 v m0 m1 m2 m3 := by
  rw [attestorref06_Round.l3, if_pos (by decide), if_pos (by decide), if_pos (by decide), if_pos (by decide), v23]
  rfl
theorem rl3_33 (k : Nat) (f s0 s1 s2 s3 t0 t1 t2 t3 m0 m1 m2 m3 : Int) : attestorref06_Round.l3 (k + 1) f 3 3 s0 s1 s2 s3 t0 t1 t2 t3 m0 m1 m2 m3 = (attestorref01_Mul.f f m3 s3).bind fun c => (attestorref01_Add.f f t3 c).bind fun v => attestorref06_Round.l3 k f 3 4 s0 s1 s2 s3 t0 t1 t2 v m0 m1 m2 m3 := by
  rw [attestorref06_Round.l3, if_pos (by decide), if_pos (by decide), if_pos (by decide), if_pos (by decide), v34]
  rfl
theorem rl3_34 (k : Nat) (f s0 s1 s2 s3 t0 t1 t2 t3 m0 m1 m2 m3 : Int) : attestorref06_Round.l3 (k + 1) f 3 4 s0 s1 s2 s3 t0 t1 t2 t3 m0 m1 m2 m3 = attestorref06_Round.l2 k f 4 s0 s1 s2 s3 t0 t1 t2 t3 := by
  rw [attestorref06_Round.l3, if_neg (by decide), v34]
theorem rl0_4 (k : Nat) (f r s0 s1 s2 s3 : Int) : attestorref06_Round.l0 (k + 1) f r 4 s0 s1 s2 s3 = attestorref06_Round.l1 k f 0 s0 s1 s2 s3 := by
  rw [attestorref06_Round.l0, if_neg (by decide)]
theorem rl1_4 (k : Nat) (f s0 s1 s2 s3 : Int) : attestorref06_Round.l1 (k + 1) f 4 s0 s1 s2 s3 = attestorref06_Round.l2 k f 0 s0 s1 s2 s3 0 0 0 0 := by
  rw [attestorref06_Round.l1, if_neg (by decide)]
theorem rl2_4 (k : Nat) (f s0 s1 s2 s3 t0 t1 t2 t3 : Int) : attestorref06_Round.l2 (k + 1) f 4 s0 s1 s2 s3 t0 t1 t2 t3 = some (t0, t1, t2, t3) := by
  rw [attestorref06_Round.l2, if_neg (by decide)]
set_option maxRecDepth 100000 in
theorem rround_yes {f : Int} {p g e : Nat} (D : Fd f p g e) (k r : Nat) (hk : 120 < k) (hr : r < 8) (s : S4) : attestorref06_Round.f k f r s.a s.b s.c s.d = some (rn p g e (4 * r) (red p s)).o := by
  obtain ⟨k, rfl⟩ : ∃ j, k = j + 40 := ⟨k - 40, by omega⟩
  have c0 : ∀ k, 66 < k → attestorref06_Constant.f k f r 0 = some ((cst p g (4 * r + 1) : Nat) : Int) := fun k hk => rconst_yes D k r 0 hk hr (by omega)
  have c1 : ∀ k, 66 < k → attestorref06_Constant.f k f r 1 = some ((cst p g (4 * r + 2) : Nat) : Int) := fun k hk => rconst_yes D k r 1 hk hr (by omega)
  have c2 : ∀ k, 66 < k → attestorref06_Constant.f k f r 2 = some ((cst p g (4 * r + 3) : Nat) : Int) := fun k hk => rconst_yes D k r 2 hk hr (by omega)
  have c3 : ∀ k, 66 < k → attestorref06_Constant.f k f r 3 = some ((cst p g (4 * r + 4) : Nat) : Int) := fun k hk => rconst_yes D k r 3 hk hr (by omega)
  have he : e < 8 := by rcases D.e53 with h | h <;> omega
  have ex : ∀ k, 0 < k → attestorref01_Exponent.f k f = some (e : Int) := fun k hk => by
    obtain ⟨j, rfl⟩ : ∃ j, k = j + 1 := ⟨k - 1, by omega⟩
    rw [rexp_eq, D.exp]
  have rp : ∀ (k a : Nat), 10 < k → attestorref01_Pow.f k f a (IntKind.u64.wrap (e : Int)) = some ((a ^ e % p : Nat) : Int) := fun k a hk => by
    rw [wrapU (by omega)]
    exact rpow_f D.F 3 k a e (by omega) (by omega) (by omega)
  have ra : ∀ a b : Nat, attestorref01_Add.f f a b = some (((a + b) % p : Nat) : Int) := fun a b => radd_f D.F a b
  have ra0 : ∀ b : Nat, attestorref01_Add.f f 0 b = some (((0 + b) % p : Nat) : Int) := fun b => radd_f D.F 0 b
  have m1 : ∀ b : Nat, attestorref01_Mul.f f 1 b = some ((1 * b % p : Nat) : Int) := fun b => rmul_f D.F 1 b
  have m2 : ∀ b : Nat, attestorref01_Mul.f f 2 b = some ((2 * b % p : Nat) : Int) := fun b => rmul_f D.F 2 b
  have m3 : ∀ b : Nat, attestorref01_Mul.f f 3 b = some ((3 * b % p : Nat) : Int) := fun b => rmul_f D.F 3 b
  have w0 : attestorref06_row.f 0 = some (2, 3, 1, 1) := by simp [attestorref06_row.f]
  have w1 : attestorref06_row.f 1 = some (1, 2, 3, 1) := by simp [attestorref06_row.f]
  have w2 : attestorref06_row.f 2 = some (1, 1, 2, 3) := by simp [attestorref06_row.f]
  have w3 : attestorref06_row.f 3 = some (3, 1, 1, 2) := by simp [attestorref06_row.f]
  unfold attestorref06_Round.f
  refine bnd (rvalid_yes D.F) ?_
  rw [if_pos rfl, if_neg (by omega), decide_eq_false (by omega)]
  rw [attestorref06_Round.j0]
  rw [if_neg (by decide)]
  clear he
  rw [rl0_0]
  refine bnd (c0 _ (by omega)) (bnd (ra _ _) ?_)
  rw [rl0_1]
  refine bnd (c1 _ (by omega)) (bnd (ra _ _) ?_)
  rw [rl0_2]
  refine bnd (c2 _ (by omega)) (bnd (ra _ _) ?_)
  rw [rl0_3]
  refine bnd (c3 _ (by omega)) (bnd (ra _ _) ?_)
  rw [rl0_4]
  rw [rl1_0]
  refine bnd (ex _ (by omega)) (bnd (rp _ _ (by omega)) ?_)
  rw [rl1_1]
  refine bnd (ex _ (by omega)) (bnd (rp _ _ (by omega)) ?_)
  rw [rl1_2]
  refine bnd (ex _ (by omega)) (bnd (rp _ _ (by omega)) ?_)
  rw [rl1_3]
  refine bnd (ex _ (by omega)) (bnd (rp _ _ (by omega)) ?_)
  rw [rl1_4]
  rw [rl2_0]
  refine bnd w0 ?_
  rw [rl3_00]
  refine bnd (m2 _) (bnd (ra0 _) ?_)
  rw [rl3_01]
  refine bnd (m3 _) (bnd (ra _ _) ?_)
  rw [rl3_02]
  refine bnd (m1 _) (bnd (ra _ _) ?_)
  rw [rl3_03]
  refine bnd (m1 _) (bnd (ra _ _) ?_)
  rw [rl3_04]
  rw [rl2_1]
  refine bnd w1 ?_
  rw [rl3_10]
  refine bnd (m1 _) (bnd (ra0 _) ?_)
  rw [rl3_11]
  refine bnd (m2 _) (bnd (ra _ _) ?_)
  rw [rl3_12]
  refine bnd (m3 _) (bnd (ra _ _) ?_)
  rw [rl3_13]
  refine bnd (m1 _) (bnd (ra _ _) ?_)
  rw [rl3_14]
  rw [rl2_2]
  refine bnd w2 ?_
  rw [rl3_20]
  refine bnd (m1 _) (bnd (ra0 _) ?_)
  rw [rl3_21]
  refine bnd (m1 _) (bnd (ra _ _) ?_)
  rw [rl3_22]
  refine bnd (m2 _) (bnd (ra _ _) ?_)
  rw [rl3_23]
  refine bnd (m3 _) (bnd (ra _ _) ?_)
  rw [rl3_24]
  rw [rl2_3]
  refine bnd w3 ?_
  rw [rl3_30]
  refine bnd (m3 _) (bnd (ra0 _) ?_)
  rw [rl3_31]
  refine bnd (m1 _) (bnd (ra _ _) ?_)
  rw [rl3_32]
  refine bnd (m1 _) (bnd (ra _ _) ?_)
  rw [rl3_33]
  refine bnd (m2 _) (bnd (ra _ _) ?_)
  rw [rl3_34]
  rw [rl2_4]
  congr 1
  simp only [pm, S4.o, rn, mixd, red]
  generalize (s.a % p + cst p g (4 * r + 1)) ^ e % p = w
  generalize (s.b % p + cst p g (4 * r + 2)) ^ e % p = x
  generalize (s.c % p + cst p g (4 * r + 3)) ^ e % p = y
  generalize (s.d % p + cst p g (4 * r + 4)) ^ e % p = z
  simp only [Nat.zero_add, Nat.one_mul, Nat.mod_mod, Nat.add_mod_mod, Nat.mod_add_mod]
theorem rround_no (f r a b c d : Int) (k : Nat) (h : ¬ ((0 ≤ f ∧ f < 4) ∧ 0 ≤ r ∧ r < 8)) : attestorref06_Round.f (k + 1) f r a b c d = some (0, 0, 0, 0) := by
  unfold attestorref06_Round.f
  by_cases h1 : 0 ≤ f ∧ f < 4
  · obtain ⟨p, F⟩ := fld_of h1.1 h1.2
    rw [rvalid_yes F]
    simp only [Option.bind_some, if_true]
    split
    · simp only [attestorref06_Round.j0, if_true]
    · rw [decide_eq_true (by omega)]
      simp only [attestorref06_Round.j0, if_true]
  · rw [rvalid_no h1]
    simp only [Option.bind_some, Bool.false_eq_true, if_false, attestorref06_Round.j0, if_true]
theorem round_both (f r : Int) (s : S4) (k : Nat) (hk : 120 < k) : ∃ v : S4, sponge_Round.f k f r s.a s.b s.c s.d = some v.o ∧ attestorref06_Round.f k f r s.a s.b s.c s.d = some v.o := by
  by_cases h : (0 ≤ f ∧ f < 4) ∧ 0 ≤ r ∧ r < 8
  · obtain ⟨h1, h2⟩ := h
    obtain ⟨p, g, e, D⟩ := fd_of h1.1 h1.2
    obtain ⟨r, rfl⟩ := Int.eq_ofNat_of_zero_le h2.1
    exact ⟨_, Round_yes D k r (by omega) (by omega) s, rround_yes D k r (by omega) (by omega) s⟩
  · obtain ⟨k, rfl⟩ : ∃ j, k = j + 1 := ⟨k - 1, by omega⟩
    exact ⟨⟨0, 0, 0, 0⟩, Round_no f r _ _ _ _ _ h, rround_no f r _ _ _ _ _ h⟩
theorem rperm_l0 {f : Int} {p g e : Nat} (D : Fd f p g e) (s : S4) : ∀ (m n k : Nat), n + m = 8 → 120 + m < k → ∀ t : S4, red p t = prm p g e n (red p s) → (m = 0 → t = prm p g e n (red p s)) →
    attestorref06_Perm.l0 k f n t.a t.b t.c t.d = some (prm p g e 8 (red p s)).o := by
  intro m
  induction m with
  | zero =>
    intro n k hn hk t _ ht
    obtain rfl : n = 8 := by omega
    obtain ⟨k, rfl⟩ : ∃ j, k = j + 1 := ⟨k - 1, by omega⟩
    rw [attestorref06_Perm.l0, if_neg (by omega), ht rfl]
    rfl
  | succ m ih =>
    intro n k hn hk t ht _
    obtain ⟨k, rfl⟩ : ∃ j, k = j + 1 := ⟨k - 1, by omega⟩
    rw [attestorref06_Perm.l0, if_pos (by omega)]
    refine bnd (rround_yes D k n (by omega) (by omega) t) ?_
    rw [ht, ← prm_succ]
    simp only [S4.o]
    rw [wrapS (x := (n : Int) + 1) (by omega) (by omega), show ((n : Int) + 1) = ((n + 1 : Nat) : Int) from rfl]
    exact ih (n + 1) k (by omega) (by omega) _ (red_id (prm_lt D.pos g e (red p s) (red_lt D.pos s) (n + 1))) (fun _ => rfl)
theorem rPerm_f {f : Int} {p g e : Nat} (D : Fd f p g e) (k : Nat) (hk : 130 < k) (s : S4) : attestorref06_Perm.f k f s.a s.b s.c s.d = some (prm p g e 8 (red p s)).o := by
  unfold attestorref06_Perm.f
  refine bnd (rvalid_yes D.F) ?_
  rw [if_pos rfl]
  exact rperm_l0 D s 8 0 k rfl (by omega) s rfl (fun h => absurd h (by decide))
theorem rPerm_no {f : Int} (k : Nat) (h : ¬ (0 ≤ f ∧ f < 4)) (a b c d : Int) : attestorref06_Perm.f k f a b c d = some (0, 0, 0, 0) := by
  unfold attestorref06_Perm.f
  rw [rvalid_no h]
  rfl
end Go.Proofs.YtjfekjblnoagkaaDoor.Q
end
section
namespace Go.Proofs.YtjfekjblnoagkaaDoor.Q
open Go.RowKit Go.Proofs.YtjfekjblnoagkaaDoorW.PrintWords Go.Proofs.YtjfekjblnoagkaaDoorW.PrintLast Go.Proofs.YtjfekjblnoagkaaDoorW.PrintMore
open Go.Proofs.YtjfekjblnoagkaaDoor.Num
set_option linter.unusedVariables false
set_option linter.unusedSimpArgs false

theorem lives_true (k : Nat) (hk : 200 ≤ k) : attestorlaw06_lives.f k = some true := by
  have h : attestorlaw06_lives.f 200 = some true := by decide +kernel
  exact at_rounds (g := fun k => attestorlaw06_lives.f k) attestorlaw06_lives.mono hk h
theorem nat4 {a b c d : Int} (ha : 0 ≤ a) (hb : 0 ≤ b) (hc : 0 ≤ c) (hd : 0 ≤ d) : ∃ s : S4, a = (s.a : Int) ∧ b = (s.b : Int) ∧ c = (s.c : Int) ∧ d = (s.d : Int) := by
  obtain ⟨a, rfl⟩ := Int.eq_ofNat_of_zero_le ha
  obtain ⟨b, rfl⟩ := Int.eq_ofNat_of_zero_le hb
  obtain ⟨c, rfl⟩ := Int.eq_ofNat_of_zero_le hc
  obtain ⟨d, rfl⟩ := Int.eq_ofNat_of_zero_le hd
  exact ⟨⟨a, b, c, d⟩, rfl, rfl, rfl, rfl⟩
/-- The field that the number 'which' names. -/
theorem which_f (a : Int) (ha : 0 ≤ a ∧ a < 256) : 0 ≤ wrap64 (Int.tmod a 4) ∧ wrap64 (Int.tmod a 4) < 4 := by
  rw [Int.tmod_eq_emod_of_nonneg ha.1, wrapS (by omega) (by omega)]
  omega
end Go.Proofs.YtjfekjblnoagkaaDoor.Q
end
section
namespace Go.Proofs.YtjfekjblnoagkaaDoor.Q
open Go.RowKit Go.Proofs.YtjfekjblnoagkaaDoorW.PrintWords Go.Proofs.YtjfekjblnoagkaaDoorW.PrintLast Go.Proofs.YtjfekjblnoagkaaDoorW.PrintMore
attribute [local go_sem] max2_int min2_int max_two min_two max_three min_three max_four min_four   -- for this text's walks alone
set_option linter.unusedVariables false
set_option linter.unusedSimpArgs false

/-! ### field_Neg: function 52 -/
def field_Neg.f (a0 : Int) (a1 : Int) : Option (Int) := (field_P.f a0).bind fun t241 => (if t241 = 0 then (some 0) else (if (Int.tmod a1 t241) = 0 then (some 0) else (some (IntKind.u64.wrap (t241 - (Int.tmod a1 t241))))))
set_option maxHeartbeats 8000000 in
set_option maxRecDepth 100000 in
theorem field_Neg.calls (a0 : Int) (a1 : Int) (r : Int) (w : World) (hrG : GL w) (h : field_Neg.f a0 a1 = some r) :
    Calls Tryd.prog 52 #[.int .i64 a0, .int .u64 a1] w fun e w' => e = .returned (.int .u64 r) ∧ Below w.heap.size w w' := by
  have HRG := Aside0.mk hrG
  clear hrG
  have HB := Aside0.mk (Below.refl w.heap.size w)
  have H : ((field_P.f a0).bind fun t241 => (if t241 = 0 then (some 0) else (if (Int.tmod a1 t241) = 0 then (some 0) else (some (IntKind.u64.wrap (t241 - (Int.tmod a1 t241))))))) = some r := h
  clear h
  replace H := Option.bind_eq_some_iff.mp H
  obtain ⟨t241, A30, H⟩ := H
  replace H : (if t241 = 0 then (some 0) else (if (Int.tmod a1 t241) = 0 then (some 0) else (some (IntKind.u64.wrap (t241 - (Int.tmod a1 t241)))))) = some r := H
  have A3 := Aside0.mk A30
  clear A30
  by_cases c4 : t241 = 0
  · rw [if_pos c4] at H
    have c4b0 : (t241 == 0) = true := beq_iff_eq.mpr c4
    have c4b1 : (t241 != 0) = false := bne_eq_false_iff_eq.mpr c4
    clear c4
    obtain rfl := Option.some.inj H
    go_enter Tryd.func52, Tryd.ntmps52
    go_wp2_with (first | ((with_reducible refine gate_callee (f := 43) rfl ?_); refine goesL_ (some 7) rfl rfl Tryd.func43 (by kernel_rfl) rfl #[.int .i64 a0] rfl (by (try simp only [List.map_toArray, List.map_cons, List.map_nil]); first | done | rfl | (simp only [List.length_drop, List.length_take]; rfl) | (go_simp; done) | (go_simp; rw [Int.tmod_eq_emod_of_nonneg (by omega)]; omega)) ?_; (with_reducible refine (field_P.calls a0 t241 _ ?side1 A3.out).mono ?_); (case side1 => repeat (first | exact HRG.out | (with_reducible refine GL.alloc ?_ _) | (with_reducible refine GL.drewN ?_ _) | (with_reducible refine GL.drew ?_))); rintro e w5 ⟨rfl, hb⟩; refine ⟨_, rfl, ?_⟩; have n0_ := Aside0.mk (below_step (by repeat (first | (with_reducible first | exact HB.out | apply below_alloc | apply pw_below_drewN | apply below_drew1) | exact HB.out)) hb); clear HB; have HB := n0_; clear n0_; (try clear hb); (try clear hb2); (try clear hk); (try clear hi)))
    go_ret
    exact ⟨by first | rfl | (simp [errW_none, errW_some] <;> rfl) | (simp [*, errW_none, errW_some] <;> rfl), by repeat (first | (with_reducible first | exact HB.out | apply below_alloc | apply pw_below_drewN | apply below_drew1) | exact HB.out)⟩
  · rw [if_neg c4] at H
    have c4b0 : (t241 == 0) = false := beq_eq_false_iff_ne.mpr c4
    have c4b1 : (t241 != 0) = true := bne_iff_ne.mpr c4
    by_cases c6 : (Int.tmod a1 t241) = 0
    · rw [if_pos c6] at H
      have c6b0 : ((Int.tmod a1 t241) == 0) = true := beq_iff_eq.mpr c6
      have c6b1 : ((Int.tmod a1 t241) != 0) = false := bne_eq_false_iff_eq.mpr c6
      clear c6
      obtain rfl := Option.some.inj H
      go_enter Tryd.func52, Tryd.ntmps52
      go_wp2_with (first | ((with_reducible refine gate_callee (f := 43) rfl ?_); refine goesL_ (some 7) rfl rfl Tryd.func43 (by kernel_rfl) rfl #[.int .i64 a0] rfl (by (try simp only [List.map_toArray, List.map_cons, List.map_nil]); first | done | rfl | (simp only [List.length_drop, List.length_take]; rfl) | (go_simp; done) | (go_simp; rw [Int.tmod_eq_emod_of_nonneg (by omega)]; omega)) ?_; (with_reducible refine (field_P.calls a0 t241 _ ?side1 A3.out).mono ?_); (case side1 => repeat (first | exact HRG.out | (with_reducible refine GL.alloc ?_ _) | (with_reducible refine GL.drewN ?_ _) | (with_reducible refine GL.drew ?_))); rintro e w7 ⟨rfl, hb⟩; refine ⟨_, rfl, ?_⟩; have n0_ := Aside0.mk (below_step (by repeat (first | (with_reducible first | exact HB.out | apply below_alloc | apply pw_below_drewN | apply below_drew1) | exact HB.out)) hb); clear HB; have HB := n0_; clear n0_; (try clear hb); (try clear hb2); (try clear hk); (try clear hi)))
      go_ret
      exact ⟨by first | rfl | (simp [errW_none, errW_some] <;> rfl) | (simp [*, errW_none, errW_some] <;> rfl), by repeat (first | (with_reducible first | exact HB.out | apply below_alloc | apply pw_below_drewN | apply below_drew1) | exact HB.out)⟩
    · rw [if_neg c6] at H
      have c6b0 : ((Int.tmod a1 t241) == 0) = false := beq_eq_false_iff_ne.mpr c6
      have c6b1 : ((Int.tmod a1 t241) != 0) = true := bne_iff_ne.mpr c6
      obtain rfl := Option.some.inj H
      go_enter Tryd.func52, Tryd.ntmps52
      go_wp2_with (first | ((with_reducible refine gate_callee (f := 43) rfl ?_); refine goesL_ (some 7) rfl rfl Tryd.func43 (by kernel_rfl) rfl #[.int .i64 a0] rfl (by (try simp only [List.map_toArray, List.map_cons, List.map_nil]); first | done | rfl | (simp only [List.length_drop, List.length_take]; rfl) | (go_simp; done) | (go_simp; rw [Int.tmod_eq_emod_of_nonneg (by omega)]; omega)) ?_; (with_reducible refine (field_P.calls a0 t241 _ ?side1 A3.out).mono ?_); (case side1 => repeat (first | exact HRG.out | (with_reducible refine GL.alloc ?_ _) | (with_reducible refine GL.drewN ?_ _) | (with_reducible refine GL.drew ?_))); rintro e w8 ⟨rfl, hb⟩; refine ⟨_, rfl, ?_⟩; have n0_ := Aside0.mk (below_step (by repeat (first | (with_reducible first | exact HB.out | apply below_alloc | apply pw_below_drewN | apply below_drew1) | exact HB.out)) hb); clear HB; have HB := n0_; clear n0_; (try clear hb); (try clear hb2); (try clear hk); (try clear hi)))
      go_ret
      exact ⟨by first | rfl | (simp [errW_none, errW_some] <;> rfl) | (simp [*, errW_none, errW_some] <;> rfl), by repeat (first | (with_reducible first | exact HB.out | apply below_alloc | apply pw_below_drewN | apply below_drew1) | exact HB.out)⟩

end Go.Proofs.YtjfekjblnoagkaaDoor.Q
end
section
namespace Go.Proofs.YtjfekjblnoagkaaDoor.Q
open Go.RowKit Go.Proofs.YtjfekjblnoagkaaDoorW.PrintWords Go.Proofs.YtjfekjblnoagkaaDoorW.PrintLast Go.Proofs.YtjfekjblnoagkaaDoorW.PrintMore
attribute [local go_sem] max2_int min2_int max_two min_two max_three min_three max_four min_four   -- for this text's walks alone
set_option linter.unusedVariables false
set_option linter.unusedSimpArgs false

/-! ### field_Sub: function 45 -/
def field_Sub.f (a0 : Int) (a1 : Int) (a2 : Int) : Option (Int) := (field_Neg.f a0 a2).bind fun t261 => ((field_Add.f a0 a1 t261).bind fun t262 => (some t262))
set_option maxHeartbeats 8000000 in
set_option maxRecDepth 100000 in
theorem field_Sub.calls (a0 : Int) (a1 : Int) (a2 : Int) (r : Int) (w : World) (hrG : GL w) (h : field_Sub.f a0 a1 a2 = some r) :
    Calls Tryd.prog 45 #[.int .i64 a0, .int .u64 a1, .int .u64 a2] w fun e w' => e = .returned (.int .u64 r) ∧ Below w.heap.size w w' := by
  have HRG := Aside0.mk hrG
  clear hrG
  have HB := Aside0.mk (Below.refl w.heap.size w)
  have H : ((field_Neg.f a0 a2).bind fun t261 => ((field_Add.f a0 a1 t261).bind fun t262 => (some t262))) = some r := h
  clear h
  replace H := Option.bind_eq_some_iff.mp H
  obtain ⟨t261, A40, H⟩ := H
  replace H : ((field_Add.f a0 a1 t261).bind fun t262 => (some t262)) = some r := H
  have A4 := Aside0.mk A40
  clear A40
  replace H := Option.bind_eq_some_iff.mp H
  obtain ⟨t262, A50, H⟩ := H
  replace H : (some t262) = some r := H
  have A5 := Aside0.mk A50
  clear A50
  obtain rfl := Option.some.inj H
  go_enter Tryd.func45, Tryd.ntmps45
  go_wp2_with (first | ((with_reducible refine gate_callee (f := 52) rfl ?_); refine goesL_ (some 11) rfl rfl Tryd.func52 (by kernel_rfl) rfl #[.int .i64 a0, .int .u64 a2] rfl (by (try simp only [List.map_toArray, List.map_cons, List.map_nil]); first | done | rfl | (simp only [List.length_drop, List.length_take]; rfl) | (go_simp; done) | (go_simp; rw [Int.tmod_eq_emod_of_nonneg (by omega)]; omega)) ?_; (with_reducible refine (field_Neg.calls a0 a2 t261 _ ?side1 A4.out).mono ?_); (case side1 => repeat (first | exact HRG.out | (with_reducible refine GL.alloc ?_ _) | (with_reducible refine GL.drewN ?_ _) | (with_reducible refine GL.drew ?_))); rintro e w6 ⟨rfl, hb⟩; refine ⟨_, rfl, ?_⟩; have n0_ := Aside0.mk (below_step (by repeat (first | (with_reducible first | exact HB.out | apply below_alloc | apply pw_below_drewN | apply below_drew1) | exact HB.out)) hb); clear HB; have HB := n0_; clear n0_; (try clear hb); (try clear hb2); (try clear hk); (try clear hi)) | ((with_reducible refine gate_callee (f := 23) rfl ?_); refine goesL_ (some 12) rfl rfl Tryd.func23 (by kernel_rfl) rfl #[.int .i64 a0, .int .u64 a1, .int .u64 t261] rfl (by (try simp only [List.map_toArray, List.map_cons, List.map_nil]); first | done | rfl | (simp only [List.length_drop, List.length_take]; rfl) | (go_simp; done) | (go_simp; rw [Int.tmod_eq_emod_of_nonneg (by omega)]; omega)) ?_; (with_reducible refine (field_Add.calls a0 a1 t261 t262 _ ?side1 A5.out).mono ?_); (case side1 => repeat (first | exact (GL.below HRG.out HB.out) | (with_reducible refine GL.alloc ?_ _) | (with_reducible refine GL.drewN ?_ _) | (with_reducible refine GL.drew ?_))); rintro e w7 ⟨rfl, hb⟩; refine ⟨_, rfl, ?_⟩; have n0_ := Aside0.mk (below_step (by repeat (first | (with_reducible first | exact HB.out | apply below_alloc | apply pw_below_drewN | apply below_drew1) | exact HB.out)) hb); clear HB; have HB := n0_; clear n0_; (try clear hb); (try clear hb2); (try clear hk); (try clear hi)))
  go_ret
  exact ⟨by first | rfl | (simp [errW_none, errW_some] <;> rfl) | (simp [*, errW_none, errW_some] <;> rfl), by repeat (first | (with_reducible first | exact HB.out | apply below_alloc | apply pw_below_drewN | apply below_drew1) | exact HB.out)⟩

end Go.Proofs.YtjfekjblnoagkaaDoor.Q
end
section
namespace Go.Proofs.YtjfekjblnoagkaaDoor.Q
open Go.RowKit Go.Proofs.YtjfekjblnoagkaaDoorW.PrintWords Go.Proofs.YtjfekjblnoagkaaDoorW.PrintLast Go.Proofs.YtjfekjblnoagkaaDoorW.PrintMore
attribute [local go_sem] max2_int min2_int max_two min_two max_three min_three max_four min_four   -- for this text's walks alone
set_option linter.unusedVariables false
set_option linter.unusedSimpArgs false

/-! ### field_Inv: function 53 -/
mutual
def field_Inv.j0 : Nat → Int → Int → Bool → Option (Int)
  | 0, _, _, _ => none
  | k + 1, x1, x5, x20 => if x20 = true then (some 0) else (if x5 = 0 then (none) else (field_Inv.l0 k x5 (wrap64 (x5)) (wrap64 (Int.tmod x1 x5)) 0 1))
def field_Inv.l0 : Nat → Int → Int → Int → Int → Int → Option (Int)
  | 0, _, _, _, _, _ => none
  | k + 1, x5, x6, x7, x8, x9 => if x7 = 0 then (if x8 < 0 then (some (IntKind.u64.wrap (wrap64 (x8 + (wrap64 (x5)))))) else (some (IntKind.u64.wrap (x8)))) else (field_Inv.l0 k x5 x7 (wrap64 (x6 - (wrap64 ((wrap64 (Int.tdiv x6 x7)) * x7)))) x9 (wrap64 (x8 - (wrap64 ((wrap64 (Int.tdiv x6 x7)) * x9)))))
end
def field_Inv.f (k : Nat) (a0 : Int) (a1 : Int) : Option (Int) := (field_P.f a0).bind fun t242 => (if t242 = 0 then (field_Inv.j0 k a1 t242 true) else (field_Inv.j0 k a1 t242 ((Int.tmod a1 t242) == 0)))
theorem field_Inv.mono_l : ∀ k, (∀ y0 y1 y2, LeO (field_Inv.j0 k y0 y1 y2) (field_Inv.j0 (k + 1) y0 y1 y2)) ∧ (∀ y0 y1 y2 y3 y4, LeO (field_Inv.l0 k y0 y1 y2 y3 y4) (field_Inv.l0 (k + 1) y0 y1 y2 y3 y4))
  | 0 => ⟨fun _ _ _ r h => by simp [field_Inv.j0] at h, fun _ _ _ _ _ r h => by simp [field_Inv.l0] at h⟩
  | k + 1 => by
    obtain ⟨ih0, ih1⟩ := field_Inv.mono_l k
    refine ⟨?_, ?_⟩
    · intro y0 y1 y2
      unfold field_Inv.j0
      repeat' first
      | (with_reducible exact ih0 _ _ _)
      | (with_reducible exact ih1 _ _ _ _ _)
      | (with_reducible exact LeO.refl _)
      | (with_reducible exact LeO.none _)
      | (with_reducible refine LeO.ite ?_ ?_)
      | (with_reducible refine LeO.bind ?_ (fun _ => ?_))
      | exact ih0 _ _ _
      | exact ih1 _ _ _ _ _
      | exact LeO.none _
      | refine LeO.ite ?_ ?_
      | refine LeO.bind ?_ (fun _ => ?_)
    · intro y0 y1 y2 y3 y4
      unfold field_Inv.l0
      repeat' first
      | (with_reducible exact ih0 _ _ _)
      | (with_reducible exact ih1 _ _ _ _ _)
      | (with_reducible exact LeO.refl _)
      | (with_reducible exact LeO.none _)
      | (with_reducible refine LeO.ite ?_ ?_)
      | (with_reducible refine LeO.bind ?_ (fun _ => ?_))
      | exact ih0 _ _ _
      | exact ih1 _ _ _ _ _
      | exact LeO.none _
      | refine LeO.ite ?_ ?_
      | refine LeO.bind ?_ (fun _ => ?_)
theorem field_Inv.mono : ∀ a0 a1 k, LeO (field_Inv.f k a0 a1) (field_Inv.f (k + 1) a0 a1) := by
  intro a0 a1 k
  obtain ⟨ih0, ih1⟩ := field_Inv.mono_l k
  unfold field_Inv.f
  repeat' first
      | (with_reducible exact ih0 _ _ _)
      | (with_reducible exact ih1 _ _ _ _ _)
      | (with_reducible exact LeO.refl _)
      | (with_reducible exact LeO.none _)
      | (with_reducible refine LeO.ite ?_ ?_)
      | (with_reducible refine LeO.bind ?_ (fun _ => ?_))
      | exact ih0 _ _ _
      | exact ih1 _ _ _ _ _
      | exact LeO.none _
      | refine LeO.ite ?_ ?_
      | refine LeO.bind ?_ (fun _ => ?_)
set_option maxHeartbeats 8000000 in
set_option maxRecDepth 100000 in
theorem field_Inv.calls (k : Nat) (a0 : Int) (a1 : Int) (r : Int) (w : World) (hrG : GL w) (h : field_Inv.f k a0 a1 = some r) :
    Calls Tryd.prog 53 #[.int .i64 a0, .int .u64 a1] w fun e w' => e = .returned (.int .u64 r) ∧ Below w.heap.size w w' := by
  have HRG := Aside0.mk hrG
  clear hrG
  have HB := Aside0.mk (Below.refl w.heap.size w)
  have H : ((field_P.f a0).bind fun t242 => (if t242 = 0 then (field_Inv.j0 k a1 t242 true) else (field_Inv.j0 k a1 t242 ((Int.tmod a1 t242) == 0)))) = some r := h
  clear h
  replace H := Option.bind_eq_some_iff.mp H
  obtain ⟨t242, A30, H⟩ := H
  replace H : (if t242 = 0 then (field_Inv.j0 k a1 t242 true) else (field_Inv.j0 k a1 t242 ((Int.tmod a1 t242) == 0))) = some r := H
  have A3 := Aside0.mk A30
  clear A30
  have HC4 := Aside0.mk H
  clear H
  go_enter Tryd.func53, Tryd.ntmps53
  go_upto_region 2 with (first | (go_at_call 43; (with_reducible refine (field_P.calls a0 t242 _ ?side1 A3.out).mono ?_); (case side1 => repeat (first | exact HRG.out | (with_reducible refine GL.alloc ?_ _) | (with_reducible refine GL.drewN ?_ _) | (with_reducible refine GL.drew ?_))); rintro e w5 ⟨rfl, hb⟩; have n0_ := Aside0.mk (below_step (by repeat (first | (with_reducible first | exact HB.out | apply below_alloc | apply pw_below_drewN | apply below_drew1) | exact HB.out)) hb); clear HB; have HB := n0_; clear n0_; (try clear hb); (try clear hb2); (try clear hk); (try clear hi)))
  repeat (go_quiet (first | (go_at_call 43; (with_reducible refine (field_P.calls a0 t242 _ ?side1 A3.out).mono ?_); (case side1 => repeat (first | exact HRG.out | (with_reducible refine GL.alloc ?_ _) | (with_reducible refine GL.drewN ?_ _) | (with_reducible refine GL.drew ?_))); rintro e w5 ⟨rfl, hb⟩; have n0_ := Aside0.mk (below_step (by repeat (first | (with_reducible first | exact HB.out | apply below_alloc | apply pw_below_drewN | apply below_drew1) | exact HB.out)) hb); clear HB; have HB := n0_; clear n0_; (try clear hb); (try clear hb2); (try clear hk); (try clear hi))); go_upto_region 2 with (first | (go_at_call 43; (with_reducible refine (field_P.calls a0 t242 _ ?side1 A3.out).mono ?_); (case side1 => repeat (first | exact HRG.out | (with_reducible refine GL.alloc ?_ _) | (with_reducible refine GL.drewN ?_ _) | (with_reducible refine GL.drew ?_))); rintro e w5 ⟨rfl, hb⟩; have n0_ := Aside0.mk (below_step (by repeat (first | (with_reducible first | exact HB.out | apply below_alloc | apply pw_below_drewN | apply below_drew1) | exact HB.out)) hb); clear HB; have HB := n0_; clear n0_; (try clear hb); (try clear hb2); (try clear hk); (try clear hi))))
  (try simp only [Act.put, List.setIfInBounds_toArray, List.set_cons_zero, List.set_cons_succ])
  go_cut [20] (fun v20 wc => ∃ (kq : Nat) (x20_3 : Bool), v20 = .bool x20_3 ∧ Aside0 (field_Inv.j0 kq a1 t242 x20_3 = some r) ∧ Aside0 (kq ≤ k) ∧ Aside0 (Below w.heap.size w wc))
  case first =>
    have H := HC4.out
    clear HC4
    by_cases c6 : t242 = 0
    · rw [if_pos c6] at H
      have c6b0 : (t242 == 0) = true := beq_iff_eq.mpr c6
      have c6b1 : (t242 != 0) = false := bne_eq_false_iff_eq.mpr c6
      clear c6
      (first | rw [c6b0] | (simp only [i64_w, i32_w]; rw [c6b0]) | skip)
      have H' := Aside0.mk H
      clear H
      go_wp2
      repeat (go_quiet (fail); try go_wp2)
      go_meet
      case rel => exact ⟨_, (true), (by first | rfl | (simp; done) | (simp [*]; done) | (simp; rfl) | (simp; decide +kernel)), H', ⟨by first | omega | exact Nat.le_refl _⟩, ⟨by repeat (first | (with_reducible first | exact HB.out | apply below_alloc | apply pw_below_drewN | apply below_drew1) | exact HB.out)⟩⟩
    · rw [if_neg c6] at H
      have c6b0 : (t242 == 0) = false := beq_eq_false_iff_ne.mpr c6
      have c6b1 : (t242 != 0) = true := bne_iff_ne.mpr c6
      (first | rw [c6b0] | (simp only [i64_w, i32_w]; rw [c6b0]) | skip)
      have H' := Aside0.mk H
      clear H
      go_wp2
      repeat (go_quiet (fail); try go_wp2)
      go_meet
      case rel => exact ⟨_, (((Int.tmod a1 t242) == 0)), (by first | rfl | (simp; done) | (simp [*]; done) | (simp; rfl) | (simp; decide +kernel)), H', ⟨by first | omega | exact Nat.le_refl _⟩, ⟨by repeat (first | (with_reducible first | exact HB.out | apply below_alloc | apply pw_below_drewN | apply below_drew1) | exact HB.out)⟩⟩
  case rest =>
    clear HC4
    try clear p2
    try clear c5
    try clear c6
    try clear c6b0
    try clear c6b1
    obtain ⟨kq, x20_3, rfl, HA, HJ3, HB⟩ := hcut
    cases kq with
    | zero => exact absurd HA.out (by simp [field_Inv.j0])
    | succ kj3 =>
      have H := HA.out
      clear HA
      simp only [field_Inv.j0] at H
      by_cases c7 : x20_3 = true
      · subst c7
        have H1 : (some 0) = some r := by rw [if_pos rfl] at H; exact H
        clear H
        have H := H1
        clear H1
        obtain rfl := Option.some.inj H
        go_wp2
        repeat (go_quiet (fail); try go_wp2)
        go_ret
        exact ⟨by first | rfl | (simp [errW_none, errW_some] <;> rfl) | (simp [*, errW_none, errW_some] <;> rfl), by repeat (first | (with_reducible first | exact HB.out | apply below_alloc | apply pw_below_drewN | apply below_drew1) | exact HB.out)⟩
      · replace c7 := Bool.eq_false_iff.mpr c7
        subst c7
        have H1 : (if t242 = 0 then (none) else (field_Inv.l0 kj3 t242 (wrap64 (t242)) (wrap64 (Int.tmod a1 t242)) 0 1)) = some r := by rw [if_neg (show ¬ (false = true) by decide)] at H; exact H
        clear H
        have H := H1
        clear H1
        by_cases c8 : t242 = 0
        · rw [if_pos c8] at H
          exact absurd H (by simp)
        · rw [if_neg c8] at H
          have c8b0 : (t242 == 0) = false := beq_eq_false_iff_ne.mpr c8
          have c8b1 : (t242 != 0) = true := bne_iff_ne.mpr c8
          have H' := Aside0.mk H
          clear H
          go_wp2
          repeat (go_quiet (fail); try go_wp2)
          go_loopg [6, 7, 8, 9] kj3 (fun kq v6 v7 v8 v9 w' => ∃ (x6_2 : Int) (x7_2 : Int) (x8_2 : Int) (x9_2 : Int), v6 = .int .i64 x6_2 ∧ v7 = .int .i64 x7_2 ∧ v8 = .int .i64 x8_2 ∧ v9 = .int .i64 x9_2 ∧ Aside0 (field_Inv.l0 kq t242 x6_2 x7_2 x8_2 x9_2 = some r) ∧ Aside0 (kq ≤ kj3) ∧ Aside0 (Below w.heap.size w w'))
          case atStart => exact ⟨(wrap64 (t242)), (wrap64 (Int.tmod a1 t242)), (0), (1), (by first | rfl | (simp; done) | (simp [*]; done) | (simp; rfl) | (simp; decide +kernel)), (by first | rfl | (simp; done) | (simp [*]; done) | (simp; rfl) | (simp; decide +kernel)), (by first | rfl | (simp; done) | (simp [*]; done) | (simp; rfl) | (simp; decide +kernel)), (by first | rfl | (simp; done) | (simp [*]; done) | (simp; rfl) | (simp; decide +kernel)), H', ⟨Nat.le_refl _⟩, ⟨by repeat (first | (with_reducible first | exact HB.out | apply below_alloc | apply pw_below_drewN | apply below_drew1) | exact HB.out)⟩⟩
          case round =>
            clear H'
            try clear p2
            try clear c5
            try clear c6
            try clear c6b0
            try clear c6b1
            try clear p6
            try clear c7
            try clear c8
            try clear c8b0
            try clear c8b1
            try clear p2
            obtain ⟨x6_2, x7_2, x8_2, x9_2, rfl, rfl, rfl, rfl, HA, HK2, HB⟩ := hrel
            cases gk with
            | zero => exact absurd HA.out (by simp [field_Inv.l0])
            | succ k2 =>
              have H := HA.out
              clear HA
              simp only [field_Inv.l0] at H
              by_cases c9 : x7_2 = 0
              · rw [if_pos c9] at H
                have c9b0 : (x7_2 == 0) = true := beq_iff_eq.mpr c9
                have c9b1 : (x7_2 != 0) = false := bne_eq_false_iff_eq.mpr c9
                clear c9
                by_cases c10 : x8_2 < 0
                · rw [if_pos c10] at H
                  have c10b0 : decide (x8_2 < 0) = true := decide_eq_true c10
                  clear c10
                  obtain rfl := Option.some.inj H
                  go_wp2
                  repeat (go_quiet (fail); try go_wp2)
                  go_ret
                  exact ⟨by first | rfl | (simp [errW_none, errW_some] <;> rfl) | (simp [*, errW_none, errW_some] <;> rfl), by repeat (first | (with_reducible first | exact HB.out | apply below_alloc | apply pw_below_drewN | apply below_drew1) | exact HB.out)⟩
                · rw [if_neg c10] at H
                  have c10b0 : decide (x8_2 < 0) = false := decide_eq_false c10
                  clear c10
                  obtain rfl := Option.some.inj H
                  go_wp2
                  repeat (go_quiet (fail); try go_wp2)
                  go_ret
                  exact ⟨by first | rfl | (simp [errW_none, errW_some] <;> rfl) | (simp [*, errW_none, errW_some] <;> rfl), by repeat (first | (with_reducible first | exact HB.out | apply below_alloc | apply pw_below_drewN | apply below_drew1) | exact HB.out)⟩
              · rw [if_neg c9] at H
                have c9b0 : (x7_2 == 0) = false := beq_eq_false_iff_ne.mpr c9
                have c9b1 : (x7_2 != 0) = true := bne_iff_ne.mpr c9
                have H' := Aside0.mk H
                clear H
                go_wp2
                repeat (go_quiet (fail); try go_wp2)
                go_roundg k2
                case measure => have := HJ3.out; have := HK2.out; omega
                case rel => exact ⟨(x7_2), (wrap64 (x6_2 - (wrap64 ((wrap64 (Int.tdiv x6_2 x7_2)) * x7_2)))), (x9_2), (wrap64 (x8_2 - (wrap64 ((wrap64 (Int.tdiv x6_2 x7_2)) * x9_2)))), (by first | rfl | (simp; done) | (simp [*]; done) | (simp; rfl) | (simp; decide +kernel)), (by first | rfl | (simp; done) | (simp [*]; done) | (simp; rfl) | (simp; decide +kernel)), (by first | rfl | (simp; done) | (simp [*]; done) | (simp; rfl) | (simp; decide +kernel)), (by first | rfl | (simp; done) | (simp [*]; done) | (simp; rfl) | (simp; decide +kernel)), H', ⟨by have := HJ3.out; have := HK2.out; omega⟩, ⟨by repeat (first | (with_reducible first | exact HB.out | apply below_alloc | apply pw_below_drewN | apply below_drew1) | exact HB.out)⟩⟩

end Go.Proofs.YtjfekjblnoagkaaDoor.Q
end
section
namespace Go.Proofs.YtjfekjblnoagkaaDoor.Q
open Go.RowKit Go.Proofs.YtjfekjblnoagkaaDoorW.PrintWords Go.Proofs.YtjfekjblnoagkaaDoorW.PrintLast Go.Proofs.YtjfekjblnoagkaaDoorW.PrintMore
attribute [local go_sem] max2_int min2_int max_two min_two max_three min_three max_four min_four   -- for this text's walks alone
set_option linter.unusedVariables false
set_option linter.unusedSimpArgs false

/-! ### attestorref01_Sub: function 57 -/
def attestorref01_Sub.f (a0 : Int) (a1 : Int) (a2 : Int) : Option (Int) := (attestorref01_Valid.f a0).bind fun t282 => (if t282 = true then ((attestorref01_P.f a0).bind fun t283 => (if t283 = 0 then (none) else (some (Int.tmod (IntKind.u64.wrap ((IntKind.u64.wrap ((Int.tmod a1 t283) + t283)) - (Int.tmod a2 t283))) t283)))) else (some 0))
set_option maxHeartbeats 8000000 in
set_option maxRecDepth 100000 in
theorem attestorref01_Sub.calls (a0 : Int) (a1 : Int) (a2 : Int) (r : Int) (w : World) (h : attestorref01_Sub.f a0 a1 a2 = some r) :
    Calls Tryd.prog 57 #[.int .i64 a0, .int .u64 a1, .int .u64 a2] w fun e w' => e = .returned (.int .u64 r) ∧ Drawn0 w w' := by
  have H : ((attestorref01_Valid.f a0).bind fun t282 => (if t282 = true then ((attestorref01_P.f a0).bind fun t283 => (if t283 = 0 then (none) else (some (Int.tmod (IntKind.u64.wrap ((IntKind.u64.wrap ((Int.tmod a1 t283) + t283)) - (Int.tmod a2 t283))) t283)))) else (some 0))) = some r := h
  clear h
  replace H := Option.bind_eq_some_iff.mp H
  obtain ⟨t282, A40, H⟩ := H
  replace H : (if t282 = true then ((attestorref01_P.f a0).bind fun t283 => (if t283 = 0 then (none) else (some (Int.tmod (IntKind.u64.wrap ((IntKind.u64.wrap ((Int.tmod a1 t283) + t283)) - (Int.tmod a2 t283))) t283)))) else (some 0)) = some r := H
  have A4 := Aside0.mk A40
  clear A40
  by_cases c5 : t282 = true
  · subst c5
    have H1 : ((attestorref01_P.f a0).bind fun t283 => (if t283 = 0 then (none) else (some (Int.tmod (IntKind.u64.wrap ((IntKind.u64.wrap ((Int.tmod a1 t283) + t283)) - (Int.tmod a2 t283))) t283)))) = some r := by rw [if_pos rfl] at H; exact H
    clear H
    have H := H1
    clear H1
    replace H := Option.bind_eq_some_iff.mp H
    obtain ⟨t283, A60, H⟩ := H
    replace H : (if t283 = 0 then (none) else (some (Int.tmod (IntKind.u64.wrap ((IntKind.u64.wrap ((Int.tmod a1 t283) + t283)) - (Int.tmod a2 t283))) t283))) = some r := H
    have A6 := Aside0.mk A60
    clear A60
    by_cases c7 : t283 = 0
    · rw [if_pos c7] at H
      exact absurd H (by simp)
    · rw [if_neg c7] at H
      have c7b0 : (t283 == 0) = false := beq_eq_false_iff_ne.mpr c7
      have c7b1 : (t283 != 0) = true := bne_iff_ne.mpr c7
      obtain rfl := Option.some.inj H
      go_enter Tryd.func57, Tryd.ntmps57
      go_wp2_with (first | (go_at_call 31; (with_reducible refine (attestorref01_Valid.calls a0 true _ A4.out).mono ?_); rintro e w' ⟨rfl, ⟨nd, rfl⟩⟩; (try first | exact ⟨rfl, _, World.drewN_drewN _ _ _⟩ | exact ⟨rfl, _, Eq.trans (World.drewN_drewN _ _ _) (congrArg (World.drewN _) (Nat.add_assoc _ _ _))⟩)) | (go_at_call 47; (with_reducible refine (attestorref01_P.calls a0 t283 _ A6.out).mono ?_); rintro e w' ⟨rfl, ⟨nd, rfl⟩⟩; (try first | exact ⟨rfl, _, World.drewN_drewN _ _ _⟩ | exact ⟨rfl, _, Eq.trans (World.drewN_drewN _ _ _) (congrArg (World.drewN _) (Nat.add_assoc _ _ _))⟩)))
      repeat (go_quiet (first | (go_at_call 31; (with_reducible refine (attestorref01_Valid.calls a0 true _ A4.out).mono ?_); rintro e w' ⟨rfl, ⟨nd, rfl⟩⟩; (try first | exact ⟨rfl, _, World.drewN_drewN _ _ _⟩ | exact ⟨rfl, _, Eq.trans (World.drewN_drewN _ _ _) (congrArg (World.drewN _) (Nat.add_assoc _ _ _))⟩)) | (go_at_call 47; (with_reducible refine (attestorref01_P.calls a0 t283 _ A6.out).mono ?_); rintro e w' ⟨rfl, ⟨nd, rfl⟩⟩; (try first | exact ⟨rfl, _, World.drewN_drewN _ _ _⟩ | exact ⟨rfl, _, Eq.trans (World.drewN_drewN _ _ _) (congrArg (World.drewN _) (Nat.add_assoc _ _ _))⟩))); try go_wp2_with (first | (go_at_call 31; (with_reducible refine (attestorref01_Valid.calls a0 true _ A4.out).mono ?_); rintro e w' ⟨rfl, ⟨nd, rfl⟩⟩; (try first | exact ⟨rfl, _, World.drewN_drewN _ _ _⟩ | exact ⟨rfl, _, Eq.trans (World.drewN_drewN _ _ _) (congrArg (World.drewN _) (Nat.add_assoc _ _ _))⟩)) | (go_at_call 47; (with_reducible refine (attestorref01_P.calls a0 t283 _ A6.out).mono ?_); rintro e w' ⟨rfl, ⟨nd, rfl⟩⟩; (try first | exact ⟨rfl, _, World.drewN_drewN _ _ _⟩ | exact ⟨rfl, _, Eq.trans (World.drewN_drewN _ _ _) (congrArg (World.drewN _) (Nat.add_assoc _ _ _))⟩))))
      go_ret
      exact ⟨by first | rfl | (simp; done) | (simp [*]; done), by repeat (first | exact Drawn0.refl _ | apply Drawn0.step)⟩
  · replace c5 := Bool.eq_false_iff.mpr c5
    subst c5
    have H1 : (some 0) = some r := by rw [if_neg (show ¬ (false = true) by decide)] at H; exact H
    clear H
    have H := H1
    clear H1
    obtain rfl := Option.some.inj H
    go_enter Tryd.func57, Tryd.ntmps57
    go_wp2_with (first | (go_at_call 31; (with_reducible refine (attestorref01_Valid.calls a0 false _ A4.out).mono ?_); rintro e w' ⟨rfl, ⟨nd, rfl⟩⟩; (try first | exact ⟨rfl, _, World.drewN_drewN _ _ _⟩ | exact ⟨rfl, _, Eq.trans (World.drewN_drewN _ _ _) (congrArg (World.drewN _) (Nat.add_assoc _ _ _))⟩)))
    repeat (go_quiet (first | (go_at_call 31; (with_reducible refine (attestorref01_Valid.calls a0 false _ A4.out).mono ?_); rintro e w' ⟨rfl, ⟨nd, rfl⟩⟩; (try first | exact ⟨rfl, _, World.drewN_drewN _ _ _⟩ | exact ⟨rfl, _, Eq.trans (World.drewN_drewN _ _ _) (congrArg (World.drewN _) (Nat.add_assoc _ _ _))⟩))); try go_wp2_with (first | (go_at_call 31; (with_reducible refine (attestorref01_Valid.calls a0 false _ A4.out).mono ?_); rintro e w' ⟨rfl, ⟨nd, rfl⟩⟩; (try first | exact ⟨rfl, _, World.drewN_drewN _ _ _⟩ | exact ⟨rfl, _, Eq.trans (World.drewN_drewN _ _ _) (congrArg (World.drewN _) (Nat.add_assoc _ _ _))⟩))))
    go_ret
    exact ⟨by first | rfl | (simp; done) | (simp [*]; done), by repeat (first | exact Drawn0.refl _ | apply Drawn0.step)⟩

/-! ### attestorref01_Neg: function 55 -/
def attestorref01_Neg.f (a0 : Int) (a1 : Int) : Option (Int) := (attestorref01_Sub.f a0 0 a1).bind fun t284 => (some t284)
set_option maxHeartbeats 8000000 in
set_option maxRecDepth 100000 in
theorem attestorref01_Neg.calls (a0 : Int) (a1 : Int) (r : Int) (w : World) (h : attestorref01_Neg.f a0 a1 = some r) :
    Calls Tryd.prog 55 #[.int .i64 a0, .int .u64 a1] w fun e w' => e = .returned (.int .u64 r) ∧ Drawn0 w w' := by
  have H : ((attestorref01_Sub.f a0 0 a1).bind fun t284 => (some t284)) = some r := h
  clear h
  replace H := Option.bind_eq_some_iff.mp H
  obtain ⟨t284, A30, H⟩ := H
  replace H : (some t284) = some r := H
  have A3 := Aside0.mk A30
  clear A30
  obtain rfl := Option.some.inj H
  go_enter Tryd.func55, Tryd.ntmps55
  go_wp2_with (first | ((with_reducible refine gate_callee (f := 57) rfl ?_); refine goesL_ (some 7) rfl rfl Tryd.func57 (by kernel_rfl) rfl #[.int .i64 a0, .int .u64 0, .int .u64 a1] rfl (by (try simp only [List.map_toArray, List.map_cons, List.map_nil]); first | done | rfl | (simp only [List.length_drop, List.length_take]; rfl) | (go_simp; done) | (go_simp; rw [Int.tmod_eq_emod_of_nonneg (by omega)]; omega)) ?_; (with_reducible refine (attestorref01_Sub.calls a0 0 a1 t284 _ A3.out).mono ?_); rintro e w' ⟨rfl, ⟨nd, rfl⟩⟩; refine ⟨_, rfl, ?_⟩))
  go_ret
  exact ⟨by first | rfl | (simp; done) | (simp [*]; done), by repeat (first | exact Drawn0.refl _ | apply Drawn0.step)⟩

/-! ### attestorref01_Inv: function 56 -/
def attestorref01_Inv.f (k : Nat) (a0 : Int) (a1 : Int) : Option (Int) := (attestorref01_Valid.f a0).bind fun t285 => (if t285 = true then ((attestorref01_P.f a0).bind fun t286 => ((attestorref01_Pow.f k a0 a1 (IntKind.u64.wrap (t286 - 2))).bind fun t287 => (some t287))) else (some 0))
theorem attestorref01_Inv.mono : ∀ a0 a1 k, LeO (attestorref01_Inv.f k a0 a1) (attestorref01_Inv.f (k + 1) a0 a1) := by
  intro a0 a1 k
  unfold attestorref01_Inv.f
  repeat' first
      | (with_reducible exact attestorref01_Pow.mono _ _ _ _)
      | (with_reducible exact LeO.refl _)
      | (with_reducible exact LeO.none _)
      | (with_reducible refine LeO.ite ?_ ?_)
      | (with_reducible refine LeO.bind ?_ (fun _ => ?_))
      | exact attestorref01_Pow.mono _ _ _ _
      | exact LeO.none _
      | refine LeO.ite ?_ ?_
      | refine LeO.bind ?_ (fun _ => ?_)
set_option maxHeartbeats 8000000 in
set_option maxRecDepth 100000 in
theorem attestorref01_Inv.calls (k : Nat) (a0 : Int) (a1 : Int) (r : Int) (w : World) (h : attestorref01_Inv.f k a0 a1 = some r) :
    Calls Tryd.prog 56 #[.int .i64 a0, .int .u64 a1] w fun e w' => e = .returned (.int .u64 r) ∧ Drawn0 w w' := by
  have H : ((attestorref01_Valid.f a0).bind fun t285 => (if t285 = true then ((attestorref01_P.f a0).bind fun t286 => ((attestorref01_Pow.f k a0 a1 (IntKind.u64.wrap (t286 - 2))).bind fun t287 => (some t287))) else (some 0))) = some r := h
  clear h
  replace H := Option.bind_eq_some_iff.mp H
  obtain ⟨t285, A30, H⟩ := H
  replace H : (if t285 = true then ((attestorref01_P.f a0).bind fun t286 => ((attestorref01_Pow.f k a0 a1 (IntKind.u64.wrap (t286 - 2))).bind fun t287 => (some t287))) else (some 0)) = some r := H
  have A3 := Aside0.mk A30
  clear A30
  by_cases c4 : t285 = true
  · subst c4
    have H1 : ((attestorref01_P.f a0).bind fun t286 => ((attestorref01_Pow.f k a0 a1 (IntKind.u64.wrap (t286 - 2))).bind fun t287 => (some t287))) = some r := by rw [if_pos rfl] at H; exact H
    clear H
    have H := H1
    clear H1
    replace H := Option.bind_eq_some_iff.mp H
    obtain ⟨t286, A50, H⟩ := H
    replace H : ((attestorref01_Pow.f k a0 a1 (IntKind.u64.wrap (t286 - 2))).bind fun t287 => (some t287)) = some r := H
    have A5 := Aside0.mk A50
    clear A50
    replace H := Option.bind_eq_some_iff.mp H
    obtain ⟨t287, A60, H⟩ := H
    replace H : (some t287) = some r := H
    have A6 := Aside0.mk A60
    clear A60
    obtain rfl := Option.some.inj H
    go_enter Tryd.func56, Tryd.ntmps56
    go_wp2_with (first | ((with_reducible refine gate_callee (f := 31) rfl ?_); refine goesL_ (some 6) rfl rfl Tryd.func31 (by kernel_rfl) rfl #[.int .i64 a0] rfl (by (try simp only [List.map_toArray, List.map_cons, List.map_nil]); first | done | rfl | (simp only [List.length_drop, List.length_take]; rfl) | (go_simp; done) | (go_simp; rw [Int.tmod_eq_emod_of_nonneg (by omega)]; omega)) ?_; (with_reducible refine (attestorref01_Valid.calls a0 true _ A3.out).mono ?_); rintro e w' ⟨rfl, ⟨nd, rfl⟩⟩; refine ⟨_, rfl, ?_⟩) | ((with_reducible refine gate_callee (f := 47) rfl ?_); refine goesL_ (some 11) rfl rfl Tryd.func47 (by kernel_rfl) rfl #[.int .i64 a0] rfl (by (try simp only [List.map_toArray, List.map_cons, List.map_nil]); first | done | rfl | (simp only [List.length_drop, List.length_take]; rfl) | (go_simp; done) | (go_simp; rw [Int.tmod_eq_emod_of_nonneg (by omega)]; omega)) ?_; (with_reducible refine (attestorref01_P.calls a0 t286 _ A5.out).mono ?_); rintro e w' ⟨rfl, ⟨nd, rfl⟩⟩; refine ⟨_, rfl, ?_⟩) | ((with_reducible refine gate_callee (f := 33) rfl ?_); refine goesL_ (some 13) rfl rfl Tryd.func33 (by kernel_rfl) rfl #[.int .i64 a0, .int .u64 a1, .int .u64 (IntKind.u64.wrap (t286 - 2))] rfl (by (try simp only [List.map_toArray, List.map_cons, List.map_nil]); first | done | rfl | (simp only [List.length_drop, List.length_take]; rfl) | (go_simp; done) | (go_simp; rw [Int.tmod_eq_emod_of_nonneg (by omega)]; omega)) ?_; (with_reducible refine (attestorref01_Pow.calls k a0 a1 (IntKind.u64.wrap (t286 - 2)) t287 _ A6.out).mono ?_); rintro e w' ⟨rfl, ⟨nd, rfl⟩⟩; refine ⟨_, rfl, ?_⟩))
    go_ret
    exact ⟨by first | rfl | (simp; done) | (simp [*]; done), by repeat (first | exact Drawn0.refl _ | apply Drawn0.step)⟩
  · replace c4 := Bool.eq_false_iff.mpr c4
    subst c4
    have H1 : (some 0) = some r := by rw [if_neg (show ¬ (false = true) by decide)] at H; exact H
    clear H
    have H := H1
    clear H1
    obtain rfl := Option.some.inj H
    go_enter Tryd.func56, Tryd.ntmps56
    go_wp2_with (first | ((with_reducible refine gate_callee (f := 31) rfl ?_); refine goesL_ (some 6) rfl rfl Tryd.func31 (by kernel_rfl) rfl #[.int .i64 a0] rfl (by (try simp only [List.map_toArray, List.map_cons, List.map_nil]); first | done | rfl | (simp only [List.length_drop, List.length_take]; rfl) | (go_simp; done) | (go_simp; rw [Int.tmod_eq_emod_of_nonneg (by omega)]; omega)) ?_; (with_reducible refine (attestorref01_Valid.calls a0 false _ A3.out).mono ?_); rintro e w' ⟨rfl, ⟨nd, rfl⟩⟩; refine ⟨_, rfl, ?_⟩))
    go_ret
    exact ⟨by first | rfl | (simp; done) | (simp [*]; done), by repeat (first | exact Drawn0.refl _ | apply Drawn0.step)⟩

end Go.Proofs.YtjfekjblnoagkaaDoor.Q
end
section
namespace Go.Proofs.YtjfekjblnoagkaaDoor.Num
/-! ### Euclid's extended algorithm, one step and the end -/
structure Inv (p a r s x y : Int) : Prop where
  s0 : 0 ≤ s
  sr : s < r
  rp : r ≤ p
  st : r < p ∨ 0 < s
  sg : (x ≤ 0 ∧ 0 ≤ y ∧ y * r - x * s = p) ∨ (0 ≤ x ∧ y ≤ 0 ∧ x * s - y * r = p)
  xb : -p ≤ x ∧ x ≤ p
  dx : p ∣ a * x - r
  dy : p ∣ a * y - s
theorem Inv.y_le {p a r s x y : Int} (h : Inv p a r s x y) : -p ≤ y ∧ y ≤ p := by
  have hr : 1 ≤ r := by have := h.s0; have := h.sr; omega
  rcases h.sg with ⟨hx, hy, e⟩ | ⟨hx, hy, e⟩
  · have h1 : 0 ≤ (-x) * s := Int.mul_nonneg (by omega) h.s0
    have h2 : y * 1 ≤ y * r := Int.mul_le_mul_of_nonneg_left hr hy
    have h3 : (-x) * s = -(x * s) := Int.neg_mul ..
    omega
  · have h1 : 0 ≤ x * s := Int.mul_nonneg hx h.s0
    have h2 : (-y) * 1 ≤ (-y) * r := Int.mul_le_mul_of_nonneg_left hr (by omega)
    have h3 : (-y) * r = -(y * r) := Int.neg_mul ..
    omega
theorem Inv.step {p a r s x y : Int} (h : Inv p a r s x y) (hs : s ≠ 0) : Inv p a s (r - r / s * s) y (x - r / s * y) := by
  have hs0 : 0 < s := by have := h.s0; omega
  have e := Int.mul_ediv_add_emod r s
  have t0 := Int.emod_nonneg r hs
  have t1 := Int.emod_lt_of_pos r hs0
  have q0 : 0 ≤ r / s := Int.ediv_nonneg (by have := h.s0; have := h.sr; omega) (by omega)
  have hrp := h.rp
  have hsr := h.sr
  generalize r / s = q at *
  have et : r - q * s = r % s := by rw [Int.mul_comm] at e; omega
  rw [et]
  generalize r % s = t at *
  obtain rfl : r = q * s + t := by omega
  clear e et
  refine ⟨t0, t1, by omega, Or.inl (by omega), ?_, h.y_le, h.dy, ?_⟩
  · rcases h.sg with ⟨hx, hy, e⟩ | ⟨hx, hy, e⟩
    · have h1 : 0 ≤ q * y := Int.mul_nonneg q0 hy
      refine Or.inr ⟨hy, by omega, ?_⟩
      grind
    · have h1 : 0 ≤ q * (-y) := Int.mul_nonneg q0 (by omega)
      have h2 : q * (-y) = -(q * y) := Int.mul_neg ..
      refine Or.inl ⟨hy, by omega, ?_⟩
      grind
  · have e1 : a * (x - q * y) - t = (a * x - (q * s + t)) - q * (a * y - s) := by grind
    rw [e1]
    exact Int.dvd_sub h.dx (Int.dvd_trans h.dy (Int.dvd_mul_left ..))
theorem Inv.last {p : Nat} {a r x y : Int} (hp : Pr p) (h : Inv p a r 0 x y) : r = 1 := by
  have hr : 0 < r := h.sr
  have hlt : r < p := by rcases h.st with h1 | h1 <;> omega
  have hd : r ∣ (p : Int) := by
    rcases h.sg with ⟨_, _, e⟩ | ⟨_, _, e⟩
    · exact ⟨y, by rw [← e]; grind⟩
    · exact ⟨-y, by rw [← e]; grind⟩
  obtain ⟨n, rfl⟩ := Int.eq_ofNat_of_zero_le (by omega : 0 ≤ r)
  have := hp.2 n (Int.ofNat_dvd.1 hd)
  omega
end Go.Proofs.YtjfekjblnoagkaaDoor.Num
namespace Go.Proofs.YtjfekjblnoagkaaDoor.Q
open Go.RowKit Go.Proofs.YtjfekjblnoagkaaDoorW.PrintWords Go.Proofs.YtjfekjblnoagkaaDoorW.PrintLast Go.Proofs.YtjfekjblnoagkaaDoorW.PrintMore
open Go.Proofs.YtjfekjblnoagkaaDoor.Num
set_option linter.unusedVariables false
set_option linter.unusedSimpArgs false

theorem neg_f {f : Int} {p : Nat} (F : Fld f p) (a : Nat) : field_Neg.f f a = some (((p - a % p) % p : Nat) : Int) := by
  have h1 := F.md a
  have h3 := F.big
  unfold field_Neg.f
  rw [P_eq, F.eq, Option.bind_some, if_neg F.ne, tmodN]
  by_cases h : a % p = 0
  · rw [if_pos (by omega), h, Nat.sub_zero, Nat.mod_self]; rfl
  · have e : (p - a % p) % p = p - a % p := Nat.mod_eq_of_lt (by omega)
    rw [if_neg (by omega), ← Int.natCast_sub (by omega), wrapU (by omega), e]
/-- a - b modulo p. -/
def sb (p a b : Nat) : Nat := (a % p + p - b % p) % p
theorem sub_f {f : Int} {p : Nat} (F : Fld f p) (a b : Nat) : field_Sub.f f a b = some ((sb p a b : Nat) : Int) := by
  unfold field_Sub.f
  rw [neg_f F, Option.bind_some, add_f F, Option.bind_some, Nat.add_mod, Nat.mod_mod, ← Nat.add_mod]
  have h1 := F.md b
  unfold sb
  rw [Nat.add_sub_assoc (by omega), Nat.add_mod (a % p), Nat.mod_mod, ← Nat.add_mod]
theorem rsub_f {f : Int} {p : Nat} (F : Fld f p) (a b : Nat) : attestorref01_Sub.f f a b = some ((sb p a b : Nat) : Int) := by
  have h1 := F.md a
  have h2 := F.md b
  have h3 := F.big
  unfold attestorref01_Sub.f
  rw [rvalid_yes F, Option.bind_some, if_pos rfl, rp_eq, F.eq, Option.bind_some, if_neg F.ne, tmodN, tmodN, ← Int.natCast_add, wrapU (by omega), ← Int.natCast_sub (by omega), wrapU (by omega), tmodN]
  rfl
theorem rneg_f {f : Int} {p : Nat} (F : Fld f p) (a : Nat) : attestorref01_Neg.f f a = some (((p - a % p) % p : Nat) : Int) := by
  unfold attestorref01_Neg.f
  have := rsub_f F 0 a
  rw [show ((0 : Nat) : Int) = 0 from rfl] at this
  rw [this, Option.bind_some]
  simp [sb]
/-- The inverse modulo p, and 0 for 0. -/
def iv (p a : Nat) : Nat := a ^ (p - 2) % p
theorem rinv_f {f : Int} {p : Nat} (F : Fld f p) (k a : Nat) (hk : 64 < k) : attestorref01_Inv.f k f a = some ((iv p a : Nat) : Int) := by
  have h2 := F.two
  have h3 := F.big
  unfold attestorref01_Inv.f
  rw [rvalid_yes F, Option.bind_some, if_pos rfl, rp_eq, F.eq, Option.bind_some, show (p : Int) - 2 = ((p - 2 : Nat) : Int) by omega, wrapU (by omega), rpow_f F 64 k a _ (by omega) (by omega) hk]
  rfl
theorem euclid {f : Int} {p : Nat} (F : Fld f p) (a : Nat) : ∀ (k d : Nat) (r s x y : Int), Inv p a r s x y → s ≤ d → d < k →
    ∃ z : Nat, z < p ∧ a * z % p = 1 ∧ field_Inv.l0 k p r s x y = some (z : Int)
  | k + 1, d, r, s, x, y, h, hs, hk => by
    have h2 := F.two
    have h3 := F.big
    unfold field_Inv.l0
    by_cases h0 : s = 0
    · subst h0
      have hr := h.last F.pr
      subst hr
      have hdx := h.dx
      have hx := h.xb
      rw [if_pos rfl, wrapS (x := (p : Int)) (by omega) (by omega)]
      have key : ∀ z : Nat, (p : Int) ∣ (a : Int) * z - 1 → a * z % p = 1 := by
        intro z hz
        obtain ⟨c, hc⟩ := hz
        have e : ((a * z : Nat) : Int) = 1 + p * c := by rw [Int.natCast_mul]; omega
        have : ((a * z % p : Nat) : Int) = 1 := by
          rw [Int.natCast_emod, e, Int.add_mul_emod_self_left]
          exact Int.emod_eq_of_lt (by omega) (by omega)
        omega
      have hne : ∀ z : Int, (p : Int) ∣ (a : Int) * z - 1 → (p : Int) ∣ z → False := by
        intro z h1 h4
        have : (p : Int) ∣ 1 := by
          have h5 := Int.dvd_sub (Int.dvd_trans h4 (Int.dvd_mul_left (a : Int) z)) h1
          rwa [show (a : Int) * z - (a * z - 1) = 1 by omega] at h5
        have := Int.le_of_dvd (by decide) this
        omega
      by_cases hx0 : x < 0
      · have hz : x ≠ -p := fun e => hne x hdx ⟨-1, by omega⟩
        obtain ⟨z, hz2⟩ := Int.eq_ofNat_of_zero_le (by omega : 0 ≤ x + p)
        rw [if_pos hx0, wrapS (by omega) (by omega), hz2, wrapU (by omega)]
        refine ⟨z, by omega, key z ?_, rfl⟩
        have e : (a : Int) * z - 1 = (a * x - 1) + p * a := by rw [← hz2]; grind
        rw [e]
        exact Int.dvd_add hdx (Int.dvd_mul_right ..)
      · have hz : x ≠ p := fun e => hne x hdx ⟨1, by omega⟩
        obtain ⟨z, rfl⟩ := Int.eq_ofNat_of_zero_le (by omega : 0 ≤ x)
        rw [if_neg hx0, wrapU (by omega)]
        exact ⟨z, by omega, key z hdx, rfl⟩
    · have hst := h.step h0
      have e0 : Int.tdiv r s = r / s := Int.tdiv_eq_ediv_of_nonneg (by have := h.s0; have := h.sr; omega)
      have q0 : 0 ≤ r / s := Int.ediv_nonneg (by have := h.s0; have := h.sr; omega) h.s0
      have q1 : r / s ≤ r := Int.ediv_le_self _ (by have := h.s0; have := h.sr; omega)
      have hrp := h.rp
      have hs0 := h.s0
      have hsr := h.sr
      have hx := h.xb
      have hy := hst.y_le
      have hr2 := hst.s0
      have hr3 := hst.sr
      rw [if_neg h0, e0, wrapS (x := r / s) (by omega) (by omega), wrapS (x := r / s * s) (by omega) (by omega), wrapS (x := r - r / s * s) (by omega) (by omega), wrapS (x := r / s * y) (by omega) (by omega), wrapS (x := x - r / s * y) (by omega) (by omega)]
      exact euclid F a k (d - 1) _ _ _ _ hst (by omega) (by omega)
theorem inv_f {f : Int} {p : Nat} (F : Fld f p) (k a : Nat) (hk : 1073741824 < k) : field_Inv.f k f a = some ((iv p a : Nat) : Int) := by
  have h2 := F.two
  have h3 := F.big
  have ha := F.md a
  obtain ⟨k, rfl⟩ : ∃ m, k = m + 1 := ⟨k - 1, by omega⟩
  unfold field_Inv.f
  rw [P_eq, F.eq, Option.bind_some, if_neg F.ne, tmodN]
  simp only [field_Inv.j0]
  by_cases h0 : a % p = 0
  · rw [if_pos (by rw [h0]; rfl)]
    unfold iv
    rw [Nat.pow_mod, h0]
    have : p - 2 ≠ 0 := by rcases fld_p F with h | h | h | h <;> omega
    rw [Nat.zero_pow (by omega), Nat.zero_mod]
    rfl
  · rw [if_neg (by simp; omega), if_neg F.ne, tmodN, wrapS (x := (p : Int)) (by omega) (by omega), wrapS (x := ((a % p : Nat) : Int)) (by omega) (by omega)]
    have hi : Inv p a p ((a % p : Nat) : Int) 0 1 := by
      refine ⟨by omega, by omega, by omega, Or.inr (by omega), Or.inl ⟨by omega, by omega, by omega⟩, by omega, ?_, ?_⟩
      · exact ⟨-1, by omega⟩
      · rw [Int.natCast_emod, Int.mul_one]
        exact Int.dvd_self_sub_emod
    obtain ⟨z, hz, e1, e2⟩ := euclid F a k 1073741823 p _ 0 1 hi (by omega) (by omega)
    rw [e2]
    have : z = iv p a := F.pr.inv_one h0 hz (F.md _) (by rw [e1]; exact (F.pr.inv_pow h0).symm)
    rw [this]
end Go.Proofs.YtjfekjblnoagkaaDoor.Q
end
section
namespace Go.Proofs.YtjfekjblnoagkaaDoor.Q
open Go.RowKit Go.Proofs.YtjfekjblnoagkaaDoorW.PrintWords Go.Proofs.YtjfekjblnoagkaaDoorW.PrintLast Go.Proofs.YtjfekjblnoagkaaDoorW.PrintMore
attribute [local go_sem] max2_int min2_int max_two min_two max_three min_three max_four min_four   -- for this text's walks alone
set_option linter.unusedVariables false
set_option linter.unusedSimpArgs false

/-! ### field_Dot: function 54 -/
def field_Dot.l0 : Nat → Int → List Int → List Int → Int → Int → Int → Option (Int)
  | 0, _, _, _, _, _, _ => none
  | k + 1, x0, x1, x2, x7, x13, x14 => if x14 < x13 then (if 0 ≤ x14 then (if x14 < (x1.length : Int) then (if x14 < (x2.length : Int) then ((field_Mul.f x0 (rd x1 x14) (rd x2 x14)).bind fun t245 => ((field_Add.f x0 x7 t245).bind fun t246 => (field_Dot.l0 k x0 x1 x2 t246 x13 (wrap64 (x14 + 1))))) else (none)) else (none)) else (none)) else (some x7)
def field_Dot.f (k : Nat) (a0 : Int) (l1 : List Int) (l2 : List Int) : Option (Int) := field_Dot.l0 k a0 l1 l2 0 (mn (l1.length : Int) (l2.length : Int)) 0
theorem field_Dot.mono_l : ∀ k, (∀ y0 y1 y2 y3 y4 y5, LeO (field_Dot.l0 k y0 y1 y2 y3 y4 y5) (field_Dot.l0 (k + 1) y0 y1 y2 y3 y4 y5))
  | 0 => fun _ _ _ _ _ _ r h => by simp [field_Dot.l0] at h
  | k + 1 => by
    have ih0 := field_Dot.mono_l k
    · intro y0 y1 y2 y3 y4 y5
      unfold field_Dot.l0
      repeat' first
      | (with_reducible exact ih0 _ _ _ _ _ _)
      | (with_reducible exact LeO.refl _)
      | (with_reducible exact LeO.none _)
      | (with_reducible refine LeO.ite ?_ ?_)
      | (with_reducible refine LeO.bind ?_ (fun _ => ?_))
      | exact ih0 _ _ _ _ _ _
      | exact LeO.none _
      | refine LeO.ite ?_ ?_
      | refine LeO.bind ?_ (fun _ => ?_)
theorem field_Dot.mono : ∀ a0 a1 a2 k, LeO (field_Dot.f k a0 a1 a2) (field_Dot.f (k + 1) a0 a1 a2) := by
  intro a0 a1 a2 k
  have ih0 := field_Dot.mono_l k
  unfold field_Dot.f
  repeat' first
      | (with_reducible exact ih0 _ _ _ _ _ _)
      | (with_reducible exact LeO.refl _)
      | (with_reducible exact LeO.none _)
      | (with_reducible refine LeO.ite ?_ ?_)
      | (with_reducible refine LeO.bind ?_ (fun _ => ?_))
      | exact ih0 _ _ _ _ _ _
      | exact LeO.none _
      | refine LeO.ite ?_ ?_
      | refine LeO.bind ?_ (fun _ => ?_)
def field_Dot.T5 : Bool × List (List Nat × List Nat) := (true, [([], []), ([], []), ([], []), ([], []), ([], []), ([3, 4], [3, 4]), ([5], [5]), ([], []), ([], []), ([7, 8], [7, 8]), ([9], [9]), ([2, 6, 10], [2, 6, 10]), ([0, 1, 11, 11], [0, 1, 11]), ([12, 12, 0, 1, 2, 3, 4, 5, 6, 7, 8, 9, 10, 11, 12], [1, 12])])
def field_Dot.B5 : List Nat := [0, 0, 0, 0, 0, 24, 56, 0, 0, 384, 896, 2044, 4095, 8191]
theorem field_Dot.tab5 : rtab .any (opsOf Tryd.f54 5) = field_Dot.T5 := by kernel_rfl
theorem field_Dot.bits5 : waitsOk field_Dot.T5.2 field_Dot.B5 = true := by kernel_rfl
set_option maxHeartbeats 8000000 in
set_option maxRecDepth 100000 in
theorem field_Dot.calls (k : Nat) (a0 : Int) (A1 : Option Addr) (c1 : Nat) (l1 : List Int) (A2 : Option Addr) (c2 : Nat) (l2 : List Int) (r : Int) (w : World) (hr1 : Kd.C (Kd.int .u64) w A1 l1.length l1) (hc1 : l1.length ≤ c1) (hr2 : Kd.C (Kd.int .u64) w A2 l2.length l2) (hc2 : l2.length ≤ c2) (hrG : GL w) (h : field_Dot.f k a0 l1 l2 = some r) :
    Calls Tryd.prog 54 #[.int .i64 a0, .slice A1 l1.length c1, .slice A2 l2.length c2] w fun e w' => e = .returned (.int .u64 r) ∧ Below w.heap.size w w' := by
  have HRG := Aside0.mk hrG
  clear hrG
  have HR1 := Aside0.mk hr1
  have HC1 := Aside0.mk hc1
  clear hr1 hc1
  have HR2 := Aside0.mk hr2
  have HC2 := Aside0.mk hc2
  clear hr2 hc2
  have HB := Aside0.mk (Below.refl w.heap.size w)
  have H : (field_Dot.l0 k a0 l1 l2 0 (mn (l1.length : Int) (l2.length : Int)) 0) = some r := h
  clear h
  obtain ⟨ji4, hji4⟩ : ∃ j_ : Int, (mn (l1.length : Int) (l2.length : Int)) = j_ := ⟨_, rfl⟩
  replace H : (field_Dot.l0 k a0 l1 l2 0 ji4 0) = some r := by first | (rw [hji4] at H; exact H) | (simp only [hji4] at H ⊢; exact H)
  (try (have hji4l : 0 ≤ ji4 := by (rw [← hji4]; unfold mn; (repeat' split) <;> omega)))
  (try (have hji4m : 0 ≤ ji4 := by omega))
  have hji4_ : (if (l2.length : Int) < (l1.length : Int) then (l2.length : Int) else (l1.length : Int)) = ji4 := hji4
  have hji4N : (if l2.length < l1.length then (l2.length : Int) else (l1.length : Int)) = ji4 := by rw [← hji4_]; simp only [Int.ofNat_lt]
  have H' := Aside0.mk H
  clear H
  go_enter Tryd.func54, Tryd.ntmps54
  go_wp2
  go_loopg [7, 14] k (fun kq v7 v14 w' => ∃ (x7_1 : Int) (x14_1 : Int), v7 = .int .u64 x7_1 ∧ v14 = .int .i64 x14_1 ∧ Aside0 (field_Dot.l0 kq a0 l1 l2 x7_1 ji4 x14_1 = some r) ∧ Aside0 (kq ≤ k) ∧ Aside0 (Below w.heap.size w w'))
  case atStart => exact ⟨(0), (0), (by first | rfl | (simp; done) | (simp [*]; done) | (simp; rfl) | (simp; decide +kernel)), (by first | rfl | (simp; done) | (simp [*]; done) | (simp; rfl) | (simp; decide +kernel)), H', ⟨Nat.le_refl _⟩, ⟨by repeat (first | (with_reducible first | exact HB.out | apply below_alloc | apply pw_below_drewN | apply below_drew1) | exact HB.out)⟩⟩
  case round =>
    clear H'
    try clear c1
    try clear c2
    try clear p2
    obtain ⟨x7_1, x14_1, rfl, rfl, HA, HK1, HB⟩ := hrel
    cases gk with
    | zero => exact absurd HA.out (by simp [field_Dot.l0])
    | succ k1 =>
      have H := HA.out
      clear HA
      simp only [field_Dot.l0] at H
      by_cases c5 : x14_1 < ji4
      · rw [if_pos c5] at H
        have c5b0 : decide (x14_1 < ji4) = true := decide_eq_true c5
        clear c5
        by_cases c6 : 0 ≤ x14_1
        · rw [if_pos c6] at H
          have c6b0 : decide (0 ≤ x14_1) = true := decide_eq_true c6
          clear c6
          by_cases c7 : x14_1 < (l1.length : Int)
          · rw [if_pos c7] at H
            have c7b0 : decide (x14_1 < (l1.length : Int)) = true := decide_eq_true c7
            clear c7
            by_cases c8 : x14_1 < (l2.length : Int)
            · rw [if_pos c8] at H
              have c8b0 : decide (x14_1 < (l2.length : Int)) = true := decide_eq_true c8
              clear c8
              replace H := Option.bind_eq_some_iff.mp H
              obtain ⟨t245, A90, H⟩ := H
              replace H : ((field_Add.f a0 x7_1 t245).bind fun t246 => (field_Dot.l0 k1 a0 l1 l2 t246 ji4 (wrap64 (x14_1 + 1)))) = some r := H
              have A9 := Aside0.mk A90
              clear A90
              replace H := Option.bind_eq_some_iff.mp H
              obtain ⟨t246, A100, H⟩ := H
              replace H : (field_Dot.l0 k1 a0 l1 l2 t246 ji4 (wrap64 (x14_1 + 1))) = some r := H
              have A10 := Aside0.mk A100
              clear A100
              have H' := Aside0.mk H
              clear H
              try go_wp2
              have n0_ := Aside0.mk (below_drew1 HB.out)
              clear HB
              have HB := n0_
              clear n0_
              have p243 : 0 ≤ (x14_1 : Int) := of_decide_eq_true (by first | (with_reducible assumption) | assumption)
              have q243 : x14_1 < (l1.length : Int) := of_decide_eq_true (by first | (with_reducible assumption) | assumption)
              obtain ⟨ad243, e243, hx243_0⟩ := Kd.at_int HR1.out x14_1 p243 q243
              have hw243_0 := hx243_0
              cases e243
              replace hx243_0 := (HB.out.cell (World.block_lt_of_cell? w _ hx243_0)).trans hx243_0
              replace p243 := eq_true p243
              replace q243 := eq_true q243
              have p244 : 0 ≤ (x14_1 : Int) := of_decide_eq_true (by first | (with_reducible assumption) | assumption)
              have q244 : x14_1 < (l2.length : Int) := of_decide_eq_true (by first | (with_reducible assumption) | assumption)
              obtain ⟨ad244, e244, hx244_0⟩ := Kd.at_int HR2.out x14_1 p244 q244
              have hw244_0 := hx244_0
              cases e244
              replace hx244_0 := (HB.out.cell (World.block_lt_of_cell? w _ hx244_0)).trans hx244_0
              replace p244 := eq_true p244
              replace q244 := eq_true q244
              refine start_ (n := 14) (S := fun w' => w'.cell? (ad243.add (x14_1).toNat) = some (.int .u64 (rd l1 x14_1)) ∧ w'.cell? (ad244.add (x14_1).toNat) = some (.int .u64 (rd l2 x14_1))) (ds := []) #[false, false, false, false, false, false, false, false, false, false, false, false, false, false] (by kernel_rfl) rfl rfl ⟨((HB.out.cell (World.block_lt_of_cell? w _ hw243_0)).trans hw243_0), ((HB.out.cell (World.block_lt_of_cell? w _ hw244_0)).trans hw244_0)⟩ (fun hHeld => ?_); refine with_tabW field_Dot.tab5 field_Dot.bits5 (fun HT_ HW_ => ?_)
              generalize wr.drew = w11 at HB hx243_0 hx244_0 hHeld ⊢
              refine pure_ (i := 0) (N := some 17) (v := ?_) (a' := ?_) #[true, false, false, false, false, false, false, false, false, false, false, false, false, false] rfl rfl (any_of HT_.out (by kernel_rfl)) (fun _ _ _ h => h) (Or.inl ⟨by rfl, ?_⟩) ?_ ?_
              rotate_left
              · intro w'
                go_simp
                with_reducible rfl
              rotate_left
              · simp only [Act.put, List.setIfInBounds_toArray, List.set_cons_zero, List.set_cons_succ, i64_w, i32_w]
                rfl
              refine pure_ (i := 1) (N := some 18) (v := ?_) (a' := ?_) #[true, true, false, false, false, false, false, false, false, false, false, false, false, false] rfl rfl (any_of HT_.out (by kernel_rfl)) (fun _ _ _ h => h) (Or.inl ⟨by rfl, ?_⟩) ?_ ?_
              rotate_left
              · intro w'
                go_simp
                with_reducible rfl
              rotate_left
              · simp only [Act.put, List.setIfInBounds_toArray, List.set_cons_zero, List.set_cons_succ, i64_w, i32_w]
                rfl
              refine pure_ (i := 2) (N := some 19) (v := ?_) (a' := ?_) #[true, true, true, false, false, false, false, false, false, false, false, false, false, false] rfl rfl (any_of HT_.out (by kernel_rfl)) (fun _ _ _ h => h) (Or.inl ⟨by rfl, ?_⟩) ?_ ?_
              rotate_left
              · intro w'
                go_simp
                with_reducible rfl
              rotate_left
              · simp only [Act.put, List.setIfInBounds_toArray, List.set_cons_zero, List.set_cons_succ, i64_w, i32_w]
                rfl
              refine pure_ (i := 3) (N := some 20) (v := ?_) (a' := ?_) #[true, true, true, true, false, false, false, false, false, false, false, false, false, false] rfl rfl (any_of HT_.out (by kernel_rfl)) (fun _ _ _ h => h) (Or.inl ⟨by rfl, ?_⟩) ?_ ?_
              rotate_left
              · intro w'
                go_simp
                with_reducible rfl
              rotate_left
              · simp only [Act.put, List.setIfInBounds_toArray, List.set_cons_zero, List.set_cons_succ, i64_w, i32_w]
                rfl
              refine pure_ (i := 4) (N := some 21) (v := ?_) (a' := ?_) #[true, true, true, true, true, false, false, false, false, false, false, false, false, false] rfl rfl (any_of HT_.out (by kernel_rfl)) (fun _ _ _ h => h) (Or.inl ⟨by rfl, ?_⟩) ?_ ?_
              rotate_left
              · intro w'
                go_simp
                with_reducible rfl
              rotate_left
              · simp only [Act.put, List.setIfInBounds_toArray, List.set_cons_zero, List.set_cons_succ, i64_w, i32_w]
                rfl
              refine pure_ (i := 5) (N := some 22) (v := ?_) (a' := ?_) #[true, true, true, true, true, true, false, false, false, false, false, false, false, false] rfl rfl (any_of HT_.out (by kernel_rfl)) (fun _ _ _ h => h) (Or.inl ⟨by rfl, ?_⟩) ?_ ?_
              rotate_left
              · intro w'
                go_simp
                with_reducible rfl
              rotate_left
              · simp only [Act.put, List.setIfInBounds_toArray, List.set_cons_zero, List.set_cons_succ, i64_w, i32_w]
                rfl
              refine pure_ (i := 7) (N := some 24) (v := ?_) (a' := ?_) #[true, true, true, true, true, true, false, true, false, false, false, false, false, false] rfl rfl (any_of HT_.out (by kernel_rfl)) (fun _ _ _ h => h) (Or.inl ⟨by rfl, ?_⟩) ?_ ?_
              rotate_left
              · intro w'
                go_simp
                with_reducible rfl
              rotate_left
              · simp only [Act.put, List.setIfInBounds_toArray, List.set_cons_zero, List.set_cons_succ, i64_w, i32_w]
                rfl
              refine pure_ (i := 8) (N := some 25) (v := ?_) (a' := ?_) #[true, true, true, true, true, true, false, true, true, false, false, false, false, false] rfl rfl (any_of HT_.out (by kernel_rfl)) (fun _ _ _ h => h) (Or.inl ⟨by rfl, ?_⟩) ?_ ?_
              rotate_left
              · intro w'
                go_simp
                with_reducible rfl
              rotate_left
              · simp only [Act.put, List.setIfInBounds_toArray, List.set_cons_zero, List.set_cons_succ, i64_w, i32_w]
                rfl
              refine pure_ (i := 9) (N := some 26) (v := ?_) (a' := ?_) #[true, true, true, true, true, true, false, true, true, true, false, false, false, false] rfl rfl (any_of HT_.out (by kernel_rfl)) (fun _ _ _ h => h) (Or.inl ⟨by rfl, ?_⟩) ?_ ?_
              rotate_left
              · intro w'
                go_simp
                with_reducible rfl
              rotate_left
              · simp only [Act.put, List.setIfInBounds_toArray, List.set_cons_zero, List.set_cons_succ, i64_w, i32_w]
                rfl
              refine take_ (i := 6) (N := some 23) (v := ?_) (a' := ?_) #[true, true, true, true, true, true, true, true, true, true, false, false, false, false] rfl rfl (take_ofW HT_.out HW_.out (by kernel_rfl)) (fun _ _ _ h => h) (Or.inl ⟨by rfl, ?_⟩) hHeld ?_ ?_
              rotate_left
              · rintro w' ⟨s0, s1⟩
                go_simp
                with_reducible rfl
              rotate_left
              · simp only [Act.put, List.setIfInBounds_toArray, List.set_cons_zero, List.set_cons_succ, i64_w, i32_w]
                rfl
              refine take_ (i := 10) (N := some 27) (v := ?_) (a' := ?_) #[true, true, true, true, true, true, true, true, true, true, true, false, false, false] rfl rfl (take_ofW HT_.out HW_.out (by kernel_rfl)) (fun _ _ _ h => h) (Or.inl ⟨by rfl, ?_⟩) hHeld ?_ ?_
              rotate_left
              · rintro w' ⟨s0, s1⟩
                go_simp
                with_reducible rfl
              rotate_left
              · simp only [Act.put, List.setIfInBounds_toArray, List.set_cons_zero, List.set_cons_succ, i64_w, i32_w]
                rfl
              refine one_ (i := 11) (N := some 28) #[true, true, true, true, true, true, true, true, true, true, true, true, false, false] rfl rfl (one_of HT_.out (by kernel_rfl)) (by decide) (fun K hK => ?_)
              refine goes_ Tryd.func48 (by kernel_rfl) rfl #[.int .i64 a0, .int .u64 (rd l1 x14_1), .int .u64 (rd l2 x14_1)] (by rfl) rfl rfl (by (try simp only [List.map_toArray, List.map_cons, List.map_nil]); first | done | rfl | (simp only [List.length_drop, List.length_take]; rfl) | (go_simp; done) | (go_simp; rw [Int.tmod_eq_emod_of_nonneg (by omega)]; omega)) ?_
              with_reducible refine (field_Mul.calls a0 (rd l1 x14_1) (rd l2 x14_1) t245 _ ?side1 A9.out).mono ?_
              (case side1 => repeat (first | exact (GL.below HRG.out HB.out) | (with_reducible refine GL.alloc ?_ _) | (with_reducible refine GL.drewN ?_ _) | (with_reducible refine GL.drew ?_)))
              rintro e w12 ⟨rfl, hb⟩
              refine ⟨_, rfl, ?_⟩
              have n0_ := Aside0.mk (below_step (by repeat (first | (with_reducible first | exact HB.out | apply below_alloc | apply pw_below_drewN | apply below_drew1) | exact HB.out)) hb)
              clear HB
              have HB := n0_
              clear n0_
              (try clear hb)
              (try clear hb2)
              (try clear hk)
              (try clear hi)
              refine hK.out _ _ ⟨((HB.out.cell (World.block_lt_of_cell? w _ hw243_0)).trans hw243_0), ((HB.out.cell (World.block_lt_of_cell? w _ hw244_0)).trans hw244_0)⟩ (fun hHeld => ?_)
              clear hK K
              refine norm_ (a' := ?_) ?_ ?_
              rotate_left
              · show Act.put _ (some 28) _ = _
                simp only [Act.put, List.setIfInBounds_toArray, List.set_cons_zero, List.set_cons_succ, i64_w, i32_w]
                rfl
              refine one_ (i := 12) (N := some 29) #[true, true, true, true, true, true, true, true, true, true, true, true, true, false] rfl rfl (one_of HT_.out (by kernel_rfl)) (by decide) (fun K hK => ?_)
              refine goes_ Tryd.func23 (by kernel_rfl) rfl #[.int .i64 a0, .int .u64 x7_1, .int .u64 t245] (by rfl) rfl rfl (by (try simp only [List.map_toArray, List.map_cons, List.map_nil]); first | done | rfl | (simp only [List.length_drop, List.length_take]; rfl) | (go_simp; done) | (go_simp; rw [Int.tmod_eq_emod_of_nonneg (by omega)]; omega)) ?_
              with_reducible refine (field_Add.calls a0 x7_1 t245 t246 _ ?side1 A10.out).mono ?_
              (case side1 => repeat (first | exact (GL.below HRG.out HB.out) | (with_reducible refine GL.alloc ?_ _) | (with_reducible refine GL.drewN ?_ _) | (with_reducible refine GL.drew ?_)))
              rintro e w13 ⟨rfl, hb⟩
              refine ⟨_, rfl, ?_⟩
              have n0_ := Aside0.mk (below_step (by repeat (first | (with_reducible first | exact HB.out | apply below_alloc | apply pw_below_drewN | apply below_drew1) | exact HB.out)) hb)
              clear HB
              have HB := n0_
              clear n0_
              (try clear hb)
              (try clear hb2)
              (try clear hk)
              (try clear hi)
              refine hK.out _ _ ⟨((HB.out.cell (World.block_lt_of_cell? w _ hw243_0)).trans hw243_0), ((HB.out.cell (World.block_lt_of_cell? w _ hw244_0)).trans hw244_0)⟩ (fun hHeld => ?_)
              clear hK K
              refine norm_ (a' := ?_) ?_ ?_
              rotate_left
              · show Act.put _ (some 29) _ = _
                simp only [Act.put, List.setIfInBounds_toArray, List.set_cons_zero, List.set_cons_succ, i64_w, i32_w]
                rfl
              refine pure_ (i := 13) (N := some 7) (v := ?_) (a' := ?_) #[true, true, true, true, true, true, true, true, true, true, true, true, true, true] rfl rfl (any_of HT_.out (by kernel_rfl)) (fun _ _ _ h => h) (Or.inl ⟨by rfl, ?_⟩) ?_ ?_
              rotate_left
              · intro w'
                go_simp
                with_reducible rfl
              rotate_left
              · simp only [Act.put, List.setIfInBounds_toArray, List.set_cons_zero, List.set_cons_succ, i64_w, i32_w]
                rfl
              refine done_ (done_of HT_.out (by kernel_rfl)) ?_
              try go_wp2
              go_roundg k1
              case measure => have := HK1.out; omega
              case rel => exact ⟨(t246), (wrap64 (x14_1 + 1)), (by first | rfl | (simp; done) | (simp [*]; done) | (simp; rfl) | (simp; decide +kernel)), (by first | rfl | (simp; done) | (simp [*]; done) | (simp; rfl) | (simp; decide +kernel)), H', ⟨by have := HK1.out; omega⟩, ⟨by repeat (first | (with_reducible first | exact HB.out | apply below_alloc | apply pw_below_drewN | apply below_drew1) | exact HB.out)⟩⟩
            · rw [if_neg c8] at H
              exact absurd H (by simp)
          · rw [if_neg c7] at H
            exact absurd H (by simp)
        · rw [if_neg c6] at H
          exact absurd H (by simp)
      · rw [if_neg c5] at H
        have c5b0 : decide (x14_1 < ji4) = false := decide_eq_false c5
        clear c5
        obtain rfl := Option.some.inj H
        go_wp2
        go_ret
        exact ⟨by first | rfl | (simp [errW_none, errW_some] <;> rfl) | (simp only [← hji4]; first | rfl | (simp [errW_none, errW_some] <;> rfl)) | (simp [*, errW_none, errW_some] <;> rfl), by repeat (first | (with_reducible first | exact HB.out | apply below_alloc | apply pw_below_drewN | apply below_drew1) | exact HB.out)⟩

end Go.Proofs.YtjfekjblnoagkaaDoor.Q
end
section
namespace Go.Proofs.YtjfekjblnoagkaaDoor.Q
open Go.RowKit Go.Proofs.YtjfekjblnoagkaaDoorW.PrintWords Go.Proofs.YtjfekjblnoagkaaDoorW.PrintLast Go.Proofs.YtjfekjblnoagkaaDoorW.PrintMore
attribute [local go_sem] max2_int min2_int max_two min_two max_three min_three max_four min_four   -- for this text's walks alone
set_option linter.unusedVariables false
set_option linter.unusedSimpArgs false

/-! ### sponge_gather: function 44 -/
def sponge_gather.l0 : Nat → Int → List Int → Int → Int → Int → Int → Int → Int → Int → Int → Int → Int → Option (Int × Int × Int × Int)
  | 0, _, _, _, _, _, _, _, _, _, _, _, _ => none
  | k + 1, x0, x5, x6, x17, x248000, x248001, x248002, x248003, x256000, x256001, x256002, x256003 => if x17 < 4 then (if 0 ≤ x17 then (if 0 ≤ (Int.tmod (wrap64 (x17 + 1)) 4) then (if (Int.tmod (wrap64 (x17 + 1)) 4) < 4 then (if 0 ≤ (Int.tmod (wrap64 (x17 + 2)) 4) then (if (Int.tmod (wrap64 (x17 + 2)) 4) < 4 then (if 0 ≤ (Int.tmod (wrap64 (x17 + 3)) 4) then (if (Int.tmod (wrap64 (x17 + 3)) 4) < 4 then ((field_Dot.f k x0 x5 (([(rd ([x248000, x248001, x248002, x248003] : List Int) x17), (rd ([x248000, x248001, x248002, x248003] : List Int) (Int.tmod (wrap64 (x17 + 1)) 4)), (rd ([x248000, x248001, x248002, x248003] : List Int) (Int.tmod (wrap64 (x17 + 2)) 4)), (rd ([x248000, x248001, x248002, x248003] : List Int) (Int.tmod (wrap64 (x17 + 3)) 4))] : List Int))).bind fun t259 => ((field_Mul.f x0 t259 x6).bind fun t260 => (sponge_gather.l0 k x0 x5 x6 (wrap64 (x17 + 1)) x248000 x248001 x248002 x248003 (updv x256000 0 x17 t260) (updv x256001 1 x17 t260) (updv x256002 2 x17 t260) (updv x256003 3 x17 t260)))) else (none)) else (none)) else (none)) else (none)) else (none)) else (none)) else (none)) else (some (x256000, x256001, x256002, x256003))
def sponge_gather.f (k : Nat) (a0 : Int) (a1_0 : Int) (a1_1 : Int) (a1_2 : Int) (a1_3 : Int) : Option (Int × Int × Int × Int) := (field_Neg.f a0 4).bind fun t249 => ((field_Neg.f a0 11).bind fun t250 => ((field_Inv.f k a0 35).bind fun t254 => (sponge_gather.l0 k a0 (([t249, 3, t250, 17] : List Int)) t254 0 a1_0 a1_1 a1_2 a1_3 0 0 0 0)))
theorem sponge_gather.mono_l : ∀ k, (∀ y0 y1 y2 y3 y4 y5 y6 y7 y8 y9 y10 y11, LeO (sponge_gather.l0 k y0 y1 y2 y3 y4 y5 y6 y7 y8 y9 y10 y11) (sponge_gather.l0 (k + 1) y0 y1 y2 y3 y4 y5 y6 y7 y8 y9 y10 y11))
  | 0 => fun _ _ _ _ _ _ _ _ _ _ _ _ r h => by simp [sponge_gather.l0] at h
  | k + 1 => by
    have ih0 := sponge_gather.mono_l k
    · intro y0 y1 y2 y3 y4 y5 y6 y7 y8 y9 y10 y11
      unfold sponge_gather.l0
      repeat' first
      | (with_reducible exact ih0 _ _ _ _ _ _ _ _ _ _ _ _)
      | (with_reducible exact field_Dot.mono _ _ _ _)
      | (with_reducible exact field_Inv.mono _ _ _)
      | (with_reducible exact LeO.refl _)
      | (with_reducible exact LeO.none _)
      | (with_reducible refine LeO.ite ?_ ?_)
      | (with_reducible refine LeO.bind ?_ (fun _ => ?_))
      | exact ih0 _ _ _ _ _ _ _ _ _ _ _ _
      | exact field_Dot.mono _ _ _ _
      | exact field_Inv.mono _ _ _
      | exact LeO.none _
      | refine LeO.ite ?_ ?_
      | refine LeO.bind ?_ (fun _ => ?_)
theorem sponge_gather.mono : ∀ a0 a1 a2 a3 a4 k, LeO (sponge_gather.f k a0 a1 a2 a3 a4) (sponge_gather.f (k + 1) a0 a1 a2 a3 a4) := by
  intro a0 a1 a2 a3 a4 k
  have ih0 := sponge_gather.mono_l k
  unfold sponge_gather.f
  repeat' first
      | (with_reducible exact ih0 _ _ _ _ _ _ _ _ _ _ _ _)
      | (with_reducible exact field_Dot.mono _ _ _ _)
      | (with_reducible exact field_Inv.mono _ _ _)
      | (with_reducible exact LeO.refl _)
      | (with_reducible exact LeO.none _)
      | (with_reducible refine LeO.ite ?_ ?_)
      | (with_reducible refine LeO.bind ?_ (fun _ => ?_))
      | exact ih0 _ _ _ _ _ _ _ _ _ _ _ _
      | exact field_Dot.mono _ _ _ _
      | exact field_Inv.mono _ _ _
      | exact LeO.none _
      | refine LeO.ite ?_ ?_
      | refine LeO.bind ?_ (fun _ => ?_)
def sponge_gather.T7 : Bool × List (List Nat × List Nat) := (true, [([], []), ([0], [0]), ([1], [1]), ([], []), ([3], [3]), ([4], [4]), ([5], [5]), ([6], [6]), ([], []), ([8], [8]), ([9], [9]), ([10], [10]), ([11], [11]), ([], []), ([13], [13]), ([14], [14]), ([15], [15]), ([16], [16]), ([2, 7, 12, 17], [2, 7, 12, 17]), ([18, 0, 1, 2, 3, 4, 5, 6, 7, 8, 9, 10, 11, 12, 13, 14, 15, 16, 17, 18], [18])])
def sponge_gather.B7 : List Nat := [0, 1, 3, 0, 8, 24, 56, 120, 0, 256, 768, 1792, 3840, 0, 8192, 24576, 57344, 122880, 262143, 524287]
theorem sponge_gather.tab7 : rtab .any (opsOf Tryd.f44 7) = sponge_gather.T7 := by kernel_rfl
theorem sponge_gather.bits7 : waitsOk sponge_gather.T7.2 sponge_gather.B7 = true := by kernel_rfl
set_option maxHeartbeats 8000000 in
set_option maxRecDepth 100000 in
theorem sponge_gather.calls (k : Nat) (a0 : Int) (a1_0 : Int) (a1_1 : Int) (a1_2 : Int) (a1_3 : Int) (r1 : Int) (r2 : Int) (r3 : Int) (r4 : Int) (w : World) (hrG : GL w) (h : sponge_gather.f k a0 a1_0 a1_1 a1_2 a1_3 = some (r1, r2, r3, r4)) :
    Calls Tryd.prog 44 #[.int .i64 a0, .agg #[.int .u64 a1_0, .int .u64 a1_1, .int .u64 a1_2, .int .u64 a1_3]] w fun e w' => e = .returned (.agg #[.int .u64 r1, .int .u64 r2, .int .u64 r3, .int .u64 r4]) ∧ Below w.heap.size w w' := by
  have hu23 := Tryd.underlying23
  have HRG := Aside0.mk hrG
  clear hrG
  have HB := Aside0.mk (Below.refl w.heap.size w)
  have H : ((field_Neg.f a0 4).bind fun t249 => ((field_Neg.f a0 11).bind fun t250 => ((field_Inv.f k a0 35).bind fun t254 => (sponge_gather.l0 k a0 (([t249, 3, t250, 17] : List Int)) t254 0 a1_0 a1_1 a1_2 a1_3 0 0 0 0)))) = some (r1, r2, r3, r4) := h
  clear h
  replace H := Option.bind_eq_some_iff.mp H
  obtain ⟨t249, A30, H⟩ := H
  replace H : ((field_Neg.f a0 11).bind fun t250 => ((field_Inv.f k a0 35).bind fun t254 => (sponge_gather.l0 k a0 (([t249, 3, t250, 17] : List Int)) t254 0 a1_0 a1_1 a1_2 a1_3 0 0 0 0))) = some (r1, r2, r3, r4) := H
  have A3 := Aside0.mk A30
  clear A30
  replace H := Option.bind_eq_some_iff.mp H
  obtain ⟨t250, A40, H⟩ := H
  replace H : ((field_Inv.f k a0 35).bind fun t254 => (sponge_gather.l0 k a0 (([t249, 3, t250, 17] : List Int)) t254 0 a1_0 a1_1 a1_2 a1_3 0 0 0 0)) = some (r1, r2, r3, r4) := H
  have A4 := Aside0.mk A40
  clear A40
  obtain ⟨y251, hy251⟩ : ∃ y_ : List Int, y_ = (([t249, 3, t250, 17] : List Int)) := ⟨_, rfl⟩
  replace H : ((field_Inv.f k a0 35).bind fun t254 => (sponge_gather.l0 k a0 y251 t254 0 a1_0 a1_1 a1_2 a1_3 0 0 0 0)) = some (r1, r2, r3, r4) := by first | (rw [hy251]; with_reducible exact H) | (have H2_ := (Option.bind_some _ _).symm.trans H; rw [hy251]; with_reducible exact H2_) | (have H2_ := (Option.bind_some _ _).symm.trans H; with_reducible exact H2_) | with_reducible exact H | (rw [hy251]; exact H) | exact H
  have Ny251 := Aside0.mk hy251
  clear hy251
  replace H := Option.bind_eq_some_iff.mp H
  obtain ⟨t254, A50, H⟩ := H
  replace H : (sponge_gather.l0 k a0 y251 t254 0 a1_0 a1_1 a1_2 a1_3 0 0 0 0) = some (r1, r2, r3, r4) := H
  have A5 := Aside0.mk A50
  clear A50
  have H' := Aside0.mk H
  clear H
  go_enter Tryd.func44, Tryd.ntmps44
  go_wp2_with (first | ((with_reducible refine gate_dst (N := 3) rfl ?_); refine box_event ?hg (N := 3) ?hd (cs := #[.int .u64 a1_0, .int .u64 a1_1, .int .u64 a1_2, .int .u64 a1_3]) (t := 23) ?hr ?_; (case hd => rfl); (case hg => rfl); (case hr => first | (go_simp; done) | (go_simp; rfl)); intro gb247 hg w6 hbox hb; have n0_ := Aside0.mk (below_step (by repeat (first | (with_reducible first | exact HB.out | apply below_alloc | apply pw_below_drewN | apply below_drew1) | exact HB.out)) hb); have n1_ := Aside0.mk (hbox); have n2_ := Aside0.mk ((by rw [hg]; exact (below_size (by repeat (first | (with_reducible first | exact HB.out | apply below_alloc | apply pw_below_drewN | apply below_drew1) | exact HB.out))) : w.heap.size ≤ gb247)); have n3_ := Aside0.mk ((by rw [hg]; exact (below_size (by repeat (first | (with_reducible first | exact HB.out | apply below_alloc | apply pw_below_drewN | apply below_drew1) | exact HB.out))) : w.heap.size ≤ gb247)); clear HB; have HB := n0_; have BK247 := n1_; have GW247 := n2_; have GE247 := n3_; clear n0_ n1_ n2_ n3_; clear hb hbox hg) | ((with_reducible refine gate_dst (N := 4) rfl ?_); refine box_event ?hg (N := 4) ?hd (cs := #[.int .u64 0, .int .u64 0, .int .u64 0, .int .u64 0]) (t := 23) ?hr ?_; (case hd => rfl); (case hg => rfl); (case hr => first | (go_simp; done) | (go_simp; rfl)); intro gb248 hg w7 hbox hb; have n0_ := Aside0.mk (blk_below (g := gb247) (o := .cells #[.int .u64 a1_0, .int .u64 a1_1, .int .u64 a1_2, .int .u64 a1_3] 23 (0, 0)) (by (with_reducible repeat (first | refine blk_drewN ?_ _ | refine blk_drew ?_ | refine blk_alloc ?_ _)); exact BK247.out) hb); have n1_ := Aside0.mk (below_step (by repeat (first | (with_reducible first | exact HB.out | apply below_alloc | apply pw_below_drewN | apply below_drew1 | refine below_set ?_ GE247.out) | exact HB.out)) hb); have n2_ := Aside0.mk (hbox); have n3_ := Aside0.mk ((by rw [hg]; exact (below_size (by repeat (first | (with_reducible first | exact HB.out | apply below_alloc | apply pw_below_drewN | apply below_drew1 | refine below_set ?_ GE247.out) | exact HB.out))) : w.heap.size ≤ gb248)); have n4_ := Aside0.mk ((by rw [hg]; exact (below_size (by repeat (first | (with_reducible first | exact HB.out | apply below_alloc | apply pw_below_drewN | apply below_drew1 | refine below_set ?_ GE247.out) | exact HB.out))) : w.heap.size ≤ gb248)); have n5_ := Aside0.mk ((by rw [hg]; exact Nat.ne_of_lt (blk_lt (g := gb247) (o := .cells #[.int .u64 a1_0, .int .u64 a1_1, .int .u64 a1_2, .int .u64 a1_3] 23 (0, 0)) (by (with_reducible repeat (first | refine blk_drewN ?_ _ | refine blk_drew ?_ | refine blk_alloc ?_ _)); exact BK247.out)) : gb247 ≠ gb248)); have n6_ := Aside0.mk ((by rw [hg]; exact Nat.ne_of_gt (blk_lt (g := gb247) (o := .cells #[.int .u64 a1_0, .int .u64 a1_1, .int .u64 a1_2, .int .u64 a1_3] 23 (0, 0)) (by (with_reducible repeat (first | refine blk_drewN ?_ _ | refine blk_drew ?_ | refine blk_alloc ?_ _)); exact BK247.out)) : gb248 ≠ gb247)); clear BK247; clear HB; have BK247 := n0_; have HB := n1_; have BK248 := n2_; have GW248 := n3_; have GE248 := n4_; have NB247_248 := n5_; have NB248_247 := n6_; clear n0_ n1_ n2_ n3_ n4_ n5_ n6_; clear hb hbox hg) | ((with_reducible refine gate_callee (f := 52) rfl ?_); refine goesL_ (some 11) rfl rfl Tryd.func52 (by kernel_rfl) rfl #[.int .i64 a0, .int .u64 4] rfl (by (try simp only [List.map_toArray, List.map_cons, List.map_nil]); first | done | rfl | (simp only [List.length_drop, List.length_take]; rfl) | (go_simp; done) | (go_simp; rw [Int.tmod_eq_emod_of_nonneg (by omega)]; omega)) ?_; (with_reducible refine (field_Neg.calls a0 4 t249 _ ?side1 A3.out).mono ?_); (case side1 => repeat (first | exact (GL.below HRG.out HB.out) | (with_reducible refine GL.alloc ?_ _) | (with_reducible refine GL.drewN ?_ _) | (with_reducible refine GL.drew ?_))); rintro e w8 ⟨rfl, hb⟩; refine ⟨_, rfl, ?_⟩; have n0_ := Aside0.mk (blk_below (g := gb247) (o := .cells #[.int .u64 a1_0, .int .u64 a1_1, .int .u64 a1_2, .int .u64 a1_3] 23 (0, 0)) (by (with_reducible repeat (first | refine blk_drewN ?_ _ | refine blk_drew ?_ | refine blk_alloc ?_ _)); exact BK247.out) hb); have n1_ := Aside0.mk (blk_below (g := gb248) (o := .cells #[.int .u64 0, .int .u64 0, .int .u64 0, .int .u64 0] 23 (0, 0)) (by (with_reducible repeat (first | refine blk_drewN ?_ _ | refine blk_drew ?_ | refine blk_alloc ?_ _)); exact BK248.out) hb); have n2_ := Aside0.mk (below_step (by repeat (first | (with_reducible first | exact HB.out | apply below_alloc | apply pw_below_drewN | apply below_drew1 | refine below_set ?_ GE247.out | refine below_set ?_ GE248.out) | exact HB.out)) hb); clear BK247; clear BK248; clear HB; have BK247 := n0_; have BK248 := n1_; have HB := n2_; clear n0_ n1_ n2_; (try clear hb); (try clear hb2); (try clear hk); (try clear hi)) | ((with_reducible refine gate_callee (f := 52) rfl ?_); refine goesL_ (some 13) rfl rfl Tryd.func52 (by kernel_rfl) rfl #[.int .i64 a0, .int .u64 11] rfl (by (try simp only [List.map_toArray, List.map_cons, List.map_nil]); first | done | rfl | (simp only [List.length_drop, List.length_take]; rfl) | (go_simp; done) | (go_simp; rw [Int.tmod_eq_emod_of_nonneg (by omega)]; omega)) ?_; (with_reducible refine (field_Neg.calls a0 11 t250 _ ?side1 A4.out).mono ?_); (case side1 => repeat (first | exact (GL.below HRG.out HB.out) | (with_reducible refine GL.alloc ?_ _) | (with_reducible refine GL.drewN ?_ _) | (with_reducible refine GL.drew ?_))); rintro e w9 ⟨rfl, hb⟩; refine ⟨_, rfl, ?_⟩; have n0_ := Aside0.mk (blk_below (g := gb247) (o := .cells #[.int .u64 a1_0, .int .u64 a1_1, .int .u64 a1_2, .int .u64 a1_3] 23 (0, 0)) (by (with_reducible repeat (first | refine blk_drewN ?_ _ | refine blk_drew ?_ | refine blk_alloc ?_ _)); exact BK247.out) hb); have n1_ := Aside0.mk (blk_below (g := gb248) (o := .cells #[.int .u64 0, .int .u64 0, .int .u64 0, .int .u64 0] 23 (0, 0)) (by (with_reducible repeat (first | refine blk_drewN ?_ _ | refine blk_drew ?_ | refine blk_alloc ?_ _)); exact BK248.out) hb); have n2_ := Aside0.mk (below_step (by repeat (first | (with_reducible first | exact HB.out | apply below_alloc | apply pw_below_drewN | apply below_drew1 | refine below_set ?_ GE247.out | refine below_set ?_ GE248.out) | exact HB.out)) hb); clear BK247; clear BK248; clear HB; have BK247 := n0_; have BK248 := n1_; have HB := n2_; clear n0_ n1_ n2_; (try clear hb); (try clear hb2); (try clear hk); (try clear hi)) | ((with_reducible refine gate_dst (N := 14) rfl ?_); refine Kd.R_lit (Kd.int .u64) _ 22 ?hg (N := 14) ?hd (xs := ([t249, 3, t250, 17] : List Int)) (inner := [.int .u64 t249, .int .u64 3, .int .u64 t250, .int .u64 17]) (ok := fun _ => True) (okp := fun _ => True) ?hr ?hp (fun _ hk => hk) trivial (Below.refl _ _) (Nat.le_refl _) (by simp) ?_; (case hd => rfl); (case hg => rfl); (case hr => first | (go_simp; done) | (go_simp; rfl)); (case hp => exact (Reps.one (show Kd.M (Kd.int .u64) _ _ _ t249 [.int .u64 t249] from rfl) (Reps.one (show Kd.M (Kd.int .u64) _ _ _ 3 [.int .u64 3] from rfl) (Reps.one (show Kd.M (Kd.int .u64) _ _ _ t250 [.int .u64 t250] from rfl) (Reps.one (show Kd.M (Kd.int .u64) _ _ _ 17 [.int .u64 17] from rfl) (Reps.none _ _)))))); intro v252 w10 ho11 hb hg_ hnew_; clear hg_ hnew_; (first | rw [← Ny251.out] at ho11 | (simp only [Int.reduceToNat] at ho11; rw [← Ny251.out] at ho11)); have n0_ := Aside0.mk (Kd.R_lower ho11 (below_size (by repeat (first | (with_reducible first | exact HB.out | apply below_alloc | apply pw_below_drewN | apply below_drew1 | refine below_set ?_ GE247.out | refine below_set ?_ GE248.out) | exact HB.out)))); have n1_ := Aside0.mk (blk_below (g := gb247) (o := .cells #[.int .u64 a1_0, .int .u64 a1_1, .int .u64 a1_2, .int .u64 a1_3] 23 (0, 0)) (by (with_reducible repeat (first | refine blk_drewN ?_ _ | refine blk_drew ?_ | refine blk_alloc ?_ _)); exact BK247.out) hb); have n2_ := Aside0.mk (blk_below (g := gb248) (o := .cells #[.int .u64 0, .int .u64 0, .int .u64 0, .int .u64 0] 23 (0, 0)) (by (with_reducible repeat (first | refine blk_drewN ?_ _ | refine blk_drew ?_ | refine blk_alloc ?_ _)); exact BK248.out) hb); have n3_ := Aside0.mk (below_step (by repeat (first | (with_reducible first | exact HB.out | apply below_alloc | apply pw_below_drewN | apply below_drew1 | refine below_set ?_ GE247.out | refine below_set ?_ GE248.out) | exact HB.out)) hb); clear BK247; clear BK248; clear HB; have HO253 := n0_; have BK247 := n1_; have BK248 := n2_; have HB := n3_; clear n0_ n1_ n2_ n3_; clear hb ho11) | ((with_reducible refine gate_callee (f := 53) rfl ?_); refine goesL_ (some 16) rfl rfl Tryd.func53 (by kernel_rfl) rfl #[.int .i64 a0, .int .u64 35] rfl (by (try simp only [List.map_toArray, List.map_cons, List.map_nil]); first | done | rfl | (simp only [List.length_drop, List.length_take]; rfl) | (go_simp; done) | (go_simp; rw [Int.tmod_eq_emod_of_nonneg (by omega)]; omega)) ?_; (with_reducible refine (field_Inv.calls k a0 35 t254 _ ?side1 A5.out).mono ?_); (case side1 => repeat (first | exact (GL.below HRG.out HB.out) | (with_reducible refine GL.alloc ?_ _) | (with_reducible refine GL.drewN ?_ _) | (with_reducible refine GL.drew ?_))); rintro e w12 ⟨rfl, hb⟩; refine ⟨_, rfl, ?_⟩; have n0_ := Aside0.mk (Kd.R_below (by (with_reducible repeat (first | apply Kd.R_alloc | apply Kd.R_drewN | apply Kd.R_drew)); exact HO253.out) hb); have n1_ := Aside0.mk (blk_below (g := gb247) (o := .cells #[.int .u64 a1_0, .int .u64 a1_1, .int .u64 a1_2, .int .u64 a1_3] 23 (0, 0)) (by (with_reducible repeat (first | refine blk_drewN ?_ _ | refine blk_drew ?_ | refine blk_alloc ?_ _)); exact BK247.out) hb); have n2_ := Aside0.mk (blk_below (g := gb248) (o := .cells #[.int .u64 0, .int .u64 0, .int .u64 0, .int .u64 0] 23 (0, 0)) (by (with_reducible repeat (first | refine blk_drewN ?_ _ | refine blk_drew ?_ | refine blk_alloc ?_ _)); exact BK248.out) hb); have n3_ := Aside0.mk (below_step (by repeat (first | (with_reducible first | exact HB.out | apply below_alloc | apply pw_below_drewN | apply below_drew1 | refine below_set ?_ GE247.out | refine below_set ?_ GE248.out) | exact HB.out)) hb); clear HO253; clear BK247; clear BK248; clear HB; have HO253 := n0_; have BK247 := n1_; have BK248 := n2_; have HB := n3_; clear n0_ n1_ n2_ n3_; (try clear hb); (try clear hb2); (try clear hk); (try clear hi)) | ((with_reducible refine gate_dst (N := 7) rfl ?_); refine box_event ?hg (N := 7) ?hd (cs := #[.int .u64 0, .int .u64 0, .int .u64 0, .int .u64 0]) (t := 23) ?hr ?_; (case hd => rfl); (case hg => rfl); (case hr => first | (go_simp; done) | (go_simp; rfl)); intro gb255 hg w13 hbox hb; have n0_ := Aside0.mk (Kd.R_below (by (with_reducible repeat (first | apply Kd.R_alloc | apply Kd.R_drewN | apply Kd.R_drew)); exact HO253.out) hb); have n1_ := Aside0.mk (blk_below (g := gb247) (o := .cells #[.int .u64 a1_0, .int .u64 a1_1, .int .u64 a1_2, .int .u64 a1_3] 23 (0, 0)) (by (with_reducible repeat (first | refine blk_drewN ?_ _ | refine blk_drew ?_ | refine blk_alloc ?_ _)); exact BK247.out) hb); have n2_ := Aside0.mk (blk_below (g := gb248) (o := .cells #[.int .u64 0, .int .u64 0, .int .u64 0, .int .u64 0] 23 (0, 0)) (by (with_reducible repeat (first | refine blk_drewN ?_ _ | refine blk_drew ?_ | refine blk_alloc ?_ _)); exact BK248.out) hb); have n3_ := Aside0.mk (below_step (by repeat (first | (with_reducible first | exact HB.out | apply below_alloc | apply pw_below_drewN | apply below_drew1 | refine below_set ?_ GE247.out | refine below_set ?_ GE248.out) | exact HB.out)) hb); have n4_ := Aside0.mk (hbox); have n5_ := Aside0.mk ((by rw [hg]; exact (below_size (by repeat (first | (with_reducible first | exact HB.out | apply below_alloc | apply pw_below_drewN | apply below_drew1 | refine below_set ?_ GE247.out | refine below_set ?_ GE248.out) | exact HB.out))) : w.heap.size ≤ gb255)); have n6_ := Aside0.mk ((by rw [hg]; exact (below_size (by repeat (first | (with_reducible first | exact HB.out | apply below_alloc | apply pw_below_drewN | apply below_drew1 | refine below_set ?_ GE247.out | refine below_set ?_ GE248.out) | exact HB.out))) : w.heap.size ≤ gb255)); have n7_ := Aside0.mk ((by rw [hg]; exact Nat.ne_of_lt (blk_lt (g := gb247) (o := .cells #[.int .u64 a1_0, .int .u64 a1_1, .int .u64 a1_2, .int .u64 a1_3] 23 (0, 0)) (by (with_reducible repeat (first | refine blk_drewN ?_ _ | refine blk_drew ?_ | refine blk_alloc ?_ _)); exact BK247.out)) : gb247 ≠ gb255)); have n8_ := Aside0.mk ((by rw [hg]; exact Nat.ne_of_gt (blk_lt (g := gb247) (o := .cells #[.int .u64 a1_0, .int .u64 a1_1, .int .u64 a1_2, .int .u64 a1_3] 23 (0, 0)) (by (with_reducible repeat (first | refine blk_drewN ?_ _ | refine blk_drew ?_ | refine blk_alloc ?_ _)); exact BK247.out)) : gb255 ≠ gb247)); have n9_ := Aside0.mk ((by rw [hg]; exact Nat.ne_of_lt (blk_lt (g := gb248) (o := .cells #[.int .u64 0, .int .u64 0, .int .u64 0, .int .u64 0] 23 (0, 0)) (by (with_reducible repeat (first | refine blk_drewN ?_ _ | refine blk_drew ?_ | refine blk_alloc ?_ _)); exact BK248.out)) : gb248 ≠ gb255)); have n10_ := Aside0.mk ((by rw [hg]; exact Nat.ne_of_gt (blk_lt (g := gb248) (o := .cells #[.int .u64 0, .int .u64 0, .int .u64 0, .int .u64 0] 23 (0, 0)) (by (with_reducible repeat (first | refine blk_drewN ?_ _ | refine blk_drew ?_ | refine blk_alloc ?_ _)); exact BK248.out)) : gb255 ≠ gb248)); clear HO253; clear BK247; clear BK248; clear HB; have HO253 := n0_; have BK247 := n1_; have BK248 := n2_; have HB := n3_; have BK255 := n4_; have GW255 := n5_; have GE255 := n6_; have NB247_255 := n7_; have NB255_247 := n8_; have NB248_255 := n9_; have NB255_248 := n10_; clear n0_ n1_ n2_ n3_ n4_ n5_ n6_ n7_ n8_ n9_ n10_; clear hb hbox hg))
  go_loopg [17] k (fun kq v17 w' => ∃ (x17_1 : Int) (x256000_1 : Int) (x256001_1 : Int) (x256002_1 : Int) (x256003_1 : Int), v17 = .int .i64 x17_1 ∧ Aside0 (sponge_gather.l0 kq a0 y251 t254 x17_1 a1_0 a1_1 a1_2 a1_3 x256000_1 x256001_1 x256002_1 x256003_1 = some (r1, r2, r3, r4)) ∧ Aside0 (kq ≤ k) ∧ Aside0 (Kd.R (Kd.int .u64) 22 w' w.heap.size (fun _ => True) v252 y251) ∧ Aside0 (w'.heap[gb247]? = some (.cells #[.int .u64 a1_0, .int .u64 a1_1, .int .u64 a1_2, .int .u64 a1_3] 23 (0, 0))) ∧ Aside0 (w'.heap[gb248]? = some (.cells #[.int .u64 0, .int .u64 0, .int .u64 0, .int .u64 0] 23 (0, 0))) ∧ Aside0 (w'.heap[gb255]? = some (.cells #[.int .u64 x256000_1, .int .u64 x256001_1, .int .u64 x256002_1, .int .u64 x256003_1] 23 (0, 0))) ∧ Aside0 (Below w.heap.size w w'))
  case atStart => exact ⟨(0), (0), (0), (0), (0), (by first | rfl | (simp; done) | (simp [*]; done) | (simp; rfl) | (simp; decide +kernel)), H', ⟨Nat.le_refl _⟩, ⟨by (with_reducible repeat (first | apply Kd.R_alloc | apply Kd.R_drewN | apply Kd.R_drew)); exact HO253.out⟩, ⟨by (with_reducible repeat (first | refine blk_drewN ?_ _ | refine blk_drew ?_ | refine blk_alloc ?_ _)); exact BK247.out⟩, ⟨by (with_reducible repeat (first | refine blk_drewN ?_ _ | refine blk_drew ?_ | refine blk_alloc ?_ _)); exact BK248.out⟩, ⟨by (with_reducible repeat (first | refine blk_drewN ?_ _ | refine blk_drew ?_ | refine blk_alloc ?_ _)); exact BK255.out⟩, ⟨by repeat (first | (with_reducible first | exact HB.out | apply below_alloc | apply pw_below_drewN | apply below_drew1 | refine below_set ?_ GE247.out | refine below_set ?_ GE248.out | refine below_set ?_ GE255.out) | exact HB.out)⟩⟩
  case round =>
    clear H'
    try clear p2
    try clear c4
    try clear c5
    obtain ⟨x17_1, x256000_1, x256001_1, x256002_1, x256003_1, rfl, HA, HK1, HO_5, BK247, BK248, BK255, HB⟩ := hrel
    cases gk with
    | zero => exact absurd HA.out (by simp [sponge_gather.l0])
    | succ k1 =>
      have H := HA.out
      clear HA
      simp only [sponge_gather.l0] at H
      by_cases c14 : x17_1 < 4
      · rw [if_pos c14] at H
        have c14b0 : decide (x17_1 < 4) = true := decide_eq_true c14
        clear c14
        by_cases c15 : 0 ≤ x17_1
        · rw [if_pos c15] at H
          have c15b0 := eq_true c15
          have c15b1 : decide (0 ≤ x17_1) = true := decide_eq_true c15
          clear c15
          obtain ⟨ji16, hji16⟩ : ∃ j_ : Int, (Int.tmod (wrap64 (x17_1 + 1)) 4) = j_ := ⟨_, rfl⟩
          replace H : (if 0 ≤ (ji16) then (if (ji16) < 4 then (if 0 ≤ (Int.tmod (wrap64 (x17_1 + 2)) 4) then (if (Int.tmod (wrap64 (x17_1 + 2)) 4) < 4 then (if 0 ≤ (Int.tmod (wrap64 (x17_1 + 3)) 4) then (if (Int.tmod (wrap64 (x17_1 + 3)) 4) < 4 then ((field_Dot.f k1 a0 y251 (([(rd ([a1_0, a1_1, a1_2, a1_3] : List Int) x17_1), (rd ([a1_0, a1_1, a1_2, a1_3] : List Int) (ji16)), (rd ([a1_0, a1_1, a1_2, a1_3] : List Int) (Int.tmod (wrap64 (x17_1 + 2)) 4)), (rd ([a1_0, a1_1, a1_2, a1_3] : List Int) (Int.tmod (wrap64 (x17_1 + 3)) 4))] : List Int))).bind fun t259 => ((field_Mul.f a0 t259 t254).bind fun t260 => (sponge_gather.l0 k1 a0 y251 t254 (wrap64 (x17_1 + 1)) a1_0 a1_1 a1_2 a1_3 (updv x256000_1 0 x17_1 t260) (updv x256001_1 1 x17_1 t260) (updv x256002_1 2 x17_1 t260) (updv x256003_1 3 x17_1 t260)))) else (none)) else (none)) else (none)) else (none)) else (none)) else (none)) = some (r1, r2, r3, r4) := by first | (rw [hji16] at H; exact H) | (simp only [hji16] at H ⊢; exact H)
          by_cases c17 : 0 ≤ (ji16)
          · rw [if_pos c17] at H
            have c17b0 := eq_true c17
            have c17b1 : decide (0 ≤ (ji16)) = true := decide_eq_true c17
            clear c17
            by_cases c18 : (ji16) < 4
            · rw [if_pos c18] at H
              have c18b0 := eq_true c18
              have c18b1 : decide ((ji16) < 4) = true := decide_eq_true c18
              clear c18
              obtain ⟨ji19, hji19⟩ : ∃ j_ : Int, (Int.tmod (wrap64 (x17_1 + 2)) 4) = j_ := ⟨_, rfl⟩
              replace H : (if 0 ≤ (ji19) then (if (ji19) < 4 then (if 0 ≤ (Int.tmod (wrap64 (x17_1 + 3)) 4) then (if (Int.tmod (wrap64 (x17_1 + 3)) 4) < 4 then ((field_Dot.f k1 a0 y251 (([(rd ([a1_0, a1_1, a1_2, a1_3] : List Int) x17_1), (rd ([a1_0, a1_1, a1_2, a1_3] : List Int) (ji16)), (rd ([a1_0, a1_1, a1_2, a1_3] : List Int) (ji19)), (rd ([a1_0, a1_1, a1_2, a1_3] : List Int) (Int.tmod (wrap64 (x17_1 + 3)) 4))] : List Int))).bind fun t259 => ((field_Mul.f a0 t259 t254).bind fun t260 => (sponge_gather.l0 k1 a0 y251 t254 (wrap64 (x17_1 + 1)) a1_0 a1_1 a1_2 a1_3 (updv x256000_1 0 x17_1 t260) (updv x256001_1 1 x17_1 t260) (updv x256002_1 2 x17_1 t260) (updv x256003_1 3 x17_1 t260)))) else (none)) else (none)) else (none)) else (none)) = some (r1, r2, r3, r4) := by first | (rw [hji19] at H; exact H) | (simp only [hji19] at H ⊢; exact H)
              by_cases c20 : 0 ≤ (ji19)
              · rw [if_pos c20] at H
                have c20b0 := eq_true c20
                have c20b1 : decide (0 ≤ (ji19)) = true := decide_eq_true c20
                clear c20
                by_cases c21 : (ji19) < 4
                · rw [if_pos c21] at H
                  have c21b0 := eq_true c21
                  have c21b1 : decide ((ji19) < 4) = true := decide_eq_true c21
                  clear c21
                  obtain ⟨ji22, hji22⟩ : ∃ j_ : Int, (Int.tmod (wrap64 (x17_1 + 3)) 4) = j_ := ⟨_, rfl⟩
                  replace H : (if 0 ≤ (ji22) then (if (ji22) < 4 then ((field_Dot.f k1 a0 y251 (([(rd ([a1_0, a1_1, a1_2, a1_3] : List Int) x17_1), (rd ([a1_0, a1_1, a1_2, a1_3] : List Int) (ji16)), (rd ([a1_0, a1_1, a1_2, a1_3] : List Int) (ji19)), (rd ([a1_0, a1_1, a1_2, a1_3] : List Int) (ji22))] : List Int))).bind fun t259 => ((field_Mul.f a0 t259 t254).bind fun t260 => (sponge_gather.l0 k1 a0 y251 t254 (wrap64 (x17_1 + 1)) a1_0 a1_1 a1_2 a1_3 (updv x256000_1 0 x17_1 t260) (updv x256001_1 1 x17_1 t260) (updv x256002_1 2 x17_1 t260) (updv x256003_1 3 x17_1 t260)))) else (none)) else (none)) = some (r1, r2, r3, r4) := by first | (rw [hji22] at H; exact H) | (simp only [hji22] at H ⊢; exact H)
                  by_cases c23 : 0 ≤ (ji22)
                  · rw [if_pos c23] at H
                    have c23b0 := eq_true c23
                    have c23b1 : decide (0 ≤ (ji22)) = true := decide_eq_true c23
                    clear c23
                    by_cases c24 : (ji22) < 4
                    · rw [if_pos c24] at H
                      have c24b0 := eq_true c24
                      have c24b1 : decide ((ji22) < 4) = true := decide_eq_true c24
                      clear c24
                      obtain ⟨y256, hy256⟩ : ∃ y_ : List Int, y_ = (([(rd ([a1_0, a1_1, a1_2, a1_3] : List Int) x17_1), (rd ([a1_0, a1_1, a1_2, a1_3] : List Int) (ji16)), (rd ([a1_0, a1_1, a1_2, a1_3] : List Int) (ji19)), (rd ([a1_0, a1_1, a1_2, a1_3] : List Int) (ji22))] : List Int)) := ⟨_, rfl⟩
                      replace H : ((field_Dot.f k1 a0 y251 y256).bind fun t259 => ((field_Mul.f a0 t259 t254).bind fun t260 => (sponge_gather.l0 k1 a0 y251 t254 (wrap64 (x17_1 + 1)) a1_0 a1_1 a1_2 a1_3 (updv x256000_1 0 x17_1 t260) (updv x256001_1 1 x17_1 t260) (updv x256002_1 2 x17_1 t260) (updv x256003_1 3 x17_1 t260)))) = some (r1, r2, r3, r4) := by first | (rw [hy256]; with_reducible exact H) | (have H2_ := (Option.bind_some _ _).symm.trans H; rw [hy256]; with_reducible exact H2_) | (have H2_ := (Option.bind_some _ _).symm.trans H; with_reducible exact H2_) | with_reducible exact H | (rw [hy256]; exact H) | exact H
                      have Ny256 := Aside0.mk hy256
                      clear hy256
                      replace H := Option.bind_eq_some_iff.mp H
                      obtain ⟨t259, A250, H⟩ := H
                      replace H : ((field_Mul.f a0 t259 t254).bind fun t260 => (sponge_gather.l0 k1 a0 y251 t254 (wrap64 (x17_1 + 1)) a1_0 a1_1 a1_2 a1_3 (updv x256000_1 0 x17_1 t260) (updv x256001_1 1 x17_1 t260) (updv x256002_1 2 x17_1 t260) (updv x256003_1 3 x17_1 t260))) = some (r1, r2, r3, r4) := H
                      have A25 := Aside0.mk A250
                      clear A250
                      replace H := Option.bind_eq_some_iff.mp H
                      obtain ⟨t260, A260, H⟩ := H
                      replace H : (sponge_gather.l0 k1 a0 y251 t254 (wrap64 (x17_1 + 1)) a1_0 a1_1 a1_2 a1_3 (updv x256000_1 0 x17_1 t260) (updv x256001_1 1 x17_1 t260) (updv x256002_1 2 x17_1 t260) (updv x256003_1 3 x17_1 t260)) = some (r1, r2, r3, r4) := H
                      have A26 := Aside0.mk A260
                      clear A260
                      have H' := Aside0.mk H
                      clear H
                      try go_wp2
                      have n0_ := Aside0.mk (Kd.R_drew HO_5.out)
                      have n1_ := Aside0.mk (blk_drew BK247.out)
                      have n2_ := Aside0.mk (blk_drew BK248.out)
                      have n3_ := Aside0.mk (blk_drew BK255.out)
                      have n4_ := Aside0.mk (below_drew1 HB.out)
                      clear HO_5
                      clear BK247
                      clear BK248
                      clear BK255
                      clear HB
                      have HO_5 := n0_
                      have BK247 := n1_
                      have BK248 := n2_
                      have BK255 := n3_
                      have HB := n4_
                      clear n0_ n1_ n2_ n3_ n4_
                      have hlt28 : (x17_1 < 4) = True := eq_true (of_decide_eq_true (by first | (with_reducible assumption) | assumption))
                      have hge29 : (0 ≤ x17_1) = True := eq_true (of_decide_eq_true (by first | (with_reducible assumption) | assumption))
                      have hlt30 : ((ji16) < 4) = True := eq_true (of_decide_eq_true (by first | (with_reducible assumption) | assumption))
                      have hge31 : (0 ≤ (ji16)) = True := eq_true (of_decide_eq_true (by first | (with_reducible assumption) | assumption))
                      have hlt32 : ((ji19) < 4) = True := eq_true (of_decide_eq_true (by first | (with_reducible assumption) | assumption))
                      have hge33 : (0 ≤ (ji19)) = True := eq_true (of_decide_eq_true (by first | (with_reducible assumption) | assumption))
                      have hlt34 : ((ji22) < 4) = True := eq_true (of_decide_eq_true (by first | (with_reducible assumption) | assumption))
                      have hge35 : (0 ≤ (ji22)) = True := eq_true (of_decide_eq_true (by first | (with_reducible assumption) | assumption))
                      refine start_ (n := 20) (S := fun w' => w'.cell? ⟨gb247, (x17_1).toNat, none⟩ = some (.int .u64 (rd ([a1_0, a1_1, a1_2, a1_3] : List Int) x17_1)) ∧ w'.cell? ⟨gb247, ((ji16)).toNat, none⟩ = some (.int .u64 (rd ([a1_0, a1_1, a1_2, a1_3] : List Int) (ji16))) ∧ w'.cell? ⟨gb247, ((ji19)).toNat, none⟩ = some (.int .u64 (rd ([a1_0, a1_1, a1_2, a1_3] : List Int) (ji19))) ∧ w'.cell? ⟨gb247, ((ji22)).toNat, none⟩ = some (.int .u64 (rd ([a1_0, a1_1, a1_2, a1_3] : List Int) (ji22)))) (ds := []) #[false, false, false, false, false, false, false, false, false, false, false, false, false, false, false, false, false, false, false, false] (by kernel_rfl) rfl rfl ⟨(sel_at (pre := []) (l := ([a1_0, a1_1, a1_2, a1_3] : List Int)) (post := []) BK247.out rfl (by simp) (of_decide_eq_true (by first | (with_reducible assumption) | assumption)) (of_decide_eq_true (by first | (with_reducible assumption) | assumption))), (sel_at (pre := []) (l := ([a1_0, a1_1, a1_2, a1_3] : List Int)) (post := []) BK247.out rfl (by simp) (of_decide_eq_true (by first | (with_reducible assumption) | assumption)) (of_decide_eq_true (by first | (with_reducible assumption) | assumption))), (sel_at (pre := []) (l := ([a1_0, a1_1, a1_2, a1_3] : List Int)) (post := []) BK247.out rfl (by simp) (of_decide_eq_true (by first | (with_reducible assumption) | assumption)) (of_decide_eq_true (by first | (with_reducible assumption) | assumption))), (sel_at (pre := []) (l := ([a1_0, a1_1, a1_2, a1_3] : List Int)) (post := []) BK247.out rfl (by simp) (of_decide_eq_true (by first | (with_reducible assumption) | assumption)) (of_decide_eq_true (by first | (with_reducible assumption) | assumption)))⟩ (fun hHeld => ?_); refine with_tabW sponge_gather.tab7 sponge_gather.bits7 (fun HT_ HW_ => ?_)
                      generalize wr.drew = w27 at HO_5 BK247 BK248 BK255 HB hHeld ⊢
                      refine pure_ (i := 0) (N := some 20) (v := ?_) (a' := ?_) #[true, false, false, false, false, false, false, false, false, false, false, false, false, false, false, false, false, false, false, false] rfl rfl (any_of HT_.out (by kernel_rfl)) (fun _ _ _ h => h) (Or.inl ⟨by rfl, ?_⟩) ?_ ?_
                      rotate_left
                      · intro w'
                        go_simp
                        with_reducible rfl
                      rotate_left
                      · simp only [Act.put, List.setIfInBounds_toArray, List.set_cons_zero, List.set_cons_succ, i64_w, i32_w]
                        rfl
                      refine pure_ (i := 1) (N := some 21) (v := ?_) (a' := ?_) #[true, true, false, false, false, false, false, false, false, false, false, false, false, false, false, false, false, false, false, false] rfl rfl (any_of HT_.out (by kernel_rfl)) (fun _ _ _ h => h) (Or.inl ⟨by rfl, ?_⟩) ?_ ?_
                      rotate_left
                      · intro w'
                        go_simp
                        with_reducible rfl
                      rotate_left
                      · simp only [Act.put, List.setIfInBounds_toArray, List.set_cons_zero, List.set_cons_succ, i64_w, i32_w]
                        rfl
                      refine pure_ (i := 3) (N := some 23) (v := ?_) (a' := ?_) #[true, true, false, true, false, false, false, false, false, false, false, false, false, false, false, false, false, false, false, false] rfl rfl (any_of HT_.out (by kernel_rfl)) (fun _ _ _ h => h) (Or.inl ⟨by rfl, ?_⟩) ?_ ?_
                      rotate_left
                      · intro w'
                        go_simp
                        with_reducible rfl
                      rotate_left
                      · simp only [Act.put, List.setIfInBounds_toArray, List.set_cons_zero, List.set_cons_succ, i64_w, i32_w]
                        rfl
                      refine pure_ (i := 4) (N := some 24) (v := ?_) (a' := ?_) #[true, true, false, true, true, false, false, false, false, false, false, false, false, false, false, false, false, false, false, false] rfl rfl (any_of HT_.out (by kernel_rfl)) (fun _ _ _ h => h) (Or.inl ⟨by rfl, ?_⟩) ?_ ?_
                      rotate_left
                      · intro w'
                        go_simp
                        with_reducible rfl
                      rotate_left
                      · simp only [Act.put, List.setIfInBounds_toArray, List.set_cons_zero, List.set_cons_succ, i64_w, i32_w]
                        rfl
                      refine pure_ (i := 5) (N := some 25) (v := ?_) (a' := ?_) #[true, true, false, true, true, true, false, false, false, false, false, false, false, false, false, false, false, false, false, false] rfl rfl (any_of HT_.out (by kernel_rfl)) (fun _ _ _ h => h) (Or.inl ⟨by rfl, ?_⟩) ?_ ?_
                      rotate_left
                      · intro w'
                        go_simp
                        with_reducible rfl
                      rotate_left
                      · simp only [Act.put, List.setIfInBounds_toArray, List.set_cons_zero, List.set_cons_succ, i64_w, i32_w]
                        rfl
                      refine pure_ (i := 6) (N := some 26) (v := ?_) (a' := ?_) #[true, true, false, true, true, true, true, false, false, false, false, false, false, false, false, false, false, false, false, false] rfl rfl (any_of HT_.out (by kernel_rfl)) (fun _ _ _ h => h) (Or.inl ⟨by rfl, ?_⟩) ?_ ?_
                      rotate_left
                      · intro w'
                        go_simp
                        with_reducible rfl
                      rotate_left
                      · simp only [Act.put, List.setIfInBounds_toArray, List.set_cons_zero, List.set_cons_succ, i64_w, i32_w]
                        rfl
                      refine pure_ (i := 8) (N := some 28) (v := ?_) (a' := ?_) #[true, true, false, true, true, true, true, false, true, false, false, false, false, false, false, false, false, false, false, false] rfl rfl (any_of HT_.out (by kernel_rfl)) (fun _ _ _ h => h) (Or.inl ⟨by rfl, ?_⟩) ?_ ?_
                      rotate_left
                      · intro w'
                        go_simp
                        with_reducible rfl
                      rotate_left
                      · simp only [Act.put, List.setIfInBounds_toArray, List.set_cons_zero, List.set_cons_succ, i64_w, i32_w]
                        rfl
                      refine pure_ (i := 9) (N := some 29) (v := ?_) (a' := ?_) #[true, true, false, true, true, true, true, false, true, true, false, false, false, false, false, false, false, false, false, false] rfl rfl (any_of HT_.out (by kernel_rfl)) (fun _ _ _ h => h) (Or.inl ⟨by rfl, ?_⟩) ?_ ?_
                      rotate_left
                      · intro w'
                        go_simp
                        with_reducible rfl
                      rotate_left
                      · simp only [Act.put, List.setIfInBounds_toArray, List.set_cons_zero, List.set_cons_succ, i64_w, i32_w]
                        rfl
                      refine pure_ (i := 10) (N := some 30) (v := ?_) (a' := ?_) #[true, true, false, true, true, true, true, false, true, true, true, false, false, false, false, false, false, false, false, false] rfl rfl (any_of HT_.out (by kernel_rfl)) (fun _ _ _ h => h) (Or.inl ⟨by rfl, ?_⟩) ?_ ?_
                      rotate_left
                      · intro w'
                        go_simp
                        with_reducible rfl
                      rotate_left
                      · simp only [Act.put, List.setIfInBounds_toArray, List.set_cons_zero, List.set_cons_succ, i64_w, i32_w]
                        rfl
                      refine pure_ (i := 11) (N := some 31) (v := ?_) (a' := ?_) #[true, true, false, true, true, true, true, false, true, true, true, true, false, false, false, false, false, false, false, false] rfl rfl (any_of HT_.out (by kernel_rfl)) (fun _ _ _ h => h) (Or.inl ⟨by rfl, ?_⟩) ?_ ?_
                      rotate_left
                      · intro w'
                        go_simp
                        with_reducible rfl
                      rotate_left
                      · simp only [Act.put, List.setIfInBounds_toArray, List.set_cons_zero, List.set_cons_succ, i64_w, i32_w]
                        rfl
                      refine pure_ (i := 13) (N := some 33) (v := ?_) (a' := ?_) #[true, true, false, true, true, true, true, false, true, true, true, true, false, true, false, false, false, false, false, false] rfl rfl (any_of HT_.out (by kernel_rfl)) (fun _ _ _ h => h) (Or.inl ⟨by rfl, ?_⟩) ?_ ?_
                      rotate_left
                      · intro w'
                        go_simp
                        with_reducible rfl
                      rotate_left
                      · simp only [Act.put, List.setIfInBounds_toArray, List.set_cons_zero, List.set_cons_succ, i64_w, i32_w]
                        rfl
                      refine pure_ (i := 14) (N := some 34) (v := ?_) (a' := ?_) #[true, true, false, true, true, true, true, false, true, true, true, true, false, true, true, false, false, false, false, false] rfl rfl (any_of HT_.out (by kernel_rfl)) (fun _ _ _ h => h) (Or.inl ⟨by rfl, ?_⟩) ?_ ?_
                      rotate_left
                      · intro w'
                        go_simp
                        with_reducible rfl
                      rotate_left
                      · simp only [Act.put, List.setIfInBounds_toArray, List.set_cons_zero, List.set_cons_succ, i64_w, i32_w]
                        rfl
                      refine pure_ (i := 15) (N := some 35) (v := ?_) (a' := ?_) #[true, true, false, true, true, true, true, false, true, true, true, true, false, true, true, true, false, false, false, false] rfl rfl (any_of HT_.out (by kernel_rfl)) (fun _ _ _ h => h) (Or.inl ⟨by rfl, ?_⟩) ?_ ?_
                      rotate_left
                      · intro w'
                        go_simp
                        with_reducible rfl
                      rotate_left
                      · simp only [Act.put, List.setIfInBounds_toArray, List.set_cons_zero, List.set_cons_succ, i64_w, i32_w]
                        rfl
                      refine pure_ (i := 16) (N := some 36) (v := ?_) (a' := ?_) #[true, true, false, true, true, true, true, false, true, true, true, true, false, true, true, true, true, false, false, false] rfl rfl (any_of HT_.out (by kernel_rfl)) (fun _ _ _ h => h) (Or.inl ⟨by rfl, ?_⟩) ?_ ?_
                      rotate_left
                      · intro w'
                        go_simp
                        with_reducible rfl
                      rotate_left
                      · simp only [Act.put, List.setIfInBounds_toArray, List.set_cons_zero, List.set_cons_succ, i64_w, i32_w]
                        rfl
                      refine take_ (i := 2) (N := some 22) (v := ?_) (a' := ?_) #[true, true, true, true, true, true, true, false, true, true, true, true, false, true, true, true, true, false, false, false] rfl rfl (take_ofW HT_.out HW_.out (by kernel_rfl)) (fun _ _ _ h => h) (Or.inl ⟨by rfl, ?_⟩) hHeld ?_ ?_
                      rotate_left
                      · rintro w' ⟨s0, s1, s2, s3⟩
                        go_simp
                        with_reducible rfl
                      rotate_left
                      · simp only [Act.put, List.setIfInBounds_toArray, List.set_cons_zero, List.set_cons_succ, i64_w, i32_w]
                        rfl
                      refine take_ (i := 7) (N := some 27) (v := ?_) (a' := ?_) #[true, true, true, true, true, true, true, true, true, true, true, true, false, true, true, true, true, false, false, false] rfl rfl (take_ofW HT_.out HW_.out (by kernel_rfl)) (fun _ _ _ h => h) (Or.inl ⟨by rfl, ?_⟩) hHeld ?_ ?_
                      rotate_left
                      · rintro w' ⟨s0, s1, s2, s3⟩
                        go_simp
                        with_reducible rfl
                      rotate_left
                      · simp only [Act.put, List.setIfInBounds_toArray, List.set_cons_zero, List.set_cons_succ, i64_w, i32_w]
                        rfl
                      refine take_ (i := 12) (N := some 32) (v := ?_) (a' := ?_) #[true, true, true, true, true, true, true, true, true, true, true, true, true, true, true, true, true, false, false, false] rfl rfl (take_ofW HT_.out HW_.out (by kernel_rfl)) (fun _ _ _ h => h) (Or.inl ⟨by rfl, ?_⟩) hHeld ?_ ?_
                      rotate_left
                      · rintro w' ⟨s0, s1, s2, s3⟩
                        go_simp
                        with_reducible rfl
                      rotate_left
                      · simp only [Act.put, List.setIfInBounds_toArray, List.set_cons_zero, List.set_cons_succ, i64_w, i32_w]
                        rfl
                      refine take_ (i := 17) (N := some 37) (v := ?_) (a' := ?_) #[true, true, true, true, true, true, true, true, true, true, true, true, true, true, true, true, true, true, false, false] rfl rfl (take_ofW HT_.out HW_.out (by kernel_rfl)) (fun _ _ _ h => h) (Or.inl ⟨by rfl, ?_⟩) hHeld ?_ ?_
                      rotate_left
                      · rintro w' ⟨s0, s1, s2, s3⟩
                        go_simp
                        with_reducible rfl
                      rotate_left
                      · simp only [Act.put, List.setIfInBounds_toArray, List.set_cons_zero, List.set_cons_succ, i64_w, i32_w]
                        rfl
                      refine one_ (i := 18) (N := some 38) #[true, true, true, true, true, true, true, true, true, true, true, true, true, true, true, true, true, true, true, false] rfl rfl (one_of HT_.out (by kernel_rfl)) (by decide) (fun K hK => ?_)
                      refine Kd.R_lit_step (Kd.int .u64) _ 22 ?hg (N := 38) ?hd (xs := ([(rd ([a1_0, a1_1, a1_2, a1_3] : List Int) x17_1), (rd ([a1_0, a1_1, a1_2, a1_3] : List Int) (ji16)), (rd ([a1_0, a1_1, a1_2, a1_3] : List Int) (ji19)), (rd ([a1_0, a1_1, a1_2, a1_3] : List Int) (ji22))] : List Int)) (inner := [.int .u64 (rd ([a1_0, a1_1, a1_2, a1_3] : List Int) x17_1), .int .u64 (rd ([a1_0, a1_1, a1_2, a1_3] : List Int) (ji16)), .int .u64 (rd ([a1_0, a1_1, a1_2, a1_3] : List Int) (ji19)), .int .u64 (rd ([a1_0, a1_1, a1_2, a1_3] : List Int) (ji22))]) (ok := fun _ => True) (okp := fun _ => True) ?hr ?hp (fun _ hk => hk) trivial (Below.refl _ _) (Nat.le_refl _) (by simp) ?_; (case hd => rfl); (case hg => rfl); (case hr => first | (go_simp; done) | (go_simp; rfl)); (case hp => exact (Reps.one (show Kd.M (Kd.int .u64) _ _ _ (rd ([a1_0, a1_1, a1_2, a1_3] : List Int) x17_1) [.int .u64 (rd ([a1_0, a1_1, a1_2, a1_3] : List Int) x17_1)] from rfl) (Reps.one (show Kd.M (Kd.int .u64) _ _ _ (rd ([a1_0, a1_1, a1_2, a1_3] : List Int) (ji16)) [.int .u64 (rd ([a1_0, a1_1, a1_2, a1_3] : List Int) (ji16))] from rfl) (Reps.one (show Kd.M (Kd.int .u64) _ _ _ (rd ([a1_0, a1_1, a1_2, a1_3] : List Int) (ji19)) [.int .u64 (rd ([a1_0, a1_1, a1_2, a1_3] : List Int) (ji19))] from rfl) (Reps.one (show Kd.M (Kd.int .u64) _ _ _ (rd ([a1_0, a1_1, a1_2, a1_3] : List Int) (ji22)) [.int .u64 (rd ([a1_0, a1_1, a1_2, a1_3] : List Int) (ji22))] from rfl) (Reps.none _ _))))))
                      intro v257 w36 ho37 hb hg_ hnew_
                      clear hg_ hnew_
                      (first | rw [← Ny256.out] at ho37 | (simp only [Int.reduceToNat] at ho37; rw [← Ny256.out] at ho37))
                      have n0_ := Aside0.mk (Kd.R_elder' (by (with_reducible repeat (first | apply Kd.R_alloc | apply Kd.R_drewN | apply Kd.R_drew)); exact HO_5.out) (Kd.R_base ho37) hb)
                      have n1_ := Aside0.mk (Kd.R_lower (Kd.R_new' ho37 (Kd.R_lt (by (with_reducible repeat (first | apply Kd.R_alloc | apply Kd.R_drewN | apply Kd.R_drew)); exact HO_5.out))) (below_size (by repeat (first | (with_reducible first | exact HB.out | apply below_alloc | apply pw_below_drewN | apply below_drew1 | refine below_set ?_ GE247.out | refine below_set ?_ GE248.out | refine below_set ?_ GE255.out) | exact HB.out))))
                      have n2_ := Aside0.mk (blk_below (g := gb247) (o := .cells #[.int .u64 a1_0, .int .u64 a1_1, .int .u64 a1_2, .int .u64 a1_3] 23 (0, 0)) (by (with_reducible repeat (first | refine blk_drewN ?_ _ | refine blk_drew ?_ | refine blk_alloc ?_ _)); exact BK247.out) hb)
                      have n3_ := Aside0.mk (blk_below (g := gb248) (o := .cells #[.int .u64 0, .int .u64 0, .int .u64 0, .int .u64 0] 23 (0, 0)) (by (with_reducible repeat (first | refine blk_drewN ?_ _ | refine blk_drew ?_ | refine blk_alloc ?_ _)); exact BK248.out) hb)
                      have n4_ := Aside0.mk (blk_below (g := gb255) (o := .cells #[.int .u64 x256000_1, .int .u64 x256001_1, .int .u64 x256002_1, .int .u64 x256003_1] 23 (0, 0)) (by (with_reducible repeat (first | refine blk_drewN ?_ _ | refine blk_drew ?_ | refine blk_alloc ?_ _)); exact BK255.out) hb)
                      have n5_ := Aside0.mk (below_step (by repeat (first | (with_reducible first | exact HB.out | apply below_alloc | apply pw_below_drewN | apply below_drew1 | refine below_set ?_ GE247.out | refine below_set ?_ GE248.out | refine below_set ?_ GE255.out) | exact HB.out)) hb)
                      clear HO_5
                      clear BK247
                      clear BK248
                      clear BK255
                      clear HB
                      have HO_5 := n0_
                      have HO258 := n1_
                      have BK247 := n2_
                      have BK248 := n3_
                      have BK255 := n4_
                      have HB := n5_
                      clear n0_ n1_ n2_ n3_ n4_ n5_
                      clear hb ho37
                      refine hK.out _ _ ⟨(sel_at (pre := []) (l := ([a1_0, a1_1, a1_2, a1_3] : List Int)) (post := []) BK247.out rfl (by simp) (of_decide_eq_true (by first | (with_reducible assumption) | assumption)) (of_decide_eq_true (by first | (with_reducible assumption) | assumption))), (sel_at (pre := []) (l := ([a1_0, a1_1, a1_2, a1_3] : List Int)) (post := []) BK247.out rfl (by simp) (of_decide_eq_true (by first | (with_reducible assumption) | assumption)) (of_decide_eq_true (by first | (with_reducible assumption) | assumption))), (sel_at (pre := []) (l := ([a1_0, a1_1, a1_2, a1_3] : List Int)) (post := []) BK247.out rfl (by simp) (of_decide_eq_true (by first | (with_reducible assumption) | assumption)) (of_decide_eq_true (by first | (with_reducible assumption) | assumption))), (sel_at (pre := []) (l := ([a1_0, a1_1, a1_2, a1_3] : List Int)) (post := []) BK247.out rfl (by simp) (of_decide_eq_true (by first | (with_reducible assumption) | assumption)) (of_decide_eq_true (by first | (with_reducible assumption) | assumption)))⟩ (fun hHeld => ?_)
                      clear hK K
                      refine norm_ (a' := ?_) ?_ ?_
                      rotate_left
                      · show Act.put _ (some 38) _ = _
                        simp only [Act.put, List.setIfInBounds_toArray, List.set_cons_zero, List.set_cons_succ, i64_w, i32_w]
                        rfl
                      refine pure_ (i := 19) (N := some 9) (v := ?_) (a' := ?_) #[true, true, true, true, true, true, true, true, true, true, true, true, true, true, true, true, true, true, true, true] rfl rfl (any_of HT_.out (by kernel_rfl)) (fun _ _ _ h => h) (Or.inl ⟨by rfl, ?_⟩) ?_ ?_
                      rotate_left
                      · intro w'
                        go_simp
                        with_reducible rfl
                      rotate_left
                      · simp only [Act.put, List.setIfInBounds_toArray, List.set_cons_zero, List.set_cons_succ, i64_w, i32_w]
                        rfl
                      refine done_ (done_of HT_.out (by kernel_rfl)) ?_
                      obtain ⟨Ao38, co38, eo38⟩ := Kd.R_slice HO_5.out
                      subst eo38
                      obtain ⟨Ao39, co39, eo39⟩ := Kd.R_slice HO258.out
                      subst eo39
                      try go_wp2_with (first | ((with_reducible refine gate_callee (f := 54) rfl ?_); refine goesL_ (some 44) rfl rfl Tryd.func54 (by kernel_rfl) rfl #[.int .i64 a0, .slice Ao38 y251.length co38, .slice Ao39 y256.length co39] rfl (by (try simp only [List.map_toArray, List.map_cons, List.map_nil]); first | done | rfl | (simp only [List.length_drop, List.length_take]; rfl) | (go_simp; done) | (go_simp; rw [Int.tmod_eq_emod_of_nonneg (by omega)]; omega)) ?_; (with_reducible refine (field_Dot.calls k1 a0 _ _ y251 _ _ y256 t259 _ ?side1 ?side2 ?side3 ?side4 ?side5 A25.out).mono ?_); (case side1 => repeat (first | exact (Kd.R_reads' HO_5.out).2.2 | (with_reducible refine Kd.C_alloc ?_ _) | (with_reducible refine Kd.C_drewN ?_ _) | (with_reducible refine Kd.C_drew ?_))); (case side2 => exact (Kd.R_reads' HO_5.out).2.1); (case side3 => repeat (first | exact (Kd.R_reads' HO258.out).2.2 | (with_reducible refine Kd.C_alloc ?_ _) | (with_reducible refine Kd.C_drewN ?_ _) | (with_reducible refine Kd.C_drew ?_))); (case side4 => exact (Kd.R_reads' HO258.out).2.1); (case side5 => repeat (first | exact (GL.below HRG.out HB.out) | (with_reducible refine GL.alloc ?_ _) | (with_reducible refine GL.drewN ?_ _) | (with_reducible refine GL.drew ?_))); rintro e w40 ⟨rfl, hb⟩; refine ⟨_, rfl, ?_⟩; have n0_ := Aside0.mk (Kd.R_below (by (with_reducible repeat (first | apply Kd.R_alloc | apply Kd.R_drewN | apply Kd.R_drew)); exact HO_5.out) hb); have n1_ := Aside0.mk (Kd.R_below (by (with_reducible repeat (first | apply Kd.R_alloc | apply Kd.R_drewN | apply Kd.R_drew)); exact HO258.out) hb); have n2_ := Aside0.mk (blk_below (g := gb247) (o := .cells #[.int .u64 a1_0, .int .u64 a1_1, .int .u64 a1_2, .int .u64 a1_3] 23 (0, 0)) (by (with_reducible repeat (first | refine blk_drewN ?_ _ | refine blk_drew ?_ | refine blk_alloc ?_ _)); exact BK247.out) hb); have n3_ := Aside0.mk (blk_below (g := gb248) (o := .cells #[.int .u64 0, .int .u64 0, .int .u64 0, .int .u64 0] 23 (0, 0)) (by (with_reducible repeat (first | refine blk_drewN ?_ _ | refine blk_drew ?_ | refine blk_alloc ?_ _)); exact BK248.out) hb); have n4_ := Aside0.mk (blk_below (g := gb255) (o := .cells #[.int .u64 x256000_1, .int .u64 x256001_1, .int .u64 x256002_1, .int .u64 x256003_1] 23 (0, 0)) (by (with_reducible repeat (first | refine blk_drewN ?_ _ | refine blk_drew ?_ | refine blk_alloc ?_ _)); exact BK255.out) hb); have n5_ := Aside0.mk (below_step (by repeat (first | (with_reducible first | exact HB.out | apply below_alloc | apply pw_below_drewN | apply below_drew1 | refine below_set ?_ GE247.out | refine below_set ?_ GE248.out | refine below_set ?_ GE255.out) | exact HB.out)) hb); clear HO_5; clear HO258; clear BK247; clear BK248; clear BK255; clear HB; have HO_5 := n0_; have HO258 := n1_; have BK247 := n2_; have BK248 := n3_; have BK255 := n4_; have HB := n5_; clear n0_ n1_ n2_ n3_ n4_ n5_; (try clear hb); (try clear hb2); (try clear hk); (try clear hi)) | ((with_reducible refine gate_callee (f := 48) rfl ?_); refine goesL_ (some 46) rfl rfl Tryd.func48 (by kernel_rfl) rfl #[.int .i64 a0, .int .u64 t259, .int .u64 t254] rfl (by (try simp only [List.map_toArray, List.map_cons, List.map_nil]); first | done | rfl | (simp only [List.length_drop, List.length_take]; rfl) | (go_simp; done) | (go_simp; rw [Int.tmod_eq_emod_of_nonneg (by omega)]; omega)) ?_; (with_reducible refine (field_Mul.calls a0 t259 t254 t260 _ ?side1 A26.out).mono ?_); (case side1 => repeat (first | exact (GL.below HRG.out HB.out) | (with_reducible refine GL.alloc ?_ _) | (with_reducible refine GL.drewN ?_ _) | (with_reducible refine GL.drew ?_))); rintro e w41 ⟨rfl, hb⟩; refine ⟨_, rfl, ?_⟩; have n0_ := Aside0.mk (Kd.R_below (by (with_reducible repeat (first | apply Kd.R_alloc | apply Kd.R_drewN | apply Kd.R_drew)); exact HO_5.out) hb); have n1_ := Aside0.mk (Kd.R_below (by (with_reducible repeat (first | apply Kd.R_alloc | apply Kd.R_drewN | apply Kd.R_drew)); exact HO258.out) hb); have n2_ := Aside0.mk (blk_below (g := gb247) (o := .cells #[.int .u64 a1_0, .int .u64 a1_1, .int .u64 a1_2, .int .u64 a1_3] 23 (0, 0)) (by (with_reducible repeat (first | refine blk_drewN ?_ _ | refine blk_drew ?_ | refine blk_alloc ?_ _)); exact BK247.out) hb); have n3_ := Aside0.mk (blk_below (g := gb248) (o := .cells #[.int .u64 0, .int .u64 0, .int .u64 0, .int .u64 0] 23 (0, 0)) (by (with_reducible repeat (first | refine blk_drewN ?_ _ | refine blk_drew ?_ | refine blk_alloc ?_ _)); exact BK248.out) hb); have n4_ := Aside0.mk (blk_below (g := gb255) (o := .cells #[.int .u64 x256000_1, .int .u64 x256001_1, .int .u64 x256002_1, .int .u64 x256003_1] 23 (0, 0)) (by (with_reducible repeat (first | refine blk_drewN ?_ _ | refine blk_drew ?_ | refine blk_alloc ?_ _)); exact BK255.out) hb); have n5_ := Aside0.mk (below_step (by repeat (first | (with_reducible first | exact HB.out | apply below_alloc | apply pw_below_drewN | apply below_drew1 | refine below_set ?_ GE247.out | refine below_set ?_ GE248.out | refine below_set ?_ GE255.out) | exact HB.out)) hb); clear HO_5; clear HO258; clear BK247; clear BK248; clear BK255; clear HB; have HO_5 := n0_; have HO258 := n1_; have BK247 := n2_; have BK248 := n3_; have BK255 := n4_; have HB := n5_; clear n0_ n1_ n2_ n3_ n4_ n5_; (try clear hb); (try clear hb2); (try clear hk); (try clear hi); have hlt44 : (x17_1 < 4) = True := eq_true (of_decide_eq_true (by first | (with_reducible assumption) | assumption)); have hge45 : (0 ≤ x17_1) = True := eq_true (of_decide_eq_true (by first | (with_reducible assumption) | assumption)); have hnb46 := NB255_247.out; have hnc46 := NB247_255.out; have hnb47 := NB255_248.out; have hnc47 := NB248_255.out; have hcz48_0 : w41.cell? ⟨gb255, 0, none⟩ = some (.int .u64 x256000_1) := (blk_cell BK255.out 0).trans rfl; have hcz48_1 : w41.cell? ⟨gb255, 1, none⟩ = some (.int .u64 x256001_1) := (blk_cell BK255.out 1).trans rfl; have hcz48_2 : w41.cell? ⟨gb255, 2, none⟩ = some (.int .u64 x256002_1) := (blk_cell BK255.out 2).trans rfl; have hcz48_3 : w41.cell? ⟨gb255, 3, none⟩ = some (.int .u64 x256003_1) := (blk_cell BK255.out 3).trans rfl; have hfz48_0 := blk_frozen BK255.out 0; have hfz48_1 := blk_frozen BK255.out 1; have hfz48_2 := blk_frozen BK255.out 2; have hfz48_3 := blk_frozen BK255.out 3; have hsv42 : w41.cell? ⟨gb255, (x17_1).toNat, none⟩ = some (.int .u64 (rd ([x256000_1, x256001_1, x256002_1, x256003_1] : List Int) x17_1)) := (sel_at (pre := []) (l := ([x256000_1, x256001_1, x256002_1, x256003_1] : List Int)) (post := []) BK255.out rfl (by simp) (of_decide_eq_true (by first | (with_reducible assumption) | assumption)) (of_decide_eq_true (by first | (with_reducible assumption) | assumption))); have hfv43 := blk_frozen BK255.out ((x17_1).toNat)))
                      go_roundg k1
                      case measure => have := HK1.out; omega
                      case rel => exact ⟨(wrap64 (x17_1 + 1)), ((updv x256000_1 0 x17_1 t260)), ((updv x256001_1 1 x17_1 t260)), ((updv x256002_1 2 x17_1 t260)), ((updv x256003_1 3 x17_1 t260)), (by first | rfl | (simp; done) | (simp [*]; done) | (simp; rfl) | (simp; decide +kernel)), H', ⟨by have := HK1.out; omega⟩, ⟨by (with_reducible repeat (first | apply Kd.R_alloc | apply Kd.R_drewN | apply Kd.R_drew)); exact Kd.R_mono (Kd.R_far (p := ⟨gb255, (x17_1).toNat, none⟩) (Kd.R_types HO_5.out BK255.out (by decide)) (fun _ hk => hk.2) (.int .u64 t260)) (fun _ hk => trivial)⟩, ⟨by (with_reducible repeat (first | refine blk_drewN ?_ _ | refine blk_drew ?_ | refine blk_alloc ?_ _)); refine blk_far ?_ NB247_255.out _; (with_reducible repeat (first | refine blk_drewN ?_ _ | refine blk_drew ?_ | refine blk_alloc ?_ _)); exact BK247.out⟩, ⟨by (with_reducible repeat (first | refine blk_drewN ?_ _ | refine blk_drew ?_ | refine blk_alloc ?_ _)); refine blk_far ?_ NB248_255.out _; (with_reducible repeat (first | refine blk_drewN ?_ _ | refine blk_drew ?_ | refine blk_alloc ?_ _)); exact BK248.out⟩, ⟨by (with_reducible repeat (first | refine blk_drewN ?_ _ | refine blk_drew ?_ | refine blk_alloc ?_ _)); refine sel_put (pre := []) (l := ([x256000_1, x256001_1, x256002_1, x256003_1] : List Int)) (post := []) ?_ rfl rfl (by simp) (of_decide_eq_true (by first | (with_reducible assumption) | assumption)) (of_decide_eq_true (by first | (with_reducible assumption) | assumption)); (with_reducible repeat (first | refine blk_drewN ?_ _ | refine blk_drew ?_ | refine blk_alloc ?_ _)); exact BK255.out⟩, ⟨by repeat (first | (with_reducible first | exact HB.out | apply below_alloc | apply pw_below_drewN | apply below_drew1 | refine below_set ?_ GE247.out | refine below_set ?_ GE248.out | refine below_set ?_ GE255.out) | exact HB.out)⟩⟩
                    · rw [if_neg c24] at H
                      exact absurd H (by simp)
                  · rw [if_neg c23] at H
                    exact absurd H (by simp)
                · rw [if_neg c21] at H
                  exact absurd H (by simp)
              · rw [if_neg c20] at H
                exact absurd H (by simp)
            · rw [if_neg c18] at H
              exact absurd H (by simp)
          · rw [if_neg c17] at H
            exact absurd H (by simp)
        · rw [if_neg c15] at H
          exact absurd H (by simp)
      · rw [if_neg c14] at H
        have c14b0 : decide (x17_1 < 4) = false := decide_eq_false c14
        clear c14
        simp only [Option.some.injEq, Prod.mk.injEq] at H
        obtain ⟨rfl, rfl, rfl, rfl⟩ := H
        have hnb49 := NB255_247.out
        have hnc49 := NB247_255.out
        have hnb50 := NB255_248.out
        have hnc50 := NB248_255.out
        have hcz51_0 : wr.cell? ⟨gb255, 0, none⟩ = some (.int .u64 x256000_1) := (blk_cell BK255.out 0).trans rfl
        have hcz51_1 : wr.cell? ⟨gb255, 1, none⟩ = some (.int .u64 x256001_1) := (blk_cell BK255.out 1).trans rfl
        have hcz51_2 : wr.cell? ⟨gb255, 2, none⟩ = some (.int .u64 x256002_1) := (blk_cell BK255.out 2).trans rfl
        have hcz51_3 : wr.cell? ⟨gb255, 3, none⟩ = some (.int .u64 x256003_1) := (blk_cell BK255.out 3).trans rfl
        have hfz51_0 := blk_frozen BK255.out 0
        have hfz51_1 := blk_frozen BK255.out 1
        have hfz51_2 := blk_frozen BK255.out 2
        have hfz51_3 := blk_frozen BK255.out 3
        have hnb52 := NB248_247.out
        have hnc52 := NB247_248.out
        have hcz53_0 : wr.cell? ⟨gb248, 0, none⟩ = some (.int .u64 0) := (blk_cell BK248.out 0).trans rfl
        have hcz53_1 : wr.cell? ⟨gb248, 1, none⟩ = some (.int .u64 0) := (blk_cell BK248.out 1).trans rfl
        have hcz53_2 : wr.cell? ⟨gb248, 2, none⟩ = some (.int .u64 0) := (blk_cell BK248.out 2).trans rfl
        have hcz53_3 : wr.cell? ⟨gb248, 3, none⟩ = some (.int .u64 0) := (blk_cell BK248.out 3).trans rfl
        have hfz53_0 := blk_frozen BK248.out 0
        have hfz53_1 := blk_frozen BK248.out 1
        have hfz53_2 := blk_frozen BK248.out 2
        have hfz53_3 := blk_frozen BK248.out 3
        go_wp2
        refine bodyPost_ret (results_cell_row rfl _ _ gb248 23 #[.int .u64 x256000_1, .int .u64 x256001_1, .int .u64 x256002_1, .int .u64 x256003_1] (0, 0) _ rfl (by (with_reducible repeat (first | refine blk_drewN ?_ _ | refine blk_drew ?_ | refine blk_alloc ?_ _)); refine blk_put (cs := #[.int .u64 x256000_1, .int .u64 x256001_1, .int .u64 x256002_1, .int .u64 0]) ?_ 3 _ rfl; (with_reducible repeat (first | refine blk_drewN ?_ _ | refine blk_drew ?_ | refine blk_alloc ?_ _)); refine blk_put (cs := #[.int .u64 x256000_1, .int .u64 x256001_1, .int .u64 0, .int .u64 0]) ?_ 2 _ rfl; (with_reducible repeat (first | refine blk_drewN ?_ _ | refine blk_drew ?_ | refine blk_alloc ?_ _)); refine blk_put (cs := #[.int .u64 x256000_1, .int .u64 0, .int .u64 0, .int .u64 0]) ?_ 1 _ rfl; (with_reducible repeat (first | refine blk_drewN ?_ _ | refine blk_drew ?_ | refine blk_alloc ?_ _)); refine blk_put (cs := #[.int .u64 0, .int .u64 0, .int .u64 0, .int .u64 0]) ?_ 0 _ rfl; (with_reducible repeat (first | refine blk_drewN ?_ _ | refine blk_drew ?_ | refine blk_alloc ?_ _)); exact BK248.out) Tryd.underlying23 rfl (by kernel_rfl)) rfl ?_
        exact ⟨by first | rfl | (simp [errW_none, errW_some] <;> rfl) | (simp [*, errW_none, errW_some] <;> rfl), by repeat (first | (with_reducible first | exact HB.out | apply below_alloc | apply pw_below_drewN | apply below_drew1 | refine below_set ?_ GE247.out | refine below_set ?_ GE248.out | refine below_set ?_ GE255.out) | exact HB.out)⟩

end Go.Proofs.YtjfekjblnoagkaaDoor.Q
end
