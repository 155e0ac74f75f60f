/- Several texts in one, in build order. What they prove, each by its own first remark:
Written by our own copy of a printing program (a twelfth state) out of the translation. Not trusted: Lean checks it.
The sponge of the reference, told in natural numbers, and that it agrees with the layer's.
What the functions of the reference of the layer channel compute, told in natural numbers. -/
import Derived.Test.YtkailiemikjfbaaDoorM2
import Derived.Test.YtkailiemikjfbaaDoorM4
import Derived.Test.YtkailiemikjfbaaDoorM3
section
namespace Go.Proofs.YtkailiemikjfbaaDoor.Q
open Go.RowKit Go.Proofs.YtkailiemikjfbaaDoorW.PrintWords Go.Proofs.YtkailiemikjfbaaDoorW.PrintLast Go.Proofs.YtkailiemikjfbaaDoorW.PrintMore
attribute [local go_sem] max2_int min2_int max_two min_two max_three min_three max_four min_four   -- for this text's walks alone
set_option linter.unusedVariables false
set_option linter.unusedSimpArgs false

/-! ### attestorref06_Perm: function 29 -/
def attestorref06_Perm.l0 : Nat → Int → Int → Int → Int → Int → Int → Option (Int × Int × Int × Int)
  | 0, _, _, _, _, _, _ => none
  | k + 1, x0, x5, x185000, x185001, x185002, x185003 => if x5 < 8 then ((attestorref06_Round.f k x0 x5 x185000 x185001 x185002 x185003).bind fun bt187 => (attestorref06_Perm.l0 k x0 (wrap64 (x5 + 1)) bt187.1 bt187.2.1 bt187.2.2.1 bt187.2.2.2)) else (some (x185000, x185001, x185002, x185003))
def attestorref06_Perm.f (k : Nat) (a0 : Int) (a1_0 : Int) (a1_1 : Int) (a1_2 : Int) (a1_3 : Int) : Option (Int × Int × Int × Int) := (attestorref01_Valid.f a0).bind fun t186 => (if t186 = true then (attestorref06_Perm.l0 k a0 0 a1_0 a1_1 a1_2 a1_3) else (some (0, 0, 0, 0)))
theorem attestorref06_Perm.mono_l : ∀ k, (∀ y0 y1 y2 y3 y4 y5, LeO (attestorref06_Perm.l0 k y0 y1 y2 y3 y4 y5) (attestorref06_Perm.l0 (k + 1) y0 y1 y2 y3 y4 y5))
  | 0 => fun _ _ _ _ _ _ r h => by simp [attestorref06_Perm.l0] at h
  | k + 1 => by
    have ih0 := attestorref06_Perm.mono_l k
    · intro y0 y1 y2 y3 y4 y5
      unfold attestorref06_Perm.l0
      repeat' first
      | (with_reducible exact ih0 _ _ _ _ _ _)
      | (with_reducible exact attestorref06_Round.mono _ _ _ _ _ _ _)
      | (with_reducible exact LeO.refl _)
      | (with_reducible exact LeO.none _)
      | (with_reducible refine LeO.ite ?_ ?_)
      | (with_reducible refine LeO.bind ?_ (fun _ => ?_))
      | exact ih0 _ _ _ _ _ _
      | exact attestorref06_Round.mono _ _ _ _ _ _ _
      | exact LeO.none _
      | refine LeO.ite ?_ ?_
      | refine LeO.bind ?_ (fun _ => ?_)
theorem attestorref06_Perm.mono : ∀ a0 a1 a2 a3 a4 k, LeO (attestorref06_Perm.f k a0 a1 a2 a3 a4) (attestorref06_Perm.f (k + 1) a0 a1 a2 a3 a4) := by
  intro a0 a1 a2 a3 a4 k
  have ih0 := attestorref06_Perm.mono_l k
  unfold attestorref06_Perm.f
  repeat' first
      | (with_reducible exact ih0 _ _ _ _ _ _)
      | (with_reducible exact attestorref06_Round.mono _ _ _ _ _ _ _)
      | (with_reducible exact LeO.refl _)
      | (with_reducible exact LeO.none _)
      | (with_reducible refine LeO.ite ?_ ?_)
      | (with_reducible refine LeO.bind ?_ (fun _ => ?_))
      | exact ih0 _ _ _ _ _ _
      | exact attestorref06_Round.mono _ _ _ _ _ _ _
      | exact LeO.none _
      | refine LeO.ite ?_ ?_
      | refine LeO.bind ?_ (fun _ => ?_)
set_option maxHeartbeats 8000000 in
set_option maxRecDepth 100000 in
theorem attestorref06_Perm.calls (k : Nat) (a0 : Int) (a1_0 : Int) (a1_1 : Int) (a1_2 : Int) (a1_3 : Int) (r1 : Int) (r2 : Int) (r3 : Int) (r4 : Int) (w : World) (h : attestorref06_Perm.f k a0 a1_0 a1_1 a1_2 a1_3 = some (r1, r2, r3, r4)) :
    Calls Tryd.prog 29 #[.int .i64 a0, .agg #[.int .u64 a1_0, .int .u64 a1_1, .int .u64 a1_2, .int .u64 a1_3]] w fun e w' => e = .returned (.agg #[.int .u64 r1, .int .u64 r2, .int .u64 r3, .int .u64 r4]) ∧ Below w.heap.size w w' := by
  have hu23 := Tryd.underlying23
  have HB := Aside0.mk (Below.refl w.heap.size w)
  have H : ((attestorref01_Valid.f a0).bind fun t186 => (if t186 = true then (attestorref06_Perm.l0 k a0 0 a1_0 a1_1 a1_2 a1_3) else (some (0, 0, 0, 0)))) = some (r1, r2, r3, r4) := h
  clear h
  replace H := Option.bind_eq_some_iff.mp H
  obtain ⟨t186, A30, H⟩ := H
  replace H : (if t186 = true then (attestorref06_Perm.l0 k a0 0 a1_0 a1_1 a1_2 a1_3) else (some (0, 0, 0, 0))) = some (r1, r2, r3, r4) := H
  have A3 := Aside0.mk A30
  clear A30
  by_cases c4 : t186 = true
  · subst c4
    have H1 : (attestorref06_Perm.l0 k a0 0 a1_0 a1_1 a1_2 a1_3) = some (r1, r2, r3, r4) := by rw [if_pos rfl] at H; exact H
    clear H
    have H := H1
    clear H1
    have H' := Aside0.mk H
    clear H
    go_enter Tryd.func29, Tryd.ntmps29
    go_wp2_with (first | ((with_reducible refine gate_dst (N := 3) rfl ?_); refine box_event ?hg (N := 3) ?hd (cs := #[.int .u64 a1_0, .int .u64 a1_1, .int .u64 a1_2, .int .u64 a1_3]) (t := 23) ?hr ?_; (case hd => rfl); (case hg => rfl); (case hr => first | (go_simp; done) | (go_simp; rfl)); intro gb184 hg w5 hbox hb; have n0_ := Aside0.mk (below_step (by repeat (first | (with_reducible first | exact HB.out | apply below_alloc | apply pw_below_drewN | apply below_drew1) | exact HB.out)) hb); have n1_ := Aside0.mk (hbox); have n2_ := Aside0.mk ((by rw [hg]; exact (below_size (by repeat (first | (with_reducible first | exact HB.out | apply below_alloc | apply pw_below_drewN | apply below_drew1) | exact HB.out))) : w.heap.size ≤ gb184)); have n3_ := Aside0.mk ((by rw [hg]; exact (below_size (by repeat (first | (with_reducible first | exact HB.out | apply below_alloc | apply pw_below_drewN | apply below_drew1) | exact HB.out))) : w.heap.size ≤ gb184)); clear HB; have HB := n0_; have BK184 := n1_; have GW184 := n2_; have GE184 := n3_; clear n0_ n1_ n2_ n3_; clear hb hbox hg) | ((with_reducible refine gate_dst (N := 4) rfl ?_); refine box_event ?hg (N := 4) ?hd (cs := #[.int .u64 0, .int .u64 0, .int .u64 0, .int .u64 0]) (t := 23) ?hr ?_; (case hd => rfl); (case hg => rfl); (case hr => first | (go_simp; done) | (go_simp; rfl)); intro gb185 hg w6 hbox hb; have n0_ := Aside0.mk (blk_below (g := gb184) (o := .cells #[.int .u64 a1_0, .int .u64 a1_1, .int .u64 a1_2, .int .u64 a1_3] 23 (0, 0)) (by (with_reducible repeat (first | refine blk_drewN ?_ _ | refine blk_drew ?_ | refine blk_alloc ?_ _)); exact BK184.out) hb); have n1_ := Aside0.mk (below_step (by repeat (first | (with_reducible first | exact HB.out | apply below_alloc | apply pw_below_drewN | apply below_drew1 | refine below_set ?_ GE184.out) | exact HB.out)) hb); have n2_ := Aside0.mk (hbox); have n3_ := Aside0.mk ((by rw [hg]; exact (below_size (by repeat (first | (with_reducible first | exact HB.out | apply below_alloc | apply pw_below_drewN | apply below_drew1 | refine below_set ?_ GE184.out) | exact HB.out))) : w.heap.size ≤ gb185)); have n4_ := Aside0.mk ((by rw [hg]; exact (below_size (by repeat (first | (with_reducible first | exact HB.out | apply below_alloc | apply pw_below_drewN | apply below_drew1 | refine below_set ?_ GE184.out) | exact HB.out))) : w.heap.size ≤ gb185)); have n5_ := Aside0.mk ((by rw [hg]; exact Nat.ne_of_lt (blk_lt (g := gb184) (o := .cells #[.int .u64 a1_0, .int .u64 a1_1, .int .u64 a1_2, .int .u64 a1_3] 23 (0, 0)) (by (with_reducible repeat (first | refine blk_drewN ?_ _ | refine blk_drew ?_ | refine blk_alloc ?_ _)); exact BK184.out)) : gb184 ≠ gb185)); have n6_ := Aside0.mk ((by rw [hg]; exact Nat.ne_of_gt (blk_lt (g := gb184) (o := .cells #[.int .u64 a1_0, .int .u64 a1_1, .int .u64 a1_2, .int .u64 a1_3] 23 (0, 0)) (by (with_reducible repeat (first | refine blk_drewN ?_ _ | refine blk_drew ?_ | refine blk_alloc ?_ _)); exact BK184.out)) : gb185 ≠ gb184)); clear BK184; clear HB; have BK184 := n0_; have HB := n1_; have BK185 := n2_; have GW185 := n3_; have GE185 := n4_; have NB184_185 := n5_; have NB185_184 := n6_; clear n0_ n1_ n2_ n3_ n4_ n5_ n6_; clear hb hbox hg) | ((with_reducible refine gate_callee (f := 27) rfl ?_); refine goesL_ (some 7) rfl rfl Tryd.func27 (by kernel_rfl) rfl #[.int .i64 a0] rfl (by (try simp only [List.map_toArray, List.map_cons, List.map_nil]); first | done | rfl | (simp only [List.length_drop, List.length_take]; rfl) | (go_simp; done) | (go_simp; rw [Int.tmod_eq_emod_of_nonneg (by omega)]; omega)) ?_; (with_reducible refine (attestorref01_Valid.calls a0 true _ A3.out).mono ?_); rintro e w' ⟨rfl, ⟨nd, rfl⟩⟩; refine ⟨_, rfl, ?_⟩))
    go_loopg [5] k (fun kq v5 w' => ∃ (x5_1 : Int) (x185000_1 : Int) (x185001_1 : Int) (x185002_1 : Int) (x185003_1 : Int), v5 = .int .i64 x5_1 ∧ Aside0 (attestorref06_Perm.l0 kq a0 x5_1 x185000_1 x185001_1 x185002_1 x185003_1 = some (r1, r2, r3, r4)) ∧ Aside0 (kq ≤ k) ∧ Aside0 (w'.heap[gb184]? = some (.cells #[.int .u64 x185000_1, .int .u64 x185001_1, .int .u64 x185002_1, .int .u64 x185003_1] 23 (0, 0))) ∧ Aside0 (w'.heap[gb185]? = some (.cells #[.int .u64 0, .int .u64 0, .int .u64 0, .int .u64 0] 23 (0, 0))) ∧ Aside0 (Below w.heap.size w w'))
    case atStart => exact ⟨(0), (a1_0), (a1_1), (a1_2), (a1_3), (by first | rfl | (simp; done) | (simp [*]; done) | (simp; rfl) | (simp; decide +kernel)), H', ⟨Nat.le_refl _⟩, ⟨by (with_reducible repeat (first | refine blk_drewN ?_ _ | refine blk_drew ?_ | refine blk_alloc ?_ _)); exact BK184.out⟩, ⟨by (with_reducible repeat (first | refine blk_drewN ?_ _ | refine blk_drew ?_ | refine blk_alloc ?_ _)); exact BK185.out⟩, ⟨by repeat (first | (with_reducible first | exact HB.out | apply below_alloc | apply pw_below_drewN | apply below_drew1 | refine below_set ?_ GE184.out | refine below_set ?_ GE185.out) | exact HB.out)⟩⟩
    case round =>
      clear H'
      try clear c2
      try clear p2
      try clear c4
      obtain ⟨x5_1, x185000_1, x185001_1, x185002_1, x185003_1, rfl, HA, HK1, BK184, BK185, HB⟩ := hrel
      cases gk with
      | zero => exact absurd HA.out (by simp [attestorref06_Perm.l0])
      | succ k1 =>
        have H := HA.out
        clear HA
        simp only [attestorref06_Perm.l0] at H
        by_cases c7 : x5_1 < 8
        · rw [if_pos c7] at H
          have c7b0 : decide (x5_1 < 8) = true := decide_eq_true c7
          clear c7
          replace H := Option.bind_eq_some_iff.mp H
          obtain ⟨⟨t187, t188, t189, t190⟩, A80, H⟩ := H
          replace H : (attestorref06_Perm.l0 k1 a0 (wrap64 (x5_1 + 1)) t187 t188 t189 t190) = some (r1, r2, r3, r4) := H
          have A8 := Aside0.mk A80
          clear A80
          have H' := Aside0.mk H
          clear H
          have hnb9 := NB184_185.out
          have hnc9 := NB185_184.out
          have hcz10_0 : wr.cell? ⟨gb184, 0, none⟩ = some (.int .u64 x185000_1) := (blk_cell BK184.out 0).trans rfl
          have hcz10_1 : wr.cell? ⟨gb184, 1, none⟩ = some (.int .u64 x185001_1) := (blk_cell BK184.out 1).trans rfl
          have hcz10_2 : wr.cell? ⟨gb184, 2, none⟩ = some (.int .u64 x185002_1) := (blk_cell BK184.out 2).trans rfl
          have hcz10_3 : wr.cell? ⟨gb184, 3, none⟩ = some (.int .u64 x185003_1) := (blk_cell BK184.out 3).trans rfl
          have hfz10_0 := blk_frozen BK184.out 0
          have hfz10_1 := blk_frozen BK184.out 1
          have hfz10_2 := blk_frozen BK184.out 2
          have hfz10_3 := blk_frozen BK184.out 3
          go_wp2_with (first | ((with_reducible refine gate_callee (f := 38) rfl ?_); refine goesL_ (some 17) rfl rfl Tryd.func38 (by kernel_rfl) rfl #[.int .i64 a0, .int .i64 x5_1, .agg #[.int .u64 x185000_1, .int .u64 x185001_1, .int .u64 x185002_1, .int .u64 x185003_1]] rfl (by (try simp only [List.map_toArray, List.map_cons, List.map_nil]); first | done | rfl | (simp only [List.length_drop, List.length_take]; rfl) | (go_simp; done) | (go_simp; rw [Int.tmod_eq_emod_of_nonneg (by omega)]; omega)) ?_; (with_reducible refine (attestorref06_Round.calls k1 a0 x5_1 x185000_1 x185001_1 x185002_1 x185003_1 t187 t188 t189 t190 _ A8.out).mono ?_); rintro e w11 ⟨rfl, hb⟩; refine ⟨_, rfl, ?_⟩; have n0_ := Aside0.mk (blk_below (g := gb184) (o := .cells #[.int .u64 x185000_1, .int .u64 x185001_1, .int .u64 x185002_1, .int .u64 x185003_1] 23 (0, 0)) (by (with_reducible repeat (first | refine blk_drewN ?_ _ | refine blk_drew ?_ | refine blk_alloc ?_ _)); exact BK184.out) hb); have n1_ := Aside0.mk (blk_below (g := gb185) (o := .cells #[.int .u64 0, .int .u64 0, .int .u64 0, .int .u64 0] 23 (0, 0)) (by (with_reducible repeat (first | refine blk_drewN ?_ _ | refine blk_drew ?_ | refine blk_alloc ?_ _)); exact BK185.out) hb); have n2_ := Aside0.mk (below_step (by repeat (first | (with_reducible first | exact HB.out | apply below_alloc | apply pw_below_drewN | apply below_drew1 | refine below_set ?_ GE184.out | refine below_set ?_ GE185.out) | exact HB.out)) hb); clear BK184; clear BK185; clear HB; have BK184 := n0_; have BK185 := n1_; have HB := n2_; clear n0_ n1_ n2_; (try clear hb); (try clear hb2); (try clear hk); (try clear hi); have hcz12_0 : w11.cell? ⟨gb184, 0, none⟩ = some (.int .u64 x185000_1) := (blk_cell BK184.out 0).trans rfl; have hcz12_1 : w11.cell? ⟨gb184, 1, none⟩ = some (.int .u64 x185001_1) := (blk_cell BK184.out 1).trans rfl; have hcz12_2 : w11.cell? ⟨gb184, 2, none⟩ = some (.int .u64 x185002_1) := (blk_cell BK184.out 2).trans rfl; have hcz12_3 : w11.cell? ⟨gb184, 3, none⟩ = some (.int .u64 x185003_1) := (blk_cell BK184.out 3).trans rfl; have hfz12_0 := blk_frozen BK184.out 0; have hfz12_1 := blk_frozen BK184.out 1; have hfz12_2 := blk_frozen BK184.out 2; have hfz12_3 := blk_frozen BK184.out 3))
          go_roundg k1
          case measure => have := HK1.out; omega
          case rel => exact ⟨(wrap64 (x5_1 + 1)), (t187), (t188), (t189), (t190), (by first | rfl | (simp; done) | (simp [*]; done) | (simp; rfl) | (simp; decide +kernel)), H', ⟨by have := HK1.out; omega⟩, ⟨by (with_reducible repeat (first | refine blk_drewN ?_ _ | refine blk_drew ?_ | refine blk_alloc ?_ _)); refine blk_put (cs := #[.int .u64 t187, .int .u64 t188, .int .u64 t189, .int .u64 x185003_1]) ?_ 3 _ rfl; (with_reducible repeat (first | refine blk_drewN ?_ _ | refine blk_drew ?_ | refine blk_alloc ?_ _)); refine blk_put (cs := #[.int .u64 t187, .int .u64 t188, .int .u64 x185002_1, .int .u64 x185003_1]) ?_ 2 _ rfl; (with_reducible repeat (first | refine blk_drewN ?_ _ | refine blk_drew ?_ | refine blk_alloc ?_ _)); refine blk_put (cs := #[.int .u64 t187, .int .u64 x185001_1, .int .u64 x185002_1, .int .u64 x185003_1]) ?_ 1 _ rfl; (with_reducible repeat (first | refine blk_drewN ?_ _ | refine blk_drew ?_ | refine blk_alloc ?_ _)); refine blk_put (cs := #[.int .u64 x185000_1, .int .u64 x185001_1, .int .u64 x185002_1, .int .u64 x185003_1]) ?_ 0 _ rfl; (with_reducible repeat (first | refine blk_drewN ?_ _ | refine blk_drew ?_ | refine blk_alloc ?_ _)); exact BK184.out⟩, ⟨by (with_reducible repeat (first | refine blk_drewN ?_ _ | refine blk_drew ?_ | refine blk_alloc ?_ _)); refine blk_far ?_ NB185_184.out _; (with_reducible repeat (first | refine blk_drewN ?_ _ | refine blk_drew ?_ | refine blk_alloc ?_ _)); refine blk_far ?_ NB185_184.out _; (with_reducible repeat (first | refine blk_drewN ?_ _ | refine blk_drew ?_ | refine blk_alloc ?_ _)); refine blk_far ?_ NB185_184.out _; (with_reducible repeat (first | refine blk_drewN ?_ _ | refine blk_drew ?_ | refine blk_alloc ?_ _)); refine blk_far ?_ NB185_184.out _; (with_reducible repeat (first | refine blk_drewN ?_ _ | refine blk_drew ?_ | refine blk_alloc ?_ _)); exact BK185.out⟩, ⟨by repeat (first | (with_reducible first | exact HB.out | apply below_alloc | apply pw_below_drewN | apply below_drew1 | refine below_set ?_ GE184.out | refine below_set ?_ GE185.out) | exact HB.out)⟩⟩
        · rw [if_neg c7] at H
          have c7b0 : decide (x5_1 < 8) = false := decide_eq_false c7
          clear c7
          simp only [Option.some.injEq, Prod.mk.injEq] at H
          obtain ⟨rfl, rfl, rfl, rfl⟩ := H
          have hnb13 := NB184_185.out
          have hnc13 := NB185_184.out
          have hcz14_0 : wr.cell? ⟨gb184, 0, none⟩ = some (.int .u64 x185000_1) := (blk_cell BK184.out 0).trans rfl
          have hcz14_1 : wr.cell? ⟨gb184, 1, none⟩ = some (.int .u64 x185001_1) := (blk_cell BK184.out 1).trans rfl
          have hcz14_2 : wr.cell? ⟨gb184, 2, none⟩ = some (.int .u64 x185002_1) := (blk_cell BK184.out 2).trans rfl
          have hcz14_3 : wr.cell? ⟨gb184, 3, none⟩ = some (.int .u64 x185003_1) := (blk_cell BK184.out 3).trans rfl
          have hfz14_0 := blk_frozen BK184.out 0
          have hfz14_1 := blk_frozen BK184.out 1
          have hfz14_2 := blk_frozen BK184.out 2
          have hfz14_3 := blk_frozen BK184.out 3
          have hcz15_0 : wr.cell? ⟨gb185, 0, none⟩ = some (.int .u64 0) := (blk_cell BK185.out 0).trans rfl
          have hcz15_1 : wr.cell? ⟨gb185, 1, none⟩ = some (.int .u64 0) := (blk_cell BK185.out 1).trans rfl
          have hcz15_2 : wr.cell? ⟨gb185, 2, none⟩ = some (.int .u64 0) := (blk_cell BK185.out 2).trans rfl
          have hcz15_3 : wr.cell? ⟨gb185, 3, none⟩ = some (.int .u64 0) := (blk_cell BK185.out 3).trans rfl
          have hfz15_0 := blk_frozen BK185.out 0
          have hfz15_1 := blk_frozen BK185.out 1
          have hfz15_2 := blk_frozen BK185.out 2
          have hfz15_3 := blk_frozen BK185.out 3
          go_wp2
          refine bodyPost_ret (results_cell_row rfl _ _ gb185 23 #[.int .u64 x185000_1, .int .u64 x185001_1, .int .u64 x185002_1, .int .u64 x185003_1] (0, 0) _ rfl (by (with_reducible repeat (first | refine blk_drewN ?_ _ | refine blk_drew ?_ | refine blk_alloc ?_ _)); refine blk_put (cs := #[.int .u64 x185000_1, .int .u64 x185001_1, .int .u64 x185002_1, .int .u64 0]) ?_ 3 _ rfl; (with_reducible repeat (first | refine blk_drewN ?_ _ | refine blk_drew ?_ | refine blk_alloc ?_ _)); refine blk_put (cs := #[.int .u64 x185000_1, .int .u64 x185001_1, .int .u64 0, .int .u64 0]) ?_ 2 _ rfl; (with_reducible repeat (first | refine blk_drewN ?_ _ | refine blk_drew ?_ | refine blk_alloc ?_ _)); refine blk_put (cs := #[.int .u64 x185000_1, .int .u64 0, .int .u64 0, .int .u64 0]) ?_ 1 _ rfl; (with_reducible repeat (first | refine blk_drewN ?_ _ | refine blk_drew ?_ | refine blk_alloc ?_ _)); refine blk_put (cs := #[.int .u64 0, .int .u64 0, .int .u64 0, .int .u64 0]) ?_ 0 _ rfl; (with_reducible repeat (first | refine blk_drewN ?_ _ | refine blk_drew ?_ | refine blk_alloc ?_ _)); exact BK185.out) Tryd.underlying23 rfl (by kernel_rfl)) rfl ?_
          exact ⟨by first | rfl | (simp [errW_none, errW_some] <;> rfl) | (simp [*, errW_none, errW_some] <;> rfl), by repeat (first | (with_reducible first | exact HB.out | apply below_alloc | apply pw_below_drewN | apply below_drew1 | refine below_set ?_ GE184.out | refine below_set ?_ GE185.out) | exact HB.out)⟩
  · replace c4 := Bool.eq_false_iff.mpr c4
    subst c4
    have H1 : (some (0, 0, 0, 0)) = some (r1, r2, r3, r4) := by rw [if_neg (show ¬ (false = true) by decide)] at H; exact H
    clear H
    have H := H1
    clear H1
    simp only [Option.some.injEq, Prod.mk.injEq] at H
    obtain ⟨rfl, rfl, rfl, rfl⟩ := H
    go_enter Tryd.func29, Tryd.ntmps29
    go_wp2_with (first | ((with_reducible refine gate_dst (N := 3) rfl ?_); refine box_event ?hg (N := 3) ?hd (cs := #[.int .u64 a1_0, .int .u64 a1_1, .int .u64 a1_2, .int .u64 a1_3]) (t := 23) ?hr ?_; (case hd => rfl); (case hg => rfl); (case hr => first | (go_simp; done) | (go_simp; rfl)); intro gb184 hg w16 hbox hb; have n0_ := Aside0.mk (below_step (by repeat (first | (with_reducible first | exact HB.out | apply below_alloc | apply pw_below_drewN | apply below_drew1) | exact HB.out)) hb); have n1_ := Aside0.mk (hbox); have n2_ := Aside0.mk ((by rw [hg]; exact (below_size (by repeat (first | (with_reducible first | exact HB.out | apply below_alloc | apply pw_below_drewN | apply below_drew1) | exact HB.out))) : w.heap.size ≤ gb184)); have n3_ := Aside0.mk ((by rw [hg]; exact (below_size (by repeat (first | (with_reducible first | exact HB.out | apply below_alloc | apply pw_below_drewN | apply below_drew1) | exact HB.out))) : w.heap.size ≤ gb184)); clear HB; have HB := n0_; have BK184 := n1_; have GW184 := n2_; have GE184 := n3_; clear n0_ n1_ n2_ n3_; clear hb hbox hg) | ((with_reducible refine gate_dst (N := 4) rfl ?_); refine box_event ?hg (N := 4) ?hd (cs := #[.int .u64 0, .int .u64 0, .int .u64 0, .int .u64 0]) (t := 23) ?hr ?_; (case hd => rfl); (case hg => rfl); (case hr => first | (go_simp; done) | (go_simp; rfl)); intro gb185 hg w17 hbox hb; have n0_ := Aside0.mk (blk_below (g := gb184) (o := .cells #[.int .u64 a1_0, .int .u64 a1_1, .int .u64 a1_2, .int .u64 a1_3] 23 (0, 0)) (by (with_reducible repeat (first | refine blk_drewN ?_ _ | refine blk_drew ?_ | refine blk_alloc ?_ _)); exact BK184.out) hb); have n1_ := Aside0.mk (below_step (by repeat (first | (with_reducible first | exact HB.out | apply below_alloc | apply pw_below_drewN | apply below_drew1 | refine below_set ?_ GE184.out) | exact HB.out)) hb); have n2_ := Aside0.mk (hbox); have n3_ := Aside0.mk ((by rw [hg]; exact (below_size (by repeat (first | (with_reducible first | exact HB.out | apply below_alloc | apply pw_below_drewN | apply below_drew1 | refine below_set ?_ GE184.out) | exact HB.out))) : w.heap.size ≤ gb185)); have n4_ := Aside0.mk ((by rw [hg]; exact (below_size (by repeat (first | (with_reducible first | exact HB.out | apply below_alloc | apply pw_below_drewN | apply below_drew1 | refine below_set ?_ GE184.out) | exact HB.out))) : w.heap.size ≤ gb185)); have n5_ := Aside0.mk ((by rw [hg]; exact Nat.ne_of_lt (blk_lt (g := gb184) (o := .cells #[.int .u64 a1_0, .int .u64 a1_1, .int .u64 a1_2, .int .u64 a1_3] 23 (0, 0)) (by (with_reducible repeat (first | refine blk_drewN ?_ _ | refine blk_drew ?_ | refine blk_alloc ?_ _)); exact BK184.out)) : gb184 ≠ gb185)); have n6_ := Aside0.mk ((by rw [hg]; exact Nat.ne_of_gt (blk_lt (g := gb184) (o := .cells #[.int .u64 a1_0, .int .u64 a1_1, .int .u64 a1_2, .int .u64 a1_3] 23 (0, 0)) (by (with_reducible repeat (first | refine blk_drewN ?_ _ | refine blk_drew ?_ | refine blk_alloc ?_ _)); exact BK184.out)) : gb185 ≠ gb184)); clear BK184; clear HB; have BK184 := n0_; have HB := n1_; have BK185 := n2_; have GW185 := n3_; have GE185 := n4_; have NB184_185 := n5_; have NB185_184 := n6_; clear n0_ n1_ n2_ n3_ n4_ n5_ n6_; clear hb hbox hg) | ((with_reducible refine gate_callee (f := 27) rfl ?_); refine goesL_ (some 7) rfl rfl Tryd.func27 (by kernel_rfl) rfl #[.int .i64 a0] rfl (by (try simp only [List.map_toArray, List.map_cons, List.map_nil]); first | done | rfl | (simp only [List.length_drop, List.length_take]; rfl) | (go_simp; done) | (go_simp; rw [Int.tmod_eq_emod_of_nonneg (by omega)]; omega)) ?_; (with_reducible refine (attestorref01_Valid.calls a0 false _ A3.out).mono ?_); rintro e w' ⟨rfl, ⟨nd, rfl⟩⟩; refine ⟨_, rfl, ?_⟩; (try (rw [drewN_self w17]; generalize hq_ : World.drewN w17 _ = w17; have n0_ : Aside0 (w17.heap[gb184]? = some (.cells #[.int .u64 a1_0, .int .u64 a1_1, .int .u64 a1_2, .int .u64 a1_3] 23 (0, 0))) := ⟨by rw [← hq_]; exact (by (with_reducible repeat (first | refine blk_drewN ?_ _ | refine blk_drew ?_ | refine blk_alloc ?_ _)); exact BK184.out)⟩; have n1_ : Aside0 (w17.heap[gb185]? = some (.cells #[.int .u64 0, .int .u64 0, .int .u64 0, .int .u64 0] 23 (0, 0))) := ⟨by rw [← hq_]; exact (by (with_reducible repeat (first | refine blk_drewN ?_ _ | refine blk_drew ?_ | refine blk_alloc ?_ _)); exact BK185.out)⟩; have n2_ : Aside0 (Below w.heap.size w w17) := ⟨by rw [← hq_]; exact (by repeat (first | (with_reducible first | exact HB.out | apply below_alloc | apply pw_below_drewN | apply below_drew1 | refine below_set ?_ GE184.out | refine below_set ?_ GE185.out) | exact HB.out))⟩; clear BK184 BK185 HB hq_; have BK184 := n0_; have BK185 := n1_; have HB := n2_; clear n0_ n1_ n2_)); have hnb18 := NB185_184.out; have hnc18 := NB184_185.out; have hcz19_0 : w17.cell? ⟨gb185, 0, none⟩ = some (.int .u64 0) := (blk_cell BK185.out 0).trans rfl; have hcz19_1 : w17.cell? ⟨gb185, 1, none⟩ = some (.int .u64 0) := (blk_cell BK185.out 1).trans rfl; have hcz19_2 : w17.cell? ⟨gb185, 2, none⟩ = some (.int .u64 0) := (blk_cell BK185.out 2).trans rfl; have hcz19_3 : w17.cell? ⟨gb185, 3, none⟩ = some (.int .u64 0) := (blk_cell BK185.out 3).trans rfl; have hfz19_0 := blk_frozen BK185.out 0; have hfz19_1 := blk_frozen BK185.out 1; have hfz19_2 := blk_frozen BK185.out 2; have hfz19_3 := blk_frozen BK185.out 3))
    refine bodyPost_ret (results_cell_row rfl _ _ gb185 23 #[.int .u64 0, .int .u64 0, .int .u64 0, .int .u64 0] (0, 0) _ rfl (by (with_reducible repeat (first | refine blk_drewN ?_ _ | refine blk_drew ?_ | refine blk_alloc ?_ _)); refine blk_put (cs := #[.int .u64 0, .int .u64 0, .int .u64 0, .int .u64 0]) ?_ 3 _ rfl; (with_reducible repeat (first | refine blk_drewN ?_ _ | refine blk_drew ?_ | refine blk_alloc ?_ _)); refine blk_put (cs := #[.int .u64 0, .int .u64 0, .int .u64 0, .int .u64 0]) ?_ 2 _ rfl; (with_reducible repeat (first | refine blk_drewN ?_ _ | refine blk_drew ?_ | refine blk_alloc ?_ _)); refine blk_put (cs := #[.int .u64 0, .int .u64 0, .int .u64 0, .int .u64 0]) ?_ 1 _ rfl; (with_reducible repeat (first | refine blk_drewN ?_ _ | refine blk_drew ?_ | refine blk_alloc ?_ _)); refine blk_put (cs := #[.int .u64 0, .int .u64 0, .int .u64 0, .int .u64 0]) ?_ 0 _ rfl; (with_reducible repeat (first | refine blk_drewN ?_ _ | refine blk_drew ?_ | refine blk_alloc ?_ _)); exact BK185.out) Tryd.underlying23 rfl (by kernel_rfl)) rfl ?_
    exact ⟨by first | rfl | (simp [errW_none, errW_some] <;> rfl) | (simp [*, errW_none, errW_some] <;> rfl), by repeat (first | (with_reducible first | exact HB.out | apply below_alloc | apply pw_below_drewN | apply below_drew1 | refine below_set ?_ GE184.out | refine below_set ?_ GE185.out) | exact HB.out)⟩

end Go.Proofs.YtkailiemikjfbaaDoor.Q
end
section
namespace Go.Proofs.YtkailiemikjfbaaDoor.Q
open Go.RowKit Go.Proofs.YtkailiemikjfbaaDoorW.PrintWords Go.Proofs.YtkailiemikjfbaaDoorW.PrintLast Go.Proofs.YtkailiemikjfbaaDoorW.PrintMore
open Go.Proofs.YtkailiemikjfbaaDoor.Num
set_option linter.unusedVariables false
set_option linter.unusedSimpArgs false

theorem rconst_yes {f : Int} {p g e : Nat} (D : Fd f p g e) (k r pl : Nat) (hk : 66 < k) (hr : r < 8) (hp : pl < 4) : attestorref06_Constant.f k f r pl = some ((cst p g (4 * r + (pl + 1)) : Nat) : Int) := by
  obtain ⟨k, rfl⟩ : ∃ j, k = j + 1 + 1 := ⟨k - 2, by omega⟩
  unfold attestorref06_Constant.f
  rw [rvalid_yes D.F]
  simp only [Option.bind_some, if_true]
  rw [if_neg (by omega), if_neg (by omega), if_neg (by omega), decide_eq_false (by omega)]
  simp only [attestorref06_Constant.j0, Bool.false_eq_true, if_false]
  rw [rgen_eq, D.gen]
  simp only [Option.bind_some]
  rw [expo r pl hr hp, rpow_f D.F 6 (k + 1) g _ (by omega) (by omega) (by omega)]
  simp only [Option.bind_some]
  rw [show (7 : Int) = ((7 : Nat) : Int) from rfl, radd_f D.F]
  rfl
theorem rconst_no (f r pl : Int) (k : Nat) (h : ¬ ((0 ≤ f ∧ f < 4) ∧ (0 ≤ r ∧ r < 8) ∧ 0 ≤ pl ∧ pl < 4)) : attestorref06_Constant.f (k + 1) f r pl = some 0 := by
  unfold attestorref06_Constant.f
  by_cases h1 : 0 ≤ f ∧ f < 4
  · obtain ⟨p, F⟩ := fld_of h1.1 h1.2
    rw [rvalid_yes F]
    simp only [Option.bind_some, if_true]
    split
    · simp only [attestorref06_Constant.j0, if_true]
    · split
      · simp only [attestorref06_Constant.j0, if_true]
      · split
        · simp only [attestorref06_Constant.j0, if_true]
        · rw [decide_eq_true (by omega)]
          simp only [attestorref06_Constant.j0, if_true]
  · rw [rvalid_no h1]
    simp only [Option.bind_some, Bool.false_eq_true, if_false, attestorref06_Constant.j0, if_true]
theorem pm (p e a c : Nat) : ((a + c) % p) ^ e % p = (a % p + c) ^ e % p := by
  rw [Nat.pow_mod (a % p + c) e p, Nat.mod_add_mod]
theorem rl0_0 (k : Nat) (f r s0 s1 s2 s3 : Int) : attestorref06_Round.l0 (k + 1) f r 0 s0 s1 s2 s3 = (attestorref06_Constant.f k f r 0).bind fun c => (attestorref01_Add.f f s0 c).bind fun v => attestorref06_Round.l0 k f r 1 v s1 s2 s3 := by
  rw [attestorref06_Round.l0, if_pos (by decide), if_pos (by decide), v01]
  rfl
theorem rl1_0 (k : Nat) (f s0 s1 s2 s3 : Int) : attestorref06_Round.l1 (k + 1) f 0 s0 s1 s2 s3 = (attestorref01_Exponent.f k f).bind fun c => (attestorref01_Pow.f k f s0 (IntKind.u64.wrap c)).bind fun v => attestorref06_Round.l1 k f 1 v s1 s2 s3 := by
  rw [attestorref06_Round.l1, if_pos (by decide), if_pos (by decide), v01]
  rfl
theorem rl2_0 (k : Nat) (f s0 s1 s2 s3 t0 t1 t2 t3 : Int) : attestorref06_Round.l2 (k + 1) f 0 s0 s1 s2 s3 t0 t1 t2 t3 = (attestorref06_row.f 0).bind fun m => attestorref06_Round.l3 k f 0 0 s0 s1 s2 s3 t0 t1 t2 t3 m.1 m.2.1 m.2.2.1 m.2.2.2 := by
  rw [attestorref06_Round.l2, if_pos (by decide)]
theorem rl3_00 (k : Nat) (f s0 s1 s2 s3 t0 t1 t2 t3 m0 m1 m2 m3 : Int) : attestorref06_Round.l3 (k + 1) f 0 0 s0 s1 s2 s3 t0 t1 t2 t3 m0 m1 m2 m3 = (attestorref01_Mul.f f m0 s0).bind fun c => (attestorref01_Add.f f t0 c).bind fun v => attestorref06_Round.l3 k f 0 1 s0 s1 s2 s3 v t1 t2 t3 m0 m1 m2 m3 := by
  rw [attestorref06_Round.l3, if_pos (by decide), if_pos (by decide), if_pos (by decide), if_pos (by decide), v01]
  rfl
theorem rl3_01 (k : Nat) (f s0 s1 s2 s3 t0 t1 t2 t3 m0 m1 m2 m3 : Int) : attestorref06_Round.l3 (k + 1) f 0 1 s0 s1 s2 s3 t0 t1 t2 t3 m0 m1 m2 m3 = (attestorref01_Mul.f f m1 s1).bind fun c => (attestorref01_Add.f f t0 c).bind fun v => attestorref06_Round.l3 k f 0 2 s0 s1 s2 s3 v t1 t2 t3 m0 m1 m2 m3 := by
  rw [attestorref06_Round.l3, if_pos (by decide), if_pos (by decide), if_pos (by decide), if_pos (by decide), v12]
  rfl
theorem rl3_02 (k : Nat) (f s0 s1 s2 s3 t0 t1 t2 t3 m0 m1 m2 m3 : Int) : attestorref06_Round.l3 (k + 1) f 0 2 s0 s1 s2 s3 t0 t1 t2 t3 m0 m1 m2 m3 = (attestorref01_Mul.f f m2 s2).bind fun c => (attestorref01_Add.f f t0 c).bind fun v => attestorref06_Round.l3 k f 0 3 s0 s1 s2 s3 v t1 t2 t3 m0 m1 m2 m3 := by
  rw [attestorref06_Round.l3, if_pos (by decide), if_pos (by decide), if_pos (by decide), if_pos (by decide), v23]
  rfl
theorem rl3_03 (k : Nat) (f s0 s1 s2 s3 t0 t1 t2 t3 m0 m1 m2 m3 : Int) : attestorref06_Round.l3 (k + 1) f 0 3 s0 s1 s2 s3 t0 t1 t2 t3 m0 m1 m2 m3 = (attestorref01_Mul.f f m3 s3).bind fun c => (attestorref01_Add.f f t0 c).bind fun v => attestorref06_Round.l3 k f 0 4 s0 s1 s2 s3 v t1 t2 t3 m0 m1 m2 m3 := by
  rw [attestorref06_Round.l3, if_pos (by decide), if_pos (by decide), if_pos (by decide), if_pos (by decide), v34]
  rfl
theorem rl3_04 (k : Nat) (f s0 s1 s2 s3 t0 t1 t2 t3 m0 m1 m2 m3 : Int) : attestorref06_Round.l3 (k + 1) f 0 4 s0 s1 s2 s3 t0 t1 t2 t3 m0 m1 m2 m3 = attestorref06_Round.l2 k f 1 s0 s1 s2 s3 t0 t1 t2 t3 := by
  rw [attestorref06_Round.l3, if_neg (by decide), v01]
theorem rl0_1 (k : Nat) (f r s0 s1 s2 s3 : Int) : attestorref06_Round.l0 (k + 1) f r 1 s0 s1 s2 s3 = (attestorref06_Constant.f k f r 1).bind fun c => (attestorref01_Add.f f s1 c).bind fun v => attestorref06_Round.l0 k f r 2 s0 v s2 s3 := by
  rw [attestorref06_Round.l0, if_pos (by decide), if_pos (by decide), v12]
  rfl
theorem rl1_1 (k : Nat) (f s0 s1 s2 s3 : Int) : attestorref06_Round.l1 (k + 1) f 1 s0 s1 s2 s3 = (attestorref01_Exponent.f k f).bind fun c => (attestorref01_Pow.f k f s1 (IntKind.u64.wrap c)).bind fun v => attestorref06_Round.l1 k f 2 s0 v s2 s3 := by
  rw [attestorref06_Round.l1, if_pos (by decide), if_pos (by decide), v12]
  rfl
theorem rl2_1 (k : Nat) (f s0 s1 s2 s3 t0 t1 t2 t3 : Int) : attestorref06_Round.l2 (k + 1) f 1 s0 s1 s2 s3 t0 t1 t2 t3 = (attestorref06_row.f 1).bind fun m => attestorref06_Round.l3 k f 1 0 s0 s1 s2 s3 t0 t1 t2 t3 m.1 m.2.1 m.2.2.1 m.2.2.2 := by
  rw [attestorref06_Round.l2, if_pos (by decide)]
theorem rl3_10 (k : Nat) (f s0 s1 s2 s3 t0 t1 t2 t3 m0 m1 m2 m3 : Int) : attestorref06_Round.l3 (k + 1) f 1 0 s0 s1 s2 s3 t0 t1 t2 t3 m0 m1 m2 m3 = (attestorref01_Mul.f f m0 s0).bind fun c => (attestorref01_Add.f f t1 c).bind fun v => attestorref06_Round.l3 k f 1 1 s0 s1 s2 s3 t0 v t2 t3 m0 m1 m2 m3 := by
  rw [attestorref06_Round.l3, if_pos (by decide), if_pos (by decide), if_pos (by decide), if_pos (by decide), v01]
  rfl
theorem rl3_11 (k : Nat) (f s0 s1 s2 s3 t0 t1 t2 t3 m0 m1 m2 m3 : Int) : attestorref06_Round.l3 (k + 1) f 1 1 s0 s1 s2 s3 t0 t1 t2 t3 m0 m1 m2 m3 = (attestorref01_Mul.f f m1 s1).bind fun c => (attestorref01_Add.f f t1 c).bind fun v => attestorref06_Round.l3 k f 1 2 s0 s1 s2 s3 t0 v t2 t3 m0 m1 m2 m3 := by
  rw [attestorref06_Round.l3, if_pos (by decide), if_pos (by decide), if_pos (by decide), if_pos (by decide), v12]
  rfl
theorem rl3_12 (k : Nat) (f s0 s1 s2 s3 t0 t1 t2 t3 m0 m1 m2 m3 : Int) : attestorref06_Round.l3 (k + 1) f 1 2 s0 s1 s2 s3 t0 t1 t2 t3 m0 m1 m2 m3 = (attestorref01_Mul.f f m2 s2).bind fun c => (attestorref01_Add.f f t1 c).bind fun v => attestorref06_Round.l3 k f 1 3 s0 s1 s2 s3 t0 v t2 t3 m0 m1 m2 m3 := by
  rw [attestorref06_Round.l3, if_pos (by decide), if_pos (by decide), if_pos (by decide), if_pos (by decide), v23]
  rfl
theorem rl3_13 (k : Nat) (f s0 s1 s2 s3 t0 t1 t2 t3 m0 m1 m2 m3 : Int) : attestorref06_Round.l3 (k + 1) f 1 3 s0 s1 s2 s3 t0 t1 t2 t3 m0 m1 m2 m3 = (attestorref01_Mul.f f m3 s3).bind fun c => (attestorref01_Add.f f t1 c).bind fun v => attestorref06_Round.l3 k f 1 4 s0 s1 s2 s3 t0 v t2 t3 m0 m1 m2 m3 := by
  rw [attestorref06_Round.l3, if_pos (by decide), if_pos (by decide), if_pos (by decide), if_pos (by decide), v34]
  rfl
theorem rl3_14 (k : Nat) (f s0 s1 s2 s3 t0 t1 t2 t3 m0 m1 m2 m3 : Int) : attestorref06_Round.l3 (k + 1) f 1 4 s0 s1 s2 s3 t0 t1 t2 t3 m0 m1 m2 m3 = attestorref06_Round.l2 k f 2 s0 s1 s2 s3 t0 t1 t2 t3 := by
  rw [attestorref06_Round.l3, if_neg (by decide), v12]
theorem rl0_2 (k : Nat) (f r s0 s1 s2 s3 : Int) : attestorref06_Round.l0 (k + 1) f r 2 s0 s1 s2 s3 = (attestorref06_Constant.f k f r 2).bind fun c => (attestorref01_Add.f f s2 c).bind fun v => attestorref06_Round.l0 k f r 3 s0 s1 v s3 := by
  rw [attestorref06_Round.l0, if_pos (by decide), if_pos (by decide), v23]
  rfl
theorem rl1_2 (k : Nat) (f s0 s1 s2 s3 : Int) : attestorref06_Round.l1 (k + 1) f 2 s0 s1 s2 s3 = (attestorref01_Exponent.f k f).bind fun c => (attestorref01_Pow.f k f s2 (IntKind.u64.wrap c)).bind fun v => attestorref06_Round.l1 k f 3 s0 s1 v s3 := by
  rw [attestorref06_Round.l1, if_pos (by decide), if_pos (by decide), v23]
  rfl
theorem rl2_2 (k : Nat) (f s0 s1 s2 s3 t0 t1 t2 t3 : Int) : attestorref06_Round.l2 (k + 1) f 2 s0 s1 s2 s3 t0 t1 t2 t3 = (attestorref06_row.f 2).bind fun m => attestorref06_Round.l3 k f 2 0 s0 s1 s2 s3 t0 t1 t2 t3 m.1 m.2.1 m.2.2.1 m.2.2.2 := by
  rw [attestorref06_Round.l2, if_pos (by decide)]
theorem rl3_20 (k : Nat) (f s0 s1 s2 s3 t0 t1 t2 t3 m0 m1 m2 m3 : Int) : attestorref06_Round.l3 (k + 1) f 2 0 s0 s1 s2 s3 t0 t1 t2 t3 m0 m1 m2 m3 = (attestorref01_Mul.f f m0 s0).bind fun c => (attestorref01_Add.f f t2 c).bind fun v => attestorref06_Round.l3 k f 2 1 s0 s1 s2 s3 t0 t1 v t3 m0 m1 m2 m3 := by
  rw [attestorref06_Round.l3, if_pos (by decide), if_pos (by decide), if_pos (by decide), if_pos (by decide), v01]
  rfl
theorem rl3_21 (k : Nat) (f s0 s1 s2 s3 t0 t1 t2 t3 m0 m1 m2 m3 : Int) : attestorref06_Round.l3 (k + 1) f 2 1 s0 s1 s2 s3 t0 t1 t2 t3 m0 m1 m2 m3 = (attestorref01_Mul.f f m1 s1).bind fun c => (attestorref01_Add.f f t2 c).bind fun v => attestorref06_Round.l3 k f 2 2 s0 s1 s2 s3 t0 t1 v t3 m0 m1 m2 m3 := by
  rw [attestorref06_Round.l3, if_pos (by decide), if_pos (by decide), if_pos (by decide), if_pos (by decide), v12]
  rfl
theorem rl3_22 (k : Nat) (f s0 s1 s2 s3 t0 t1 t2 t3 m0 m1 m2 m3 : Int) : attestorref06_Round.l3 (k + 1) f 2 2 s0 s1 s2 s3 t0 t1 t2 t3 m0 m1 m2 m3 = (attestorref01_Mul.f f m2 s2).bind fun c => (attestorref01_Add.f f t2 c).bind fun v => attestorref06_Round.l3 k f 2 3 s0 s1 s2 s3 t0 t1 v t3 m0 m1 m2 m3 := by
  rw [attestorref06_Round.l3, if_pos (by decide), if_pos (by decide), if_pos (by decide), if_pos (by decide), v23]
  rfl
theorem rl3_23 (k : Nat) (f s0 s1 s2 s3 t0 t1 t2 t3 m0 m1 m2 m3 : Int) : attestorref06_Round.l3 (k + 1) f 2 3 s0 s1 s2 s3 t0 t1 t2 t3 m0 m1 m2 m3 = (attestorref01_Mul.f f m3 s3).bind fun c => (attestorref01_Add.f f t2 c).bind fun v => attestorref06_Round.l3 k f 2 4 s0 s1 s2 s3 t0 t1 v t3 m0 m1 m2 m3 := by
  rw [attestorref06_Round.l3, if_pos (by decide), if_pos (by decide), if_pos (by decide), if_pos (by decide), v34]
  rfl
theorem rl3_24 (k : Nat) (f s0 s1 s2 s3 t0 t1 t2 t3 m0 m1 m2 m3 : Int) : attestorref06_Round.l3 (k + 1) f 2 4 s0 s1 s2 s3 t0 t1 t2 t3 m0 m1 m2 m3 = attestorref06_Round.l2 k f 3 s0 s1 s2 s3 t0 t1 t2 t3 := by
  rw [attestorref06_Round.l3, if_neg (by decide), v23]
theorem rl0_3 (k : Nat) (f r s0 s1 s2 s3 : Int) : attestorref06_Round.l0 (k + 1) f r 3 s0 s1 s2 s3 = (attestorref06_Constant.f k f r 3).bind fun c => (attestorref01_Add.f f s3 c).bind fun v => attestorref06_Round.l0 k f r 4 s0 s1 s2 v := by
  rw [attestorref06_Round.l0, if_pos (by decide), if_pos (by decide), v34]
  rfl
theorem rl1_3 (k : Nat) (f s0 s1 s2 s3 : Int) : attestorref06_Round.l1 (k + 1) f 3 s0 s1 s2 s3 = (attestorref01_Exponent.f k f).bind fun c => (attestorref01_Pow.f k f s3 (IntKind.u64.wrap c)).bind fun v => attestorref06_Round.l1 k f 4 s0 s1 s2 v := by
  rw [attestorref06_Round.l1, if_pos (by decide), if_pos (by decide), v34]
  rfl
theorem rl2_3 (k : Nat) (f s0 s1 s2 s3 t0 t1 t2 t3 : Int) : attestorref06_Round.l2 (k + 1) f 3 s0 s1 s2 s3 t0 t1 t2 t3 = (attestorref06_row.f 3).bind fun m => attestorref06_Round.l3 k f 3 0 s0 s1 s2 s3 t0 t1 t2 t3 m.1 m.2.1 m.2.2.1 m.2.2.2 := by
  rw [attestorref06_Round.l2, if_pos (by decide)]
theorem rl3_30 (k : Nat) (f s0 s1 s2 s3 t0 t1 t2 t3 m0 m1 m2 m3 : Int) : attestorref06_Round.l3 (k + 1) f 3 0 s0 s1 s2 s3 t0 t1 t2 t3 m0 m1 m2 m3 = (attestorref01_Mul.f f m0 s0).bind fun c => (attestorref01_Add.f f t3 c).bind fun v => attestorref06_Round.l3 k f 3 1 s0 s1 s2 s3 t0 t1 t2 v m0 m1 m2 m3 := by
  rw [attestorref06_Round.l3, if_pos (by decide), if_pos (by decide), if_pos (by decide), if_pos (by decide), v01]
  rfl
theorem rl3_31 (k : Nat) (f s0 s1 s2 s3 t0 t1 t2 t3 m0 m1 m2 m3 : Int) : attestorref06_Round.l3 (k + 1) f 3 1 s0 s1 s2 s3 t0 t1 t2 t3 m0 m1 m2 m3 = (attestorref01_Mul.f f m1 s1).bind fun c => (attestorref01_Add.f f t3 c).bind fun v => attestorref06_Round.l3 k f 3 2 s0 s1 s2 s3 t0 t1 t2 v m0 m1 m2 m3 := by
  rw [attestorref06_Round.l3, if_pos (by decide), if_pos (by decide), if_pos (by decide), if_pos (by decide), v12]
  rfl
theorem rl3_32 (k : Nat) (f s0 s1 s2 s3 t0 t1 t2 t3 m0 m1 m2 m3 : Int) : attestorref06_Round.l3 (k + 1) f 3 2 s0 s1 s2 s3 t0 t1 t2 t3 m0 m1 m2 m3 = (attestorref01_Mul.f f m2 s2).bind fun c => (attestorref01_Add.f f t3 c).bind fun v => attestorref06_Round.l3 k f 3 3 s0 s1 s2 s3 t0 t1 t2 v m0 m1 m2 m3 := by
  rw [attestorref06_Round.l3, if_pos (by decide), if_pos (by decide), if_pos (by decide), if_pos (by decide), v23]
  rfl
theorem rl3_33 (k : Nat) (f s0 s1 s2 s3 t0 t1 t2 t3 m0 m1 m2 m3 : Int) : attestorref06_Round.l3 (k + 1) f 3 3 s0 s1 s2 s3 t0 t1 t2 t3 m0 m1 m2 m3 = (attestorref01_Mul.f f m3 s3).bind fun c => (attestorref01_Add.f f t3 c).bind fun v => attestorref06_Round.l3 k f 3 4 s0 s1 s2 s3 t0 t1 t2 v m0 m1 m2 m3 := by
  rw [attestorref06_Round.l3, if_pos (by decide), if_pos (by decide), if_pos (by decide), if_pos (by decide), v34]
  rfl
theorem rl3_34 (k : Nat) (f s0 s1 s2 s3 t0 t1 t2 t3 m0 m1 m2 m3 : Int) : attestorref06_Round.l3 (k + 1) f 3 4 s0 s1 s2 s3 t0 t1 t2 t3 m0 m1 m2 m3 = attestorref06_Round.l2 k f 4 s0 s1 s2 s3 t0 t1 t2 t3 := by
  rw [attestorref06_Round.l3, if_neg (by decide), v34]
theorem rl0_4 (k : Nat) (f r s0 s1 s2 s3 : Int) : attestorref06_Round.l0 (k + 1) f r 4 s0 s1 s2 s3 = attestorref06_Round.l1 k f 0 s0 s1 s2 s3 := by
  rw [attestorref06_Round.l0, if_neg (by decide)]
theorem rl1_4 (k : Nat) (f s0 s1 s2 s3 : Int) : attestorref06_Round.l1 (k + 1) f 4 s0 s1 s2 s3 = attestorref06_Round.l2 k f 0 s0 s1 s2 s3 0 0 0 0 := by
  rw [attestorref06_Round.l1, if_neg (by decide)]
theorem rl2_4 (k : Nat) (f s0 s1 s2 s3 t0 t1 t2 t3 : Int) : attestorref06_Round.l2 (k + 1) f 4 s0 s1 s2 s3 t0 t1 t2 t3 = some (t0, t1, t2, t3) := by
  rw [attestorref06_Round.l2, if_neg (by decide)]
set_option maxRecDepth 100000 in
theorem rround_yes {f : Int} {p g e : Nat} (D : Fd f p g e) (k r : Nat) (hk : 120 < k) (hr : r < 8) (s : S4) : attestorref06_Round.f k f r s.a s.b s.c s.d = some (rn p g e (4 * r) (red p s)).o := by
  obtain ⟨k, rfl⟩ : ∃ j, k = j + 40 := ⟨k - 40, by omega⟩
  have c0 : ∀ k, 66 < k → attestorref06_Constant.f k f r 0 = some ((cst p g (4 * r + 1) : Nat) : Int) := fun k hk => rconst_yes D k r 0 hk hr (by omega)
  have c1 : ∀ k, 66 < k → attestorref06_Constant.f k f r 1 = some ((cst p g (4 * r + 2) : Nat) : Int) := fun k hk => rconst_yes D k r 1 hk hr (by omega)
  have c2 : ∀ k, 66 < k → attestorref06_Constant.f k f r 2 = some ((cst p g (4 * r + 3) : Nat) : Int) := fun k hk => rconst_yes D k r 2 hk hr (by omega)
  have c3 : ∀ k, 66 < k → attestorref06_Constant.f k f r 3 = some ((cst p g (4 * r + 4) : Nat) : Int) := fun k hk => rconst_yes D k r 3 hk hr (by omega)
  have he : e < 8 := by rcases D.e53 with h | h <;> omega
  have ex : ∀ k, 0 < k → attestorref01_Exponent.f k f = some (e : Int) := fun k hk => by
    obtain ⟨j, rfl⟩ : ∃ j, k = j + 1 := ⟨k - 1, by omega⟩
    rw [rexp_eq, D.exp]
  have rp : ∀ (k a : Nat), 10 < k → attestorref01_Pow.f k f a (IntKind.u64.wrap (e : Int)) = some ((a ^ e % p : Nat) : Int) := fun k a hk => by
    rw [wrapU (by omega)]
    exact rpow_f D.F 3 k a e (by omega) (by omega) (by omega)
  have ra : ∀ a b : Nat, attestorref01_Add.f f a b = some (((a + b) % p : Nat) : Int) := fun a b => radd_f D.F a b
  have ra0 : ∀ b : Nat, attestorref01_Add.f f 0 b = some (((0 + b) % p : Nat) : Int) := fun b => radd_f D.F 0 b
  have m1 : ∀ b : Nat, attestorref01_Mul.f f 1 b = some ((1 * b % p : Nat) : Int) := fun b => rmul_f D.F 1 b
  have m2 : ∀ b : Nat, attestorref01_Mul.f f 2 b = some ((2 * b % p : Nat) : Int) := fun b => rmul_f D.F 2 b
  have m3 : ∀ b : Nat, attestorref01_Mul.f f 3 b = some ((3 * b % p : Nat) : Int) := fun b => rmul_f D.F 3 b
  have w0 : attestorref06_row.f 0 = some (2, 3, 1, 1) := by simp [attestorref06_row.f]
  have w1 : attestorref06_row.f 1 = some (1, 2, 3, 1) := by simp [attestorref06_row.f]
  have w2 : attestorref06_row.f 2 = some (1, 1, 2, 3) := by simp [attestorref06_row.f]
  have w3 : attestorref06_row.f 3 = some (3, 1, 1, 2) := by simp [attestorref06_row.f]
  unfold attestorref06_Round.f
  refine bnd (rvalid_yes D.F) ?_
  rw [if_pos rfl, if_neg (by omega), decide_eq_false (by omega)]
  rw [attestorref06_Round.j0]
  rw [if_neg (by decide)]
  clear he
  rw [rl0_0]
  refine bnd (c0 _ (by omega)) (bnd (ra _ _) ?_)
  rw [rl0_1]
  refine bnd (c1 _ (by omega)) (bnd (ra _ _) ?_)
  rw [rl0_2]
  refine bnd (c2 _ (by omega)) (bnd (ra _ _) ?_)
  rw [rl0_3]
  refine bnd (c3 _ (by omega)) (bnd (ra _ _) ?_)
  rw [rl0_4]
  rw [rl1_0]
  refine bnd (ex _ (by omega)) (bnd (rp _ _ (by omega)) ?_)
  rw [rl1_1]
  refine bnd (ex _ (by omega)) (bnd (rp _ _ (by omega)) ?_)
  rw [rl1_2]
  refine bnd (ex _ (by omega)) (bnd (rp _ _ (by omega)) ?_)
  rw [rl1_3]
  refine bnd (ex _ (by omega)) (bnd (rp _ _ (by omega)) ?_)
  rw [rl1_4]
  rw [rl2_0]
  refine bnd w0 ?_
  rw [rl3_00]
  refine bnd (m2 _) (bnd (ra0 _) ?_)
  rw [rl3_01]
  refine bnd (m3 _) (bnd (ra _ _) ?_)
  rw [rl3_02]
  refine bnd (m1 _) (bnd (ra _ _) ?_)
  rw [rl3_03]
  refine bnd (m1 _) (bnd (ra _ _) ?_)
  rw [rl3_04]
  rw [rl2_1]
  refine bnd w1 ?_
  rw [rl3_10]
  refine bnd (m1 _) (bnd (ra0 _) ?_)
  rw [rl3_11]
  refine bnd (m2 _) (bnd (ra _ _) ?_)
  rw [rl3_12]
  refine bnd (m3 _) (bnd (ra _ _) ?_)
  rw [rl3_13]
  refine bnd (m1 _) (bnd (ra _ _) ?_)
  rw [rl3_14]
  rw [rl2_2]
  refine bnd w2 ?_
  rw [rl3_20]
  refine bnd (m1 _) (bnd (ra0 _) ?_)
  rw [rl3_21]
  refine bnd (m1 _) (bnd (ra _ _) ?_)
  rw [rl3_22]
  refine bnd (m2 _) (bnd (ra _ _) ?_)
  rw [rl3_23]
  refine bnd (m3 _) (bnd (ra _ _) ?_)
  rw [rl3_24]
  rw [rl2_3]
  refine bnd w3 ?_
  rw [rl3_30]
  refine bnd (m3 _) (bnd (ra0 _) ?_)
  rw [rl3_31]
  refine bnd (m1 _) (bnd (ra _ _) ?_)
  rw [rl3_32]
  refine bnd (m1 _) (bnd (ra _ _) ?_)
  rw [rl3_33]
  refine bnd (m2 _) (bnd (ra _ _) ?_)
  rw [rl3_34]
  rw [rl2_4]
  congr 1
  simp only [pm, S4.o, rn, mixd, red]
  generalize (s.a % p + cst p g (4 * r + 1)) ^ e % p = w
  generalize (s.b % p + cst p g (4 * r + 2)) ^ e % p = x
  generalize (s.c % p + cst p g (4 * r + 3)) ^ e % p = y
  generalize (s.d % p + cst p g (4 * r + 4)) ^ e % p = z
  simp only [Nat.zero_add, Nat.one_mul, Nat.mod_mod, Nat.add_mod_mod, Nat.mod_add_mod]
theorem rround_no (f r a b c d : Int) (k : Nat) (h : ¬ ((0 ≤ f ∧ f < 4) ∧ 0 ≤ r ∧ r < 8)) : attestorref06_Round.f (k + 1) f r a b c d = some (0, 0, 0, 0) := by
  unfold attestorref06_Round.f
  by_cases h1 : 0 ≤ f ∧ f < 4
  · obtain ⟨p, F⟩ := fld_of h1.1 h1.2
    rw [rvalid_yes F]
    simp only [Option.bind_some, if_true]
    split
    · simp only [attestorref06_Round.j0, if_true]
    · rw [decide_eq_true (by omega)]
      simp only [attestorref06_Round.j0, if_true]
  · rw [rvalid_no h1]
    simp only [Option.bind_some, Bool.false_eq_true, if_false, attestorref06_Round.j0, if_true]
theorem rperm_l0 {f : Int} {p g e : Nat} (D : Fd f p g e) (s : S4) : ∀ (m n k : Nat), n + m = 8 → 120 + m < k → ∀ t : S4, red p t = prm p g e n (red p s) → (m = 0 → t = prm p g e n (red p s)) →
    attestorref06_Perm.l0 k f n t.a t.b t.c t.d = some (prm p g e 8 (red p s)).o := by
  intro m
  induction m with
  | zero =>
    intro n k hn hk t _ ht
    obtain rfl : n = 8 := by omega
    obtain ⟨k, rfl⟩ : ∃ j, k = j + 1 := ⟨k - 1, by omega⟩
    rw [attestorref06_Perm.l0, if_neg (by omega), ht rfl]
    rfl
  | succ m ih =>
    intro n k hn hk t ht _
    obtain ⟨k, rfl⟩ : ∃ j, k = j + 1 := ⟨k - 1, by omega⟩
    rw [attestorref06_Perm.l0, if_pos (by omega)]
    refine bnd (rround_yes D k n (by omega) (by omega) t) ?_
    rw [ht, ← prm_succ]
    simp only [S4.o]
    rw [wrapS (x := (n : Int) + 1) (by omega) (by omega), show ((n : Int) + 1) = ((n + 1 : Nat) : Int) from rfl]
    exact ih (n + 1) k (by omega) (by omega) _ (red_id (prm_lt D.pos g e (red p s) (red_lt D.pos s) (n + 1))) (fun _ => rfl)
theorem rPerm_f {f : Int} {p g e : Nat} (D : Fd f p g e) (k : Nat) (hk : 130 < k) (s : S4) : attestorref06_Perm.f k f s.a s.b s.c s.d = some (prm p g e 8 (red p s)).o := by
  unfold attestorref06_Perm.f
  refine bnd (rvalid_yes D.F) ?_
  rw [if_pos rfl]
  exact rperm_l0 D s 8 0 k rfl (by omega) s rfl (fun h => absurd h (by decide))
theorem rPerm_no {f : Int} (k : Nat) (h : ¬ (0 ≤ f ∧ f < 4)) (a b c d : Int) : attestorref06_Perm.f k f a b c d = some (0, 0, 0, 0) := by
  unfold attestorref06_Perm.f
  rw [rvalid_no h]
  rfl
end Go.Proofs.YtkailiemikjfbaaDoor.Q
end
section
namespace Go.Proofs.YtkailiemikjfbaaDoor.Q
open Go.RowKit Go.Proofs.YtkailiemikjfbaaDoorW.PrintWords Go.Proofs.YtkailiemikjfbaaDoorW.PrintLast Go.Proofs.YtkailiemikjfbaaDoorW.PrintMore
attribute [local go_sem] max2_int min2_int max_two min_two max_three min_three max_four min_four   -- for this text's walks alone
set_option linter.unusedVariables false
set_option linter.unusedSimpArgs false

/-! ### attestorref08_Draw: function 11 -/
def attestorref08_Draw.f (k : Nat) (a0_0 : Int) (a0_1 : Int) (a0_2 : Int) (a0_3 : Int) (a0_4 : Int) : Option (Int × Int × Int × Int × Int × Int) := (attestorref01_Valid.f a0_0).bind fun t193 => (if t193 = true then ((attestorref01_Add.f a0_0 a0_2 2).bind fun t194 => ((attestorref06_Perm.f k a0_0 a0_1 t194 a0_3 a0_4).bind fun bt195 => (some (a0_0, bt195.1, bt195.2.1, bt195.2.2.1, bt195.2.2.2, bt195.1)))) else (some (0, 0, 0, 0, 0, 0)))
theorem attestorref08_Draw.mono : ∀ a0 a1 a2 a3 a4 k, LeO (attestorref08_Draw.f k a0 a1 a2 a3 a4) (attestorref08_Draw.f (k + 1) a0 a1 a2 a3 a4) := by
  intro a0 a1 a2 a3 a4 k
  unfold attestorref08_Draw.f
  repeat' first
      | (with_reducible exact attestorref06_Perm.mono _ _ _ _ _ _)
      | (with_reducible exact LeO.refl _)
      | (with_reducible exact LeO.none _)
      | (with_reducible refine LeO.ite ?_ ?_)
      | (with_reducible refine LeO.bind ?_ (fun _ => ?_))
      | exact attestorref06_Perm.mono _ _ _ _ _ _
      | exact LeO.none _
      | refine LeO.ite ?_ ?_
      | refine LeO.bind ?_ (fun _ => ?_)
set_option maxHeartbeats 8000000 in
set_option maxRecDepth 100000 in
theorem attestorref08_Draw.calls (k : Nat) (a0_0 : Int) (a0_1 : Int) (a0_2 : Int) (a0_3 : Int) (a0_4 : Int) (r1 : Int) (r2 : Int) (r3 : Int) (r4 : Int) (r5 : Int) (r6 : Int) (w : World) (h : attestorref08_Draw.f k a0_0 a0_1 a0_2 a0_3 a0_4 = some (r1, r2, r3, r4, r5, r6)) :
    Calls Tryd.prog 11 #[.agg #[.int .i64 a0_0, .int .u64 a0_1, .int .u64 a0_2, .int .u64 a0_3, .int .u64 a0_4]] w fun e w' => e = .returned (.tuple #[.agg #[.int .i64 r1, .int .u64 r2, .int .u64 r3, .int .u64 r4, .int .u64 r5], .int .u64 r6]) ∧ Below w.heap.size w w' := by
  have hu25 := Tryd.underlying25
  have hu23 := Tryd.underlying23
  have HB := Aside0.mk (Below.refl w.heap.size w)
  have H : ((attestorref01_Valid.f a0_0).bind fun t193 => (if t193 = true then ((attestorref01_Add.f a0_0 a0_2 2).bind fun t194 => ((attestorref06_Perm.f k a0_0 a0_1 t194 a0_3 a0_4).bind fun bt195 => (some (a0_0, bt195.1, bt195.2.1, bt195.2.2.1, bt195.2.2.2, bt195.1)))) else (some (0, 0, 0, 0, 0, 0)))) = some (r1, r2, r3, r4, r5, r6) := h
  clear h
  replace H := Option.bind_eq_some_iff.mp H
  obtain ⟨t193, A20, H⟩ := H
  replace H : (if t193 = true then ((attestorref01_Add.f a0_0 a0_2 2).bind fun t194 => ((attestorref06_Perm.f k a0_0 a0_1 t194 a0_3 a0_4).bind fun bt195 => (some (a0_0, bt195.1, bt195.2.1, bt195.2.2.1, bt195.2.2.2, bt195.1)))) else (some (0, 0, 0, 0, 0, 0))) = some (r1, r2, r3, r4, r5, r6) := H
  have A2 := Aside0.mk A20
  clear A20
  by_cases c3 : t193 = true
  · subst c3
    have H1 : ((attestorref01_Add.f a0_0 a0_2 2).bind fun t194 => ((attestorref06_Perm.f k a0_0 a0_1 t194 a0_3 a0_4).bind fun bt195 => (some (a0_0, bt195.1, bt195.2.1, bt195.2.2.1, bt195.2.2.2, bt195.1)))) = some (r1, r2, r3, r4, r5, r6) := by rw [if_pos rfl] at H; exact H
    clear H
    have H := H1
    clear H1
    replace H := Option.bind_eq_some_iff.mp H
    obtain ⟨t194, A40, H⟩ := H
    replace H : ((attestorref06_Perm.f k a0_0 a0_1 t194 a0_3 a0_4).bind fun bt195 => (some (a0_0, bt195.1, bt195.2.1, bt195.2.2.1, bt195.2.2.2, bt195.1))) = some (r1, r2, r3, r4, r5, r6) := H
    have A4 := Aside0.mk A40
    clear A40
    replace H := Option.bind_eq_some_iff.mp H
    obtain ⟨⟨t195, t196, t197, t198⟩, A50, H⟩ := H
    replace H : (some (a0_0, t195, t196, t197, t198, t195)) = some (r1, r2, r3, r4, r5, r6) := H
    have A5 := Aside0.mk A50
    clear A50
    simp only [Option.some.injEq, Prod.mk.injEq] at H
    obtain ⟨rfl, rfl, rfl, rfl, rfl, rfl⟩ := H
    go_enter Tryd.func11, Tryd.ntmps11
    try go_wp2_with (first | ((with_reducible refine gate_dst (N := 1) rfl ?_); refine box_event ?hg (N := 1) ?hd (cs := #[.int .i64 a0_0, .int .u64 a0_1, .int .u64 a0_2, .int .u64 a0_3, .int .u64 a0_4]) (t := 25) ?hr ?_; (case hd => rfl); (case hg => rfl); (case hr => first | (go_simp; done) | (go_simp; rfl)); intro gb191 hg w6 hbox hb; have n0_ := Aside0.mk (below_step (by repeat (first | (with_reducible first | exact HB.out | apply below_alloc | apply pw_below_drewN | apply below_drew1) | exact HB.out)) hb); have n1_ := Aside0.mk (hbox); have n2_ := Aside0.mk ((by rw [hg]; exact (below_size (by repeat (first | (with_reducible first | exact HB.out | apply below_alloc | apply pw_below_drewN | apply below_drew1) | exact HB.out))) : w.heap.size ≤ gb191)); have n3_ := Aside0.mk ((by rw [hg]; exact (below_size (by repeat (first | (with_reducible first | exact HB.out | apply below_alloc | apply pw_below_drewN | apply below_drew1) | exact HB.out))) : w.heap.size ≤ gb191)); clear HB; have HB := n0_; have BK191 := n1_; have GW191 := n2_; have GE191 := n3_; clear n0_ n1_ n2_ n3_; clear hb hbox hg) | ((with_reducible refine gate_dst (N := 2) rfl ?_); refine box_event ?hg (N := 2) ?hd (cs := #[.int .i64 0, .int .u64 0, .int .u64 0, .int .u64 0, .int .u64 0]) (t := 25) ?hr ?_; (case hd => rfl); (case hg => rfl); (case hr => first | (go_simp; done) | (go_simp; rfl)); intro gb192 hg w7 hbox hb; have n0_ := Aside0.mk (blk_below (g := gb191) (o := .cells #[.int .i64 a0_0, .int .u64 a0_1, .int .u64 a0_2, .int .u64 a0_3, .int .u64 a0_4] 25 (0, 0)) (by (with_reducible repeat (first | refine blk_drewN ?_ _ | refine blk_drew ?_ | refine blk_alloc ?_ _)); exact BK191.out) hb); have n1_ := Aside0.mk (below_step (by repeat (first | (with_reducible first | exact HB.out | apply below_alloc | apply pw_below_drewN | apply below_drew1 | refine below_set ?_ GE191.out) | exact HB.out)) hb); have n2_ := Aside0.mk (hbox); have n3_ := Aside0.mk ((by rw [hg]; exact (below_size (by repeat (first | (with_reducible first | exact HB.out | apply below_alloc | apply pw_below_drewN | apply below_drew1 | refine below_set ?_ GE191.out) | exact HB.out))) : w.heap.size ≤ gb192)); have n4_ := Aside0.mk ((by rw [hg]; exact (below_size (by repeat (first | (with_reducible first | exact HB.out | apply below_alloc | apply pw_below_drewN | apply below_drew1 | refine below_set ?_ GE191.out) | exact HB.out))) : w.heap.size ≤ gb192)); have n5_ := Aside0.mk ((by rw [hg]; exact Nat.ne_of_lt (blk_lt (g := gb191) (o := .cells #[.int .i64 a0_0, .int .u64 a0_1, .int .u64 a0_2, .int .u64 a0_3, .int .u64 a0_4] 25 (0, 0)) (by (with_reducible repeat (first | refine blk_drewN ?_ _ | refine blk_drew ?_ | refine blk_alloc ?_ _)); exact BK191.out)) : gb191 ≠ gb192)); have n6_ := Aside0.mk ((by rw [hg]; exact Nat.ne_of_gt (blk_lt (g := gb191) (o := .cells #[.int .i64 a0_0, .int .u64 a0_1, .int .u64 a0_2, .int .u64 a0_3, .int .u64 a0_4] 25 (0, 0)) (by (with_reducible repeat (first | refine blk_drewN ?_ _ | refine blk_drew ?_ | refine blk_alloc ?_ _)); exact BK191.out)) : gb192 ≠ gb191)); clear BK191; clear HB; have BK191 := n0_; have HB := n1_; have BK192 := n2_; have GW192 := n3_; have GE192 := n4_; have NB191_192 := n5_; have NB192_191 := n6_; clear n0_ n1_ n2_ n3_ n4_ n5_ n6_; clear hb hbox hg; have hnb8 := NB191_192.out; have hnc8 := NB192_191.out; have hcz9_0 : w7.cell? ⟨gb191, 0, none⟩ = some (.int .i64 a0_0) := (blk_cell BK191.out 0).trans rfl; have hcz9_1 : w7.cell? ⟨gb191, 1, none⟩ = some (.int .u64 a0_1) := (blk_cell BK191.out 1).trans rfl; have hcz9_2 : w7.cell? ⟨gb191, 2, none⟩ = some (.int .u64 a0_2) := (blk_cell BK191.out 2).trans rfl; have hcz9_3 : w7.cell? ⟨gb191, 3, none⟩ = some (.int .u64 a0_3) := (blk_cell BK191.out 3).trans rfl; have hcz9_4 : w7.cell? ⟨gb191, 4, none⟩ = some (.int .u64 a0_4) := (blk_cell BK191.out 4).trans rfl; have hfz9_0 := blk_frozen BK191.out 0; have hfz9_1 := blk_frozen BK191.out 1; have hfz9_2 := blk_frozen BK191.out 2; have hfz9_3 := blk_frozen BK191.out 3; have hfz9_4 := blk_frozen BK191.out 4) | ((with_reducible refine gate_callee (f := 27) rfl ?_); refine goesL_ (some 6) rfl rfl Tryd.func27 (by kernel_rfl) rfl #[.int .i64 a0_0] rfl (by (try simp only [List.map_toArray, List.map_cons, List.map_nil]); first | done | rfl | (simp only [List.length_drop, List.length_take]; rfl) | (go_simp; done) | (go_simp; rw [Int.tmod_eq_emod_of_nonneg (by omega)]; omega)) ?_; (with_reducible refine (attestorref01_Valid.calls a0_0 true _ A2.out).mono ?_); rintro e w' ⟨rfl, ⟨nd, rfl⟩⟩; refine ⟨_, rfl, ?_⟩; (try (rw [drewN_self w7]; generalize hq_ : World.drewN w7 _ = w7; have n0_ : Aside0 (w7.heap[gb191]? = some (.cells #[.int .i64 a0_0, .int .u64 a0_1, .int .u64 a0_2, .int .u64 a0_3, .int .u64 a0_4] 25 (0, 0))) := ⟨by rw [← hq_]; exact (by (with_reducible repeat (first | refine blk_drewN ?_ _ | refine blk_drew ?_ | refine blk_alloc ?_ _)); exact BK191.out)⟩; have n1_ : Aside0 (w7.heap[gb192]? = some (.cells #[.int .i64 0, .int .u64 0, .int .u64 0, .int .u64 0, .int .u64 0] 25 (0, 0))) := ⟨by rw [← hq_]; exact (by (with_reducible repeat (first | refine blk_drewN ?_ _ | refine blk_drew ?_ | refine blk_alloc ?_ _)); exact BK192.out)⟩; have n2_ : Aside0 (Below w.heap.size w w7) := ⟨by rw [← hq_]; exact (by repeat (first | (with_reducible first | exact HB.out | apply below_alloc | apply pw_below_drewN | apply below_drew1 | refine below_set ?_ GE191.out | refine below_set ?_ GE192.out) | exact HB.out))⟩; clear BK191 BK192 HB hq_; have BK191 := n0_; have BK192 := n1_; have HB := n2_; clear n0_ n1_ n2_)); have hcz10_0 : w7.cell? ⟨gb191, 0, none⟩ = some (.int .i64 a0_0) := (blk_cell BK191.out 0).trans rfl; have hcz10_1 : w7.cell? ⟨gb191, 1, none⟩ = some (.int .u64 a0_1) := (blk_cell BK191.out 1).trans rfl; have hcz10_2 : w7.cell? ⟨gb191, 2, none⟩ = some (.int .u64 a0_2) := (blk_cell BK191.out 2).trans rfl; have hcz10_3 : w7.cell? ⟨gb191, 3, none⟩ = some (.int .u64 a0_3) := (blk_cell BK191.out 3).trans rfl; have hcz10_4 : w7.cell? ⟨gb191, 4, none⟩ = some (.int .u64 a0_4) := (blk_cell BK191.out 4).trans rfl; have hfz10_0 := blk_frozen BK191.out 0; have hfz10_1 := blk_frozen BK191.out 1; have hfz10_2 := blk_frozen BK191.out 2; have hfz10_3 := blk_frozen BK191.out 3; have hfz10_4 := blk_frozen BK191.out 4) | ((with_reducible refine gate_callee (f := 28) rfl ?_); refine goesL_ (some 14) rfl rfl Tryd.func28 (by kernel_rfl) rfl #[.int .i64 a0_0, .int .u64 a0_2, .int .u64 2] rfl (by (try simp only [List.map_toArray, List.map_cons, List.map_nil]); first | done | rfl | (simp only [List.length_drop, List.length_take]; rfl) | (go_simp; done) | (go_simp; rw [Int.tmod_eq_emod_of_nonneg (by omega)]; omega)) ?_; (with_reducible refine (attestorref01_Add.calls a0_0 a0_2 2 t194 _ A4.out).mono ?_); rintro e w' ⟨rfl, ⟨nd, rfl⟩⟩; refine ⟨_, rfl, ?_⟩; (try (rw [drewN_self w7]; generalize hq_ : World.drewN w7 _ = w7; have n0_ : Aside0 (w7.heap[gb191]? = some (.cells #[.int .i64 a0_0, .int .u64 a0_1, .int .u64 a0_2, .int .u64 a0_3, .int .u64 a0_4] 25 (0, 0))) := ⟨by rw [← hq_]; exact (by (with_reducible repeat (first | refine blk_drewN ?_ _ | refine blk_drew ?_ | refine blk_alloc ?_ _)); exact BK191.out)⟩; have n1_ : Aside0 (w7.heap[gb192]? = some (.cells #[.int .i64 0, .int .u64 0, .int .u64 0, .int .u64 0, .int .u64 0] 25 (0, 0))) := ⟨by rw [← hq_]; exact (by (with_reducible repeat (first | refine blk_drewN ?_ _ | refine blk_drew ?_ | refine blk_alloc ?_ _)); exact BK192.out)⟩; have n2_ : Aside0 (Below w.heap.size w w7) := ⟨by rw [← hq_]; exact (by repeat (first | (with_reducible first | exact HB.out | apply below_alloc | apply pw_below_drewN | apply below_drew1 | refine below_set ?_ GE191.out | refine below_set ?_ GE192.out) | exact HB.out))⟩; clear BK191 BK192 HB hq_; have BK191 := n0_; have BK192 := n1_; have HB := n2_; clear n0_ n1_ n2_)); have hcz11_0 : w7.cell? ⟨gb191, 0, none⟩ = some (.int .i64 a0_0) := (blk_cell BK191.out 0).trans rfl; have hcz11_1 : w7.cell? ⟨gb191, 1, none⟩ = some (.int .u64 a0_1) := (blk_cell BK191.out 1).trans rfl; have hcz11_2 : w7.cell? ⟨gb191, 2, none⟩ = some (.int .u64 a0_2) := (blk_cell BK191.out 2).trans rfl; have hcz11_3 : w7.cell? ⟨gb191, 3, none⟩ = some (.int .u64 a0_3) := (blk_cell BK191.out 3).trans rfl; have hcz11_4 : w7.cell? ⟨gb191, 4, none⟩ = some (.int .u64 a0_4) := (blk_cell BK191.out 4).trans rfl; have hfz11_0 := blk_frozen BK191.out 0; have hfz11_1 := blk_frozen BK191.out 1; have hfz11_2 := blk_frozen BK191.out 2; have hfz11_3 := blk_frozen BK191.out 3; have hfz11_4 := blk_frozen BK191.out 4) | ((with_reducible refine gate_callee (f := 29) rfl ?_); refine goesL_ (some 21) rfl rfl Tryd.func29 (by kernel_rfl) rfl #[.int .i64 a0_0, .agg #[.int .u64 a0_1, .int .u64 t194, .int .u64 a0_3, .int .u64 a0_4]] rfl (by (try simp only [List.map_toArray, List.map_cons, List.map_nil]); first | done | rfl | (simp only [List.length_drop, List.length_take]; rfl) | (go_simp; done) | (go_simp; rw [Int.tmod_eq_emod_of_nonneg (by omega)]; omega)) ?_; (with_reducible refine (attestorref06_Perm.calls k a0_0 a0_1 t194 a0_3 a0_4 t195 t196 t197 t198 _ A5.out).mono ?_); rintro e w12 ⟨rfl, hb⟩; refine ⟨_, rfl, ?_⟩; have n0_ := Aside0.mk (blk_below (g := gb191) (o := .cells #[.int .i64 a0_0, .int .u64 a0_1, .int .u64 t194, .int .u64 a0_3, .int .u64 a0_4] 25 (0, 0)) (by (with_reducible repeat (first | refine blk_drewN ?_ _ | refine blk_drew ?_ | refine blk_alloc ?_ _)); refine blk_put (cs := #[.int .i64 a0_0, .int .u64 a0_1, .int .u64 a0_2, .int .u64 a0_3, .int .u64 a0_4]) ?_ 2 _ rfl; (with_reducible repeat (first | refine blk_drewN ?_ _ | refine blk_drew ?_ | refine blk_alloc ?_ _)); exact BK191.out) hb); have n1_ := Aside0.mk (blk_below (g := gb192) (o := .cells #[.int .i64 0, .int .u64 0, .int .u64 0, .int .u64 0, .int .u64 0] 25 (0, 0)) (by (with_reducible repeat (first | refine blk_drewN ?_ _ | refine blk_drew ?_ | refine blk_alloc ?_ _)); refine blk_far ?_ NB192_191.out _; (with_reducible repeat (first | refine blk_drewN ?_ _ | refine blk_drew ?_ | refine blk_alloc ?_ _)); exact BK192.out) hb); have n2_ := Aside0.mk (below_step (by repeat (first | (with_reducible first | exact HB.out | apply below_alloc | apply pw_below_drewN | apply below_drew1 | refine below_set ?_ GE191.out | refine below_set ?_ GE192.out) | exact HB.out)) hb); clear BK191; clear BK192; clear HB; have BK191 := n0_; have BK192 := n1_; have HB := n2_; clear n0_ n1_ n2_; (try clear hb); (try clear hb2); (try clear hk); (try clear hi); have hcz13_0 : w12.cell? ⟨gb191, 0, none⟩ = some (.int .i64 a0_0) := (blk_cell BK191.out 0).trans rfl; have hcz13_1 : w12.cell? ⟨gb191, 1, none⟩ = some (.int .u64 a0_1) := (blk_cell BK191.out 1).trans rfl; have hcz13_2 : w12.cell? ⟨gb191, 2, none⟩ = some (.int .u64 t194) := (blk_cell BK191.out 2).trans rfl; have hcz13_3 : w12.cell? ⟨gb191, 3, none⟩ = some (.int .u64 a0_3) := (blk_cell BK191.out 3).trans rfl; have hcz13_4 : w12.cell? ⟨gb191, 4, none⟩ = some (.int .u64 a0_4) := (blk_cell BK191.out 4).trans rfl; have hfz13_0 := blk_frozen BK191.out 0; have hfz13_1 := blk_frozen BK191.out 1; have hfz13_2 := blk_frozen BK191.out 2; have hfz13_3 := blk_frozen BK191.out 3; have hfz13_4 := blk_frozen BK191.out 4))
    have n0_ : Aside0 (((((w12.setCell ⟨gb191, 1, none⟩ (.int .u64 t195)).setCell ⟨gb191, 2, none⟩ (.int .u64 t196)).setCell ⟨gb191, 3, none⟩ (.int .u64 t197)).setCell ⟨gb191, 4, none⟩ (.int .u64 t198)).heap[gb191]? = some (.cells #[.int .i64 a0_0, .int .u64 t195, .int .u64 t196, .int .u64 t197, .int .u64 t198] 25 (0, 0))) := ⟨by (with_reducible repeat (first | refine blk_drewN ?_ _ | refine blk_drew ?_ | refine blk_alloc ?_ _)); refine blk_put (cs := #[.int .i64 a0_0, .int .u64 t195, .int .u64 t196, .int .u64 t197, .int .u64 a0_4]) ?_ 4 _ rfl; (with_reducible repeat (first | refine blk_drewN ?_ _ | refine blk_drew ?_ | refine blk_alloc ?_ _)); refine blk_put (cs := #[.int .i64 a0_0, .int .u64 t195, .int .u64 t196, .int .u64 a0_3, .int .u64 a0_4]) ?_ 3 _ rfl; (with_reducible repeat (first | refine blk_drewN ?_ _ | refine blk_drew ?_ | refine blk_alloc ?_ _)); refine blk_put (cs := #[.int .i64 a0_0, .int .u64 t195, .int .u64 t194, .int .u64 a0_3, .int .u64 a0_4]) ?_ 2 _ rfl; (with_reducible repeat (first | refine blk_drewN ?_ _ | refine blk_drew ?_ | refine blk_alloc ?_ _)); refine blk_put (cs := #[.int .i64 a0_0, .int .u64 a0_1, .int .u64 t194, .int .u64 a0_3, .int .u64 a0_4]) ?_ 1 _ rfl; (with_reducible repeat (first | refine blk_drewN ?_ _ | refine blk_drew ?_ | refine blk_alloc ?_ _)); exact BK191.out⟩
    have n1_ : Aside0 (((((w12.setCell ⟨gb191, 1, none⟩ (.int .u64 t195)).setCell ⟨gb191, 2, none⟩ (.int .u64 t196)).setCell ⟨gb191, 3, none⟩ (.int .u64 t197)).setCell ⟨gb191, 4, none⟩ (.int .u64 t198)).heap[gb192]? = some (.cells #[.int .i64 0, .int .u64 0, .int .u64 0, .int .u64 0, .int .u64 0] 25 (0, 0))) := ⟨by (with_reducible repeat (first | refine blk_drewN ?_ _ | refine blk_drew ?_ | refine blk_alloc ?_ _)); refine blk_far ?_ NB192_191.out _; (with_reducible repeat (first | refine blk_drewN ?_ _ | refine blk_drew ?_ | refine blk_alloc ?_ _)); refine blk_far ?_ NB192_191.out _; (with_reducible repeat (first | refine blk_drewN ?_ _ | refine blk_drew ?_ | refine blk_alloc ?_ _)); refine blk_far ?_ NB192_191.out _; (with_reducible repeat (first | refine blk_drewN ?_ _ | refine blk_drew ?_ | refine blk_alloc ?_ _)); refine blk_far ?_ NB192_191.out _; (with_reducible repeat (first | refine blk_drewN ?_ _ | refine blk_drew ?_ | refine blk_alloc ?_ _)); exact BK192.out⟩
    have n2_ : Aside0 (Below w.heap.size w ((((w12.setCell ⟨gb191, 1, none⟩ (.int .u64 t195)).setCell ⟨gb191, 2, none⟩ (.int .u64 t196)).setCell ⟨gb191, 3, none⟩ (.int .u64 t197)).setCell ⟨gb191, 4, none⟩ (.int .u64 t198))) := ⟨by repeat (first | (with_reducible first | exact HB.out | apply below_alloc | apply pw_below_drewN | apply below_drew1 | refine below_set ?_ GE191.out | refine below_set ?_ GE192.out) | exact HB.out)⟩
    (try clear BK191)
    (try clear BK192)
    (try clear HB)
    generalize ((((w12.setCell ⟨gb191, 1, none⟩ (.int .u64 t195)).setCell ⟨gb191, 2, none⟩ (.int .u64 t196)).setCell ⟨gb191, 3, none⟩ (.int .u64 t197)).setCell ⟨gb191, 4, none⟩ (.int .u64 t198)) = w14 at n0_ n1_ n2_ ⊢
    have BK191 := n0_
    have BK192 := n1_
    have HB := n2_
    clear n0_ n1_ n2_
    have n0_ := Aside0.mk (blk_drew BK191.out)
    have n1_ := Aside0.mk (blk_drew BK192.out)
    have n2_ := Aside0.mk (below_drew1 HB.out)
    clear BK191
    clear BK192
    clear HB
    have BK191 := n0_
    have BK192 := n1_
    have HB := n2_
    clear n0_ n1_ n2_
    refine start_ (n := 6) (S := fun w' => w'.cell? ⟨gb191, 0, none⟩ = some (.int .i64 a0_0) ∧ w'.cell? ⟨gb191, 1, none⟩ = some (.int .u64 t195) ∧ w'.cell? ⟨gb191, 2, none⟩ = some (.int .u64 t196) ∧ w'.cell? ⟨gb191, 3, none⟩ = some (.int .u64 t197) ∧ w'.cell? ⟨gb191, 4, none⟩ = some (.int .u64 t198)) (ds := []) #[false, false, false, false, false, false] (by kernel_rfl) rfl rfl ⟨(blk_cell BK191.out 0).trans rfl, (blk_cell BK191.out 1).trans rfl, (blk_cell BK191.out 2).trans rfl, (blk_cell BK191.out 3).trans rfl, (blk_cell BK191.out 4).trans rfl⟩ (fun hHeld => ?_)
    generalize w14.drew = w15 at BK191 BK192 HB hHeld ⊢
    refine pure_ (i := 1) (N := some 24) (v := ?_) (a' := ?_) #[false, true, false, false, false, false] rfl rfl (by kernel_rfl) (fun _ _ _ h => h) (Or.inl ⟨by rfl, ?_⟩) ?_ ?_
    rotate_left
    · intro w'
      go_simp
      with_reducible rfl
    rotate_left
    · simp only [Act.put, List.setIfInBounds_toArray, List.set_cons_zero, List.set_cons_succ, i64_w, i32_w]
      rfl
    refine pure_ (i := 2) (N := some 25) (v := ?_) (a' := ?_) #[false, true, true, false, false, false] rfl rfl (by kernel_rfl) (fun _ _ _ h => h) (Or.inl ⟨by rfl, ?_⟩) ?_ ?_
    rotate_left
    · intro w'
      go_simp
      with_reducible rfl
    rotate_left
    · simp only [Act.put, List.setIfInBounds_toArray, List.set_cons_zero, List.set_cons_succ, i64_w, i32_w]
      rfl
    refine take_ (i := 0) (N := some 23) (v := ?_) (a' := ?_) #[true, true, true, false, false, false] rfl rfl (by kernel_rfl) (fun _ _ _ h => h) (Or.inl ⟨by rfl, ?_⟩) hHeld ?_ ?_
    rotate_left
    · rintro w' ⟨s0, s1, s2, s3, s4⟩
      go_simp
      with_reducible rfl
    rotate_left
    · simp only [Act.put, List.setIfInBounds_toArray, List.set_cons_zero, List.set_cons_succ, i64_w, i32_w]
      rfl
    refine take_ (i := 3) (N := some 26) (v := ?_) (a' := ?_) #[true, true, true, true, false, false] rfl rfl (by kernel_rfl) (fun _ _ _ h => h) (Or.inl ⟨by rfl, ?_⟩) hHeld ?_ ?_
    rotate_left
    · rintro w' ⟨s0, s1, s2, s3, s4⟩
      go_simp
      with_reducible rfl
    rotate_left
    · simp only [Act.put, List.setIfInBounds_toArray, List.set_cons_zero, List.set_cons_succ, i64_w, i32_w]
      rfl
    refine one_ (i := 4) (N := none) #[true, true, true, true, true, false] rfl rfl (by kernel_rfl) (by decide) (fun K hK => ?_)
    have hs16 : w15.cell? ⟨gb192, 0, none⟩ = some (.int .i64 0) := (blk_cell BK192.out 0).trans rfl
    have hfs16 := blk_frozen BK192.out 0
    have hns16_0 := NB191_192.out
    have hms16_0 := NB192_191.out
    have hs17 : w15.cell? ⟨gb192, 1, none⟩ = some (.int .u64 0) := (blk_cell BK192.out 1).trans rfl
    have hfs17 := blk_frozen BK192.out 1
    have hns17_0 := NB191_192.out
    have hms17_0 := NB192_191.out
    have hs18 : w15.cell? ⟨gb192, 2, none⟩ = some (.int .u64 0) := (blk_cell BK192.out 2).trans rfl
    have hfs18 := blk_frozen BK192.out 2
    have hns18_0 := NB191_192.out
    have hms18_0 := NB192_191.out
    have hs19 : w15.cell? ⟨gb192, 3, none⟩ = some (.int .u64 0) := (blk_cell BK192.out 3).trans rfl
    have hfs19 := blk_frozen BK192.out 3
    have hns19_0 := NB191_192.out
    have hms19_0 := NB192_191.out
    have hs20 : w15.cell? ⟨gb192, 4, none⟩ = some (.int .u64 0) := (blk_cell BK192.out 4).trans rfl
    have hfs20 := blk_frozen BK192.out 4
    have hns20_0 := NB191_192.out
    have hms20_0 := NB192_191.out
    refine skip_ (w1 := ?_) (by rfl) rfl ?_ ?_
    rotate_left
    · go_simp
      rfl
    refine hK.out _ _ ⟨((cell_far (p := ⟨gb192, _, none⟩) NB191_192.out _).trans (((cell_far (p := ⟨gb192, _, none⟩) NB191_192.out _).trans (((cell_far (p := ⟨gb192, _, none⟩) NB191_192.out _).trans (((cell_far (p := ⟨gb192, _, none⟩) NB191_192.out _).trans (((cell_far (p := ⟨gb192, _, none⟩) NB191_192.out _).trans (hHeld.1)))))))))), ((cell_far (p := ⟨gb192, _, none⟩) NB191_192.out _).trans (((cell_far (p := ⟨gb192, _, none⟩) NB191_192.out _).trans (((cell_far (p := ⟨gb192, _, none⟩) NB191_192.out _).trans (((cell_far (p := ⟨gb192, _, none⟩) NB191_192.out _).trans (((cell_far (p := ⟨gb192, _, none⟩) NB191_192.out _).trans (hHeld.2.1)))))))))), ((cell_far (p := ⟨gb192, _, none⟩) NB191_192.out _).trans (((cell_far (p := ⟨gb192, _, none⟩) NB191_192.out _).trans (((cell_far (p := ⟨gb192, _, none⟩) NB191_192.out _).trans (((cell_far (p := ⟨gb192, _, none⟩) NB191_192.out _).trans (((cell_far (p := ⟨gb192, _, none⟩) NB191_192.out _).trans (hHeld.2.2.1)))))))))), ((cell_far (p := ⟨gb192, _, none⟩) NB191_192.out _).trans (((cell_far (p := ⟨gb192, _, none⟩) NB191_192.out _).trans (((cell_far (p := ⟨gb192, _, none⟩) NB191_192.out _).trans (((cell_far (p := ⟨gb192, _, none⟩) NB191_192.out _).trans (((cell_far (p := ⟨gb192, _, none⟩) NB191_192.out _).trans (hHeld.2.2.2.1)))))))))), ((cell_far (p := ⟨gb192, _, none⟩) NB191_192.out _).trans (((cell_far (p := ⟨gb192, _, none⟩) NB191_192.out _).trans (((cell_far (p := ⟨gb192, _, none⟩) NB191_192.out _).trans (((cell_far (p := ⟨gb192, _, none⟩) NB191_192.out _).trans (((cell_far (p := ⟨gb192, _, none⟩) NB191_192.out _).trans (hHeld.2.2.2.2))))))))))⟩ (fun hHeld => ?_)
    clear hK K
    refine pure_ (i := 5) (N := some 3) (v := ?_) (a' := ?_) #[true, true, true, true, true, true] rfl rfl (by kernel_rfl) (fun _ _ _ h => h) (Or.inl ⟨by rfl, ?_⟩) ?_ ?_
    rotate_left
    · intro w'
      go_simp
      with_reducible rfl
    rotate_left
    · simp only [Act.put, List.setIfInBounds_toArray, List.set_cons_zero, List.set_cons_succ, i64_w, i32_w]
      rfl
    refine done_ (by kernel_rfl) ?_
    try go_wp2
    refine bodyPost_ret (results_ct rfl _ _ gb192 25 #[.int .i64 a0_0, .int .u64 t195, .int .u64 t196, .int .u64 t197, .int .u64 t198] (0, 0) _ rfl (by (with_reducible repeat (first | refine blk_drewN ?_ _ | refine blk_drew ?_ | refine blk_alloc ?_ _)); refine blk_put (cs := #[.int .i64 a0_0, .int .u64 t195, .int .u64 t196, .int .u64 t197, .int .u64 0]) ?_ 4 _ rfl; (with_reducible repeat (first | refine blk_drewN ?_ _ | refine blk_drew ?_ | refine blk_alloc ?_ _)); refine blk_put (cs := #[.int .i64 a0_0, .int .u64 t195, .int .u64 t196, .int .u64 0, .int .u64 0]) ?_ 3 _ rfl; (with_reducible repeat (first | refine blk_drewN ?_ _ | refine blk_drew ?_ | refine blk_alloc ?_ _)); refine blk_put (cs := #[.int .i64 a0_0, .int .u64 t195, .int .u64 0, .int .u64 0, .int .u64 0]) ?_ 2 _ rfl; (with_reducible repeat (first | refine blk_drewN ?_ _ | refine blk_drew ?_ | refine blk_alloc ?_ _)); refine blk_put (cs := #[.int .i64 a0_0, .int .u64 0, .int .u64 0, .int .u64 0, .int .u64 0]) ?_ 1 _ rfl; (with_reducible repeat (first | refine blk_drewN ?_ _ | refine blk_drew ?_ | refine blk_alloc ?_ _)); refine blk_put (cs := #[.int .i64 0, .int .u64 0, .int .u64 0, .int .u64 0, .int .u64 0]) ?_ 0 _ rfl; (with_reducible repeat (first | refine blk_drewN ?_ _ | refine blk_drew ?_ | refine blk_alloc ?_ _)); exact BK192.out) Tryd.underlying25 rfl (by kernel_rfl)) rfl ?_
    exact ⟨by first | rfl | (simp [errW_none, errW_some] <;> rfl) | (simp [*, errW_none, errW_some] <;> rfl), by repeat (first | (with_reducible first | exact HB.out | apply below_alloc | apply pw_below_drewN | apply below_drew1 | refine below_set ?_ GE191.out | refine below_set ?_ GE192.out) | exact HB.out)⟩
  · replace c3 := Bool.eq_false_iff.mpr c3
    subst c3
    have H1 : (some (0, 0, 0, 0, 0, 0)) = some (r1, r2, r3, r4, r5, r6) := by rw [if_neg (show ¬ (false = true) by decide)] at H; exact H
    clear H
    have H := H1
    clear H1
    simp only [Option.some.injEq, Prod.mk.injEq] at H
    obtain ⟨rfl, rfl, rfl, rfl, rfl, rfl⟩ := H
    go_enter Tryd.func11, Tryd.ntmps11
    go_wp2_with (first | ((with_reducible refine gate_dst (N := 1) rfl ?_); refine box_event ?hg (N := 1) ?hd (cs := #[.int .i64 a0_0, .int .u64 a0_1, .int .u64 a0_2, .int .u64 a0_3, .int .u64 a0_4]) (t := 25) ?hr ?_; (case hd => rfl); (case hg => rfl); (case hr => first | (go_simp; done) | (go_simp; rfl)); intro gb191 hg w21 hbox hb; have n0_ := Aside0.mk (below_step (by repeat (first | (with_reducible first | exact HB.out | apply below_alloc | apply pw_below_drewN | apply below_drew1) | exact HB.out)) hb); have n1_ := Aside0.mk (hbox); have n2_ := Aside0.mk ((by rw [hg]; exact (below_size (by repeat (first | (with_reducible first | exact HB.out | apply below_alloc | apply pw_below_drewN | apply below_drew1) | exact HB.out))) : w.heap.size ≤ gb191)); have n3_ := Aside0.mk ((by rw [hg]; exact (below_size (by repeat (first | (with_reducible first | exact HB.out | apply below_alloc | apply pw_below_drewN | apply below_drew1) | exact HB.out))) : w.heap.size ≤ gb191)); clear HB; have HB := n0_; have BK191 := n1_; have GW191 := n2_; have GE191 := n3_; clear n0_ n1_ n2_ n3_; clear hb hbox hg) | ((with_reducible refine gate_dst (N := 2) rfl ?_); refine box_event ?hg (N := 2) ?hd (cs := #[.int .i64 0, .int .u64 0, .int .u64 0, .int .u64 0, .int .u64 0]) (t := 25) ?hr ?_; (case hd => rfl); (case hg => rfl); (case hr => first | (go_simp; done) | (go_simp; rfl)); intro gb192 hg w22 hbox hb; have n0_ := Aside0.mk (blk_below (g := gb191) (o := .cells #[.int .i64 a0_0, .int .u64 a0_1, .int .u64 a0_2, .int .u64 a0_3, .int .u64 a0_4] 25 (0, 0)) (by (with_reducible repeat (first | refine blk_drewN ?_ _ | refine blk_drew ?_ | refine blk_alloc ?_ _)); exact BK191.out) hb); have n1_ := Aside0.mk (below_step (by repeat (first | (with_reducible first | exact HB.out | apply below_alloc | apply pw_below_drewN | apply below_drew1 | refine below_set ?_ GE191.out) | exact HB.out)) hb); have n2_ := Aside0.mk (hbox); have n3_ := Aside0.mk ((by rw [hg]; exact (below_size (by repeat (first | (with_reducible first | exact HB.out | apply below_alloc | apply pw_below_drewN | apply below_drew1 | refine below_set ?_ GE191.out) | exact HB.out))) : w.heap.size ≤ gb192)); have n4_ := Aside0.mk ((by rw [hg]; exact (below_size (by repeat (first | (with_reducible first | exact HB.out | apply below_alloc | apply pw_below_drewN | apply below_drew1 | refine below_set ?_ GE191.out) | exact HB.out))) : w.heap.size ≤ gb192)); have n5_ := Aside0.mk ((by rw [hg]; exact Nat.ne_of_lt (blk_lt (g := gb191) (o := .cells #[.int .i64 a0_0, .int .u64 a0_1, .int .u64 a0_2, .int .u64 a0_3, .int .u64 a0_4] 25 (0, 0)) (by (with_reducible repeat (first | refine blk_drewN ?_ _ | refine blk_drew ?_ | refine blk_alloc ?_ _)); exact BK191.out)) : gb191 ≠ gb192)); have n6_ := Aside0.mk ((by rw [hg]; exact Nat.ne_of_gt (blk_lt (g := gb191) (o := .cells #[.int .i64 a0_0, .int .u64 a0_1, .int .u64 a0_2, .int .u64 a0_3, .int .u64 a0_4] 25 (0, 0)) (by (with_reducible repeat (first | refine blk_drewN ?_ _ | refine blk_drew ?_ | refine blk_alloc ?_ _)); exact BK191.out)) : gb192 ≠ gb191)); clear BK191; clear HB; have BK191 := n0_; have HB := n1_; have BK192 := n2_; have GW192 := n3_; have GE192 := n4_; have NB191_192 := n5_; have NB192_191 := n6_; clear n0_ n1_ n2_ n3_ n4_ n5_ n6_; clear hb hbox hg; have hnb23 := NB191_192.out; have hnc23 := NB192_191.out; have hcz24_0 : w22.cell? ⟨gb191, 0, none⟩ = some (.int .i64 a0_0) := (blk_cell BK191.out 0).trans rfl; have hcz24_1 : w22.cell? ⟨gb191, 1, none⟩ = some (.int .u64 a0_1) := (blk_cell BK191.out 1).trans rfl; have hcz24_2 : w22.cell? ⟨gb191, 2, none⟩ = some (.int .u64 a0_2) := (blk_cell BK191.out 2).trans rfl; have hcz24_3 : w22.cell? ⟨gb191, 3, none⟩ = some (.int .u64 a0_3) := (blk_cell BK191.out 3).trans rfl; have hcz24_4 : w22.cell? ⟨gb191, 4, none⟩ = some (.int .u64 a0_4) := (blk_cell BK191.out 4).trans rfl; have hfz24_0 := blk_frozen BK191.out 0; have hfz24_1 := blk_frozen BK191.out 1; have hfz24_2 := blk_frozen BK191.out 2; have hfz24_3 := blk_frozen BK191.out 3; have hfz24_4 := blk_frozen BK191.out 4) | ((with_reducible refine gate_callee (f := 27) rfl ?_); refine goesL_ (some 6) rfl rfl Tryd.func27 (by kernel_rfl) rfl #[.int .i64 a0_0] rfl (by (try simp only [List.map_toArray, List.map_cons, List.map_nil]); first | done | rfl | (simp only [List.length_drop, List.length_take]; rfl) | (go_simp; done) | (go_simp; rw [Int.tmod_eq_emod_of_nonneg (by omega)]; omega)) ?_; (with_reducible refine (attestorref01_Valid.calls a0_0 false _ A2.out).mono ?_); rintro e w' ⟨rfl, ⟨nd, rfl⟩⟩; refine ⟨_, rfl, ?_⟩; (try (rw [drewN_self w22]; generalize hq_ : World.drewN w22 _ = w22; have n0_ : Aside0 (w22.heap[gb191]? = some (.cells #[.int .i64 a0_0, .int .u64 a0_1, .int .u64 a0_2, .int .u64 a0_3, .int .u64 a0_4] 25 (0, 0))) := ⟨by rw [← hq_]; exact (by (with_reducible repeat (first | refine blk_drewN ?_ _ | refine blk_drew ?_ | refine blk_alloc ?_ _)); exact BK191.out)⟩; have n1_ : Aside0 (w22.heap[gb192]? = some (.cells #[.int .i64 0, .int .u64 0, .int .u64 0, .int .u64 0, .int .u64 0] 25 (0, 0))) := ⟨by rw [← hq_]; exact (by (with_reducible repeat (first | refine blk_drewN ?_ _ | refine blk_drew ?_ | refine blk_alloc ?_ _)); exact BK192.out)⟩; have n2_ : Aside0 (Below w.heap.size w w22) := ⟨by rw [← hq_]; exact (by repeat (first | (with_reducible first | exact HB.out | apply below_alloc | apply pw_below_drewN | apply below_drew1 | refine below_set ?_ GE191.out | refine below_set ?_ GE192.out) | exact HB.out))⟩; clear BK191 BK192 HB hq_; have BK191 := n0_; have BK192 := n1_; have HB := n2_; clear n0_ n1_ n2_)); have hcz25_0 : w22.cell? ⟨gb192, 0, none⟩ = some (.int .i64 0) := (blk_cell BK192.out 0).trans rfl; have hcz25_1 : w22.cell? ⟨gb192, 1, none⟩ = some (.int .u64 0) := (blk_cell BK192.out 1).trans rfl; have hcz25_2 : w22.cell? ⟨gb192, 2, none⟩ = some (.int .u64 0) := (blk_cell BK192.out 2).trans rfl; have hcz25_3 : w22.cell? ⟨gb192, 3, none⟩ = some (.int .u64 0) := (blk_cell BK192.out 3).trans rfl; have hcz25_4 : w22.cell? ⟨gb192, 4, none⟩ = some (.int .u64 0) := (blk_cell BK192.out 4).trans rfl; have hfz25_0 := blk_frozen BK192.out 0; have hfz25_1 := blk_frozen BK192.out 1; have hfz25_2 := blk_frozen BK192.out 2; have hfz25_3 := blk_frozen BK192.out 3; have hfz25_4 := blk_frozen BK192.out 4))
    refine bodyPost_ret (results_ct rfl _ _ gb192 25 #[.int .i64 0, .int .u64 0, .int .u64 0, .int .u64 0, .int .u64 0] (0, 0) _ rfl (by (with_reducible repeat (first | refine blk_drewN ?_ _ | refine blk_drew ?_ | refine blk_alloc ?_ _)); refine blk_put (cs := #[.int .i64 0, .int .u64 0, .int .u64 0, .int .u64 0, .int .u64 0]) ?_ 4 _ rfl; (with_reducible repeat (first | refine blk_drewN ?_ _ | refine blk_drew ?_ | refine blk_alloc ?_ _)); refine blk_put (cs := #[.int .i64 0, .int .u64 0, .int .u64 0, .int .u64 0, .int .u64 0]) ?_ 3 _ rfl; (with_reducible repeat (first | refine blk_drewN ?_ _ | refine blk_drew ?_ | refine blk_alloc ?_ _)); refine blk_put (cs := #[.int .i64 0, .int .u64 0, .int .u64 0, .int .u64 0, .int .u64 0]) ?_ 2 _ rfl; (with_reducible repeat (first | refine blk_drewN ?_ _ | refine blk_drew ?_ | refine blk_alloc ?_ _)); refine blk_put (cs := #[.int .i64 0, .int .u64 0, .int .u64 0, .int .u64 0, .int .u64 0]) ?_ 1 _ rfl; (with_reducible repeat (first | refine blk_drewN ?_ _ | refine blk_drew ?_ | refine blk_alloc ?_ _)); refine blk_put (cs := #[.int .i64 0, .int .u64 0, .int .u64 0, .int .u64 0, .int .u64 0]) ?_ 0 _ rfl; (with_reducible repeat (first | refine blk_drewN ?_ _ | refine blk_drew ?_ | refine blk_alloc ?_ _)); exact BK192.out) Tryd.underlying25 rfl (by kernel_rfl)) rfl ?_
    exact ⟨by first | rfl | (simp [errW_none, errW_some] <;> rfl) | (simp [*, errW_none, errW_some] <;> rfl), by repeat (first | (with_reducible first | exact HB.out | apply below_alloc | apply pw_below_drewN | apply below_drew1 | refine below_set ?_ GE191.out | refine below_set ?_ GE192.out) | exact HB.out)⟩

end Go.Proofs.YtkailiemikjfbaaDoor.Q
end
section
namespace Go.Proofs.YtkailiemikjfbaaDoor.Q
open Go.RowKit Go.Proofs.YtkailiemikjfbaaDoorW.PrintWords Go.Proofs.YtkailiemikjfbaaDoorW.PrintLast Go.Proofs.YtkailiemikjfbaaDoorW.PrintMore
attribute [local go_sem] max2_int min2_int max_two min_two max_three min_three max_four min_four   -- for this text's walks alone
set_option linter.unusedVariables false
set_option linter.unusedSimpArgs false

/-! ### attestorref08_bounded: function 31 -/
def attestorref08_bounded.f (a0_0 : Int) (a0_1 : Int) (a0_2 : Int) (a0_3 : Int) (a0_4 : Int) (a1 : Int) : Option (Bool) := (attestorref01_Valid.f a0_0).bind fun t211 => (if t211 = true then (if a1 ≥ 0 then (some (decide (a1 ≤ 24))) else (some false)) else (some false))
set_option maxHeartbeats 8000000 in
set_option maxRecDepth 100000 in
theorem attestorref08_bounded.calls (a0_0 : Int) (a0_1 : Int) (a0_2 : Int) (a0_3 : Int) (a0_4 : Int) (a1 : Int) (r : Bool) (w : World) (h : attestorref08_bounded.f a0_0 a0_1 a0_2 a0_3 a0_4 a1 = some r) :
    Calls Tryd.prog 31 #[.agg #[.int .i64 a0_0, .int .u64 a0_1, .int .u64 a0_2, .int .u64 a0_3, .int .u64 a0_4], .int .i64 a1] w fun e w' => e = .returned (.bool r) ∧ Below w.heap.size w w' := by
  have hu25 := Tryd.underlying25
  have HB := Aside0.mk (Below.refl w.heap.size w)
  have H : ((attestorref01_Valid.f a0_0).bind fun t211 => (if t211 = true then (if a1 ≥ 0 then (some (decide (a1 ≤ 24))) else (some false)) else (some false))) = some r := h
  clear h
  replace H := Option.bind_eq_some_iff.mp H
  obtain ⟨t211, A30, H⟩ := H
  replace H : (if t211 = true then (if a1 ≥ 0 then (some (decide (a1 ≤ 24))) else (some false)) else (some false)) = some r := H
  have A3 := Aside0.mk A30
  clear A30
  by_cases c4 : t211 = true
  · subst c4
    have H1 : (if a1 ≥ 0 then (some (decide (a1 ≤ 24))) else (some false)) = some r := by rw [if_pos rfl] at H; exact H
    clear H
    have H := H1
    clear H1
    by_cases c5 : a1 ≥ 0
    · rw [if_pos c5] at H
      have c5b0 : decide (0 ≤ a1) = true := decide_eq_true c5
      clear c5
      obtain rfl := Option.some.inj H
      go_enter Tryd.func31, Tryd.ntmps31
      go_wp2_with (first | ((with_reducible refine gate_dst (N := 2) rfl ?_); refine box_event ?hg (N := 2) ?hd (cs := #[.int .i64 a0_0, .int .u64 a0_1, .int .u64 a0_2, .int .u64 a0_3, .int .u64 a0_4]) (t := 25) ?hr ?_; (case hd => rfl); (case hg => rfl); (case hr => first | (go_simp; done) | (go_simp; rfl)); intro gb210 hg w6 hbox hb; have n0_ := Aside0.mk (below_step (by repeat (first | (with_reducible first | exact HB.out | apply below_alloc | apply pw_below_drewN | apply below_drew1) | exact HB.out)) hb); have n1_ := Aside0.mk (hbox); have n2_ := Aside0.mk ((by rw [hg]; exact (below_size (by repeat (first | (with_reducible first | exact HB.out | apply below_alloc | apply pw_below_drewN | apply below_drew1) | exact HB.out))) : w.heap.size ≤ gb210)); have n3_ := Aside0.mk ((by rw [hg]; exact (below_size (by repeat (first | (with_reducible first | exact HB.out | apply below_alloc | apply pw_below_drewN | apply below_drew1) | exact HB.out))) : w.heap.size ≤ gb210)); clear HB; have HB := n0_; have BK210 := n1_; have GW210 := n2_; have GE210 := n3_; clear n0_ n1_ n2_ n3_; clear hb hbox hg; have hcz7_0 : w6.cell? ⟨gb210, 0, none⟩ = some (.int .i64 a0_0) := (blk_cell BK210.out 0).trans rfl; have hcz7_1 : w6.cell? ⟨gb210, 1, none⟩ = some (.int .u64 a0_1) := (blk_cell BK210.out 1).trans rfl; have hcz7_2 : w6.cell? ⟨gb210, 2, none⟩ = some (.int .u64 a0_2) := (blk_cell BK210.out 2).trans rfl; have hcz7_3 : w6.cell? ⟨gb210, 3, none⟩ = some (.int .u64 a0_3) := (blk_cell BK210.out 3).trans rfl; have hcz7_4 : w6.cell? ⟨gb210, 4, none⟩ = some (.int .u64 a0_4) := (blk_cell BK210.out 4).trans rfl; have hfz7_0 := blk_frozen BK210.out 0; have hfz7_1 := blk_frozen BK210.out 1; have hfz7_2 := blk_frozen BK210.out 2; have hfz7_3 := blk_frozen BK210.out 3; have hfz7_4 := blk_frozen BK210.out 4) | ((with_reducible refine gate_callee (f := 27) rfl ?_); refine goesL_ (some 7) rfl rfl Tryd.func27 (by kernel_rfl) rfl #[.int .i64 a0_0] rfl (by (try simp only [List.map_toArray, List.map_cons, List.map_nil]); first | done | rfl | (simp only [List.length_drop, List.length_take]; rfl) | (go_simp; done) | (go_simp; rw [Int.tmod_eq_emod_of_nonneg (by omega)]; omega)) ?_; (with_reducible refine (attestorref01_Valid.calls a0_0 true _ A3.out).mono ?_); rintro e w' ⟨rfl, ⟨nd, rfl⟩⟩; refine ⟨_, rfl, ?_⟩))
      go_ret
      exact ⟨by first | rfl | (simp [errW_none, errW_some] <;> rfl) | (simp [*, errW_none, errW_some] <;> rfl), by repeat (first | (with_reducible first | exact HB.out | apply below_alloc | apply pw_below_drewN | apply below_drew1 | refine below_set ?_ GE210.out) | exact HB.out)⟩
    · rw [if_neg c5] at H
      have c5b0 : decide (0 ≤ a1) = false := decide_eq_false c5
      clear c5
      obtain rfl := Option.some.inj H
      go_enter Tryd.func31, Tryd.ntmps31
      go_wp2_with (first | ((with_reducible refine gate_dst (N := 2) rfl ?_); refine box_event ?hg (N := 2) ?hd (cs := #[.int .i64 a0_0, .int .u64 a0_1, .int .u64 a0_2, .int .u64 a0_3, .int .u64 a0_4]) (t := 25) ?hr ?_; (case hd => rfl); (case hg => rfl); (case hr => first | (go_simp; done) | (go_simp; rfl)); intro gb210 hg w8 hbox hb; have n0_ := Aside0.mk (below_step (by repeat (first | (with_reducible first | exact HB.out | apply below_alloc | apply pw_below_drewN | apply below_drew1) | exact HB.out)) hb); have n1_ := Aside0.mk (hbox); have n2_ := Aside0.mk ((by rw [hg]; exact (below_size (by repeat (first | (with_reducible first | exact HB.out | apply below_alloc | apply pw_below_drewN | apply below_drew1) | exact HB.out))) : w.heap.size ≤ gb210)); have n3_ := Aside0.mk ((by rw [hg]; exact (below_size (by repeat (first | (with_reducible first | exact HB.out | apply below_alloc | apply pw_below_drewN | apply below_drew1) | exact HB.out))) : w.heap.size ≤ gb210)); clear HB; have HB := n0_; have BK210 := n1_; have GW210 := n2_; have GE210 := n3_; clear n0_ n1_ n2_ n3_; clear hb hbox hg; have hcz9_0 : w8.cell? ⟨gb210, 0, none⟩ = some (.int .i64 a0_0) := (blk_cell BK210.out 0).trans rfl; have hcz9_1 : w8.cell? ⟨gb210, 1, none⟩ = some (.int .u64 a0_1) := (blk_cell BK210.out 1).trans rfl; have hcz9_2 : w8.cell? ⟨gb210, 2, none⟩ = some (.int .u64 a0_2) := (blk_cell BK210.out 2).trans rfl; have hcz9_3 : w8.cell? ⟨gb210, 3, none⟩ = some (.int .u64 a0_3) := (blk_cell BK210.out 3).trans rfl; have hcz9_4 : w8.cell? ⟨gb210, 4, none⟩ = some (.int .u64 a0_4) := (blk_cell BK210.out 4).trans rfl; have hfz9_0 := blk_frozen BK210.out 0; have hfz9_1 := blk_frozen BK210.out 1; have hfz9_2 := blk_frozen BK210.out 2; have hfz9_3 := blk_frozen BK210.out 3; have hfz9_4 := blk_frozen BK210.out 4) | ((with_reducible refine gate_callee (f := 27) rfl ?_); refine goesL_ (some 7) rfl rfl Tryd.func27 (by kernel_rfl) rfl #[.int .i64 a0_0] rfl (by (try simp only [List.map_toArray, List.map_cons, List.map_nil]); first | done | rfl | (simp only [List.length_drop, List.length_take]; rfl) | (go_simp; done) | (go_simp; rw [Int.tmod_eq_emod_of_nonneg (by omega)]; omega)) ?_; (with_reducible refine (attestorref01_Valid.calls a0_0 true _ A3.out).mono ?_); rintro e w' ⟨rfl, ⟨nd, rfl⟩⟩; refine ⟨_, rfl, ?_⟩))
      go_ret
      exact ⟨by first | rfl | (simp [errW_none, errW_some] <;> rfl) | (simp [*, errW_none, errW_some] <;> rfl), by repeat (first | (with_reducible first | exact HB.out | apply below_alloc | apply pw_below_drewN | apply below_drew1 | refine below_set ?_ GE210.out) | exact HB.out)⟩
  · replace c4 := Bool.eq_false_iff.mpr c4
    subst c4
    have H1 : (some false) = some r := by rw [if_neg (show ¬ (false = true) by decide)] at H; exact H
    clear H
    have H := H1
    clear H1
    obtain rfl := Option.some.inj H
    go_enter Tryd.func31, Tryd.ntmps31
    go_wp2_with (first | ((with_reducible refine gate_dst (N := 2) rfl ?_); refine box_event ?hg (N := 2) ?hd (cs := #[.int .i64 a0_0, .int .u64 a0_1, .int .u64 a0_2, .int .u64 a0_3, .int .u64 a0_4]) (t := 25) ?hr ?_; (case hd => rfl); (case hg => rfl); (case hr => first | (go_simp; done) | (go_simp; rfl)); intro gb210 hg w10 hbox hb; have n0_ := Aside0.mk (below_step (by repeat (first | (with_reducible first | exact HB.out | apply below_alloc | apply pw_below_drewN | apply below_drew1) | exact HB.out)) hb); have n1_ := Aside0.mk (hbox); have n2_ := Aside0.mk ((by rw [hg]; exact (below_size (by repeat (first | (with_reducible first | exact HB.out | apply below_alloc | apply pw_below_drewN | apply below_drew1) | exact HB.out))) : w.heap.size ≤ gb210)); have n3_ := Aside0.mk ((by rw [hg]; exact (below_size (by repeat (first | (with_reducible first | exact HB.out | apply below_alloc | apply pw_below_drewN | apply below_drew1) | exact HB.out))) : w.heap.size ≤ gb210)); clear HB; have HB := n0_; have BK210 := n1_; have GW210 := n2_; have GE210 := n3_; clear n0_ n1_ n2_ n3_; clear hb hbox hg; have hcz11_0 : w10.cell? ⟨gb210, 0, none⟩ = some (.int .i64 a0_0) := (blk_cell BK210.out 0).trans rfl; have hcz11_1 : w10.cell? ⟨gb210, 1, none⟩ = some (.int .u64 a0_1) := (blk_cell BK210.out 1).trans rfl; have hcz11_2 : w10.cell? ⟨gb210, 2, none⟩ = some (.int .u64 a0_2) := (blk_cell BK210.out 2).trans rfl; have hcz11_3 : w10.cell? ⟨gb210, 3, none⟩ = some (.int .u64 a0_3) := (blk_cell BK210.out 3).trans rfl; have hcz11_4 : w10.cell? ⟨gb210, 4, none⟩ = some (.int .u64 a0_4) := (blk_cell BK210.out 4).trans rfl; have hfz11_0 := blk_frozen BK210.out 0; have hfz11_1 := blk_frozen BK210.out 1; have hfz11_2 := blk_frozen BK210.out 2; have hfz11_3 := blk_frozen BK210.out 3; have hfz11_4 := blk_frozen BK210.out 4) | ((with_reducible refine gate_callee (f := 27) rfl ?_); refine goesL_ (some 7) rfl rfl Tryd.func27 (by kernel_rfl) rfl #[.int .i64 a0_0] rfl (by (try simp only [List.map_toArray, List.map_cons, List.map_nil]); first | done | rfl | (simp only [List.length_drop, List.length_take]; rfl) | (go_simp; done) | (go_simp; rw [Int.tmod_eq_emod_of_nonneg (by omega)]; omega)) ?_; (with_reducible refine (attestorref01_Valid.calls a0_0 false _ A3.out).mono ?_); rintro e w' ⟨rfl, ⟨nd, rfl⟩⟩; refine ⟨_, rfl, ?_⟩))
    go_ret
    exact ⟨by first | rfl | (simp [errW_none, errW_some] <;> rfl) | (simp [*, errW_none, errW_some] <;> rfl), by repeat (first | (with_reducible first | exact HB.out | apply below_alloc | apply pw_below_drewN | apply below_drew1 | refine below_set ?_ GE210.out) | exact HB.out)⟩

end Go.Proofs.YtkailiemikjfbaaDoor.Q
end
section
namespace Go.Proofs.YtkailiemikjfbaaDoor.Q
open Go.RowKit Go.Proofs.YtkailiemikjfbaaDoorW.PrintWords Go.Proofs.YtkailiemikjfbaaDoorW.PrintLast Go.Proofs.YtkailiemikjfbaaDoorW.PrintMore
attribute [local go_sem] max2_int min2_int max_two min_two max_three min_three max_four min_four   -- for this text's walks alone
set_option linter.unusedVariables false
set_option linter.unusedSimpArgs false

/-! ### attestorref08_Position: function 13 -/
def attestorref08_Position.f (k : Nat) (a0_0 : Int) (a0_1 : Int) (a0_2 : Int) (a0_3 : Int) (a0_4 : Int) (a1 : Int) : Option (Int × Int × Int × Int × Int × Int) := (attestorref08_bounded.f a0_0 a0_1 a0_2 a0_3 a0_4 a1).bind fun t214 => (if t214 = true then ((attestorref08_Draw.f k a0_0 a0_1 a0_2 a0_3 a0_4).bind fun bt215 => (if 0 ≤ a1 then (if (shl .u64 1 a1) = 0 then (none) else (some (bt215.1, bt215.2.1, bt215.2.2.1, bt215.2.2.2.1, bt215.2.2.2.2.1, wrap64 (Int.tmod bt215.2.2.2.2.2 (shl .u64 1 a1))))) else (none))) else (some (0, 0, 0, 0, 0, 0)))
theorem attestorref08_Position.mono : ∀ a0 a1 a2 a3 a4 a5 k, LeO (attestorref08_Position.f k a0 a1 a2 a3 a4 a5) (attestorref08_Position.f (k + 1) a0 a1 a2 a3 a4 a5) := by
  intro a0 a1 a2 a3 a4 a5 k
  unfold attestorref08_Position.f
  repeat' first
      | (with_reducible exact attestorref08_Draw.mono _ _ _ _ _ _)
      | (with_reducible exact LeO.refl _)
      | (with_reducible exact LeO.none _)
      | (with_reducible refine LeO.ite ?_ ?_)
      | (with_reducible refine LeO.bind ?_ (fun _ => ?_))
      | exact attestorref08_Draw.mono _ _ _ _ _ _
      | exact LeO.none _
      | refine LeO.ite ?_ ?_
      | refine LeO.bind ?_ (fun _ => ?_)
def attestorref08_Position.T4 : Bool × List (List Nat × List Nat) := (true, [([], []), ([], []), ([], []), ([2], [2]), ([1, 3], [1, 3]), ([4], [4]), ([0, 0], [0]), ([5, 6, 0, 1, 2, 3, 4, 5, 6], [5])])
def attestorref08_Position.B4 : List Nat := [0, 0, 0, 4, 14, 30, 1, 127]
theorem attestorref08_Position.tab4 : rtab .any (opsOf Tryd.f13 4) = attestorref08_Position.T4 := by kernel_rfl
theorem attestorref08_Position.bits4 : waitsOk attestorref08_Position.T4.2 attestorref08_Position.B4 = true := by kernel_rfl
set_option maxHeartbeats 8000000 in
set_option maxRecDepth 100000 in
theorem attestorref08_Position.calls (k : Nat) (a0_0 : Int) (a0_1 : Int) (a0_2 : Int) (a0_3 : Int) (a0_4 : Int) (a1 : Int) (r1 : Int) (r2 : Int) (r3 : Int) (r4 : Int) (r5 : Int) (r6 : Int) (w : World) (h : attestorref08_Position.f k a0_0 a0_1 a0_2 a0_3 a0_4 a1 = some (r1, r2, r3, r4, r5, r6)) :
    Calls Tryd.prog 13 #[.agg #[.int .i64 a0_0, .int .u64 a0_1, .int .u64 a0_2, .int .u64 a0_3, .int .u64 a0_4], .int .i64 a1] w fun e w' => e = .returned (.tuple #[.agg #[.int .i64 r1, .int .u64 r2, .int .u64 r3, .int .u64 r4, .int .u64 r5], .int .i64 r6]) ∧ Below w.heap.size w w' := by
  have hu25 := Tryd.underlying25
  have HB := Aside0.mk (Below.refl w.heap.size w)
  have H : ((attestorref08_bounded.f a0_0 a0_1 a0_2 a0_3 a0_4 a1).bind fun t214 => (if t214 = true then ((attestorref08_Draw.f k a0_0 a0_1 a0_2 a0_3 a0_4).bind fun bt215 => (if 0 ≤ a1 then (if (shl .u64 1 a1) = 0 then (none) else (some (bt215.1, bt215.2.1, bt215.2.2.1, bt215.2.2.2.1, bt215.2.2.2.2.1, wrap64 (Int.tmod bt215.2.2.2.2.2 (shl .u64 1 a1))))) else (none))) else (some (0, 0, 0, 0, 0, 0)))) = some (r1, r2, r3, r4, r5, r6) := h
  clear h
  replace H := Option.bind_eq_some_iff.mp H
  obtain ⟨t214, A30, H⟩ := H
  replace H : (if t214 = true then ((attestorref08_Draw.f k a0_0 a0_1 a0_2 a0_3 a0_4).bind fun bt215 => (if 0 ≤ a1 then (if (shl .u64 1 a1) = 0 then (none) else (some (bt215.1, bt215.2.1, bt215.2.2.1, bt215.2.2.2.1, bt215.2.2.2.2.1, wrap64 (Int.tmod bt215.2.2.2.2.2 (shl .u64 1 a1))))) else (none))) else (some (0, 0, 0, 0, 0, 0))) = some (r1, r2, r3, r4, r5, r6) := H
  have A3 := Aside0.mk A30
  clear A30
  by_cases c4 : t214 = true
  · subst c4
    have H1 : ((attestorref08_Draw.f k a0_0 a0_1 a0_2 a0_3 a0_4).bind fun bt215 => (if 0 ≤ a1 then (if (shl .u64 1 a1) = 0 then (none) else (some (bt215.1, bt215.2.1, bt215.2.2.1, bt215.2.2.2.1, bt215.2.2.2.2.1, wrap64 (Int.tmod bt215.2.2.2.2.2 (shl .u64 1 a1))))) else (none))) = some (r1, r2, r3, r4, r5, r6) := by rw [if_pos rfl] at H; exact H
    clear H
    have H := H1
    clear H1
    replace H := Option.bind_eq_some_iff.mp H
    obtain ⟨⟨t215, t216, t217, t218, t219, t220⟩, A50, H⟩ := H
    replace H : (if 0 ≤ a1 then (if (shl .u64 1 a1) = 0 then (none) else (some (t215, t216, t217, t218, t219, wrap64 (Int.tmod t220 (shl .u64 1 a1))))) else (none)) = some (r1, r2, r3, r4, r5, r6) := H
    have A5 := Aside0.mk A50
    clear A50
    by_cases c6 : 0 ≤ a1
    · rw [if_pos c6] at H
      have c6b0 := eq_true c6
      have c6b1 : decide (0 ≤ a1) = true := decide_eq_true c6
      clear c6
      obtain ⟨ji7, hji7⟩ : ∃ j_ : Int, (shl .u64 1 a1) = j_ := ⟨_, rfl⟩
      replace H : (if (ji7) = 0 then (none) else (some (t215, t216, t217, t218, t219, wrap64 (Int.tmod t220 (ji7))))) = some (r1, r2, r3, r4, r5, r6) := by first | (rw [hji7] at H; exact H) | (simp only [hji7] at H ⊢; exact H)
      (try rw [hji7] at A3)
      (try rw [hji7] at A5)
      have hji7_ : (IntKind.u64.wrap (1 * 2 ^ min a1.toNat 64)) = ji7 := hji7
      have hji7z : a1 ≤ 64 → (IntKind.u64.wrap (1 * 2 ^ a1.toNat)) = ji7 := shl_small hji7
      have hji7u : (IntKind.u64.wrap (2 ^ min a1.toNat 64)) = ji7 := by have h_ := hji7_; rw [Int.one_mul] at h_; exact h_
      have hji7v : a1 ≤ 64 → (IntKind.u64.wrap (2 ^ a1.toNat)) = ji7 := fun hle_ => by have h_ := hji7z hle_; rw [Int.one_mul] at h_; exact h_
      by_cases c8 : (ji7) = 0
      · rw [if_pos c8] at H
        exact absurd H (by simp)
      · rw [if_neg c8] at H
        have c8b0 : ((ji7) == 0) = false := beq_eq_false_iff_ne.mpr c8
        have c8b1 : ((ji7) != 0) = true := bne_iff_ne.mpr c8
        simp only [Option.some.injEq, Prod.mk.injEq] at H
        obtain ⟨rfl, rfl, rfl, rfl, rfl, rfl⟩ := H
        go_enter Tryd.func13, Tryd.ntmps13
        try go_wp2_with (first | ((with_reducible refine gate_dst (N := 2) rfl ?_); refine box_event ?hg (N := 2) ?hd (cs := #[.int .i64 a0_0, .int .u64 a0_1, .int .u64 a0_2, .int .u64 a0_3, .int .u64 a0_4]) (t := 25) ?hr ?_; (case hd => rfl); (case hg => rfl); (case hr => first | (go_simp; done) | (go_simp; rfl)); intro gb212 hg w9 hbox hb; have n0_ := Aside0.mk (below_step (by repeat (first | (with_reducible first | exact HB.out | apply below_alloc | apply pw_below_drewN | apply below_drew1) | exact HB.out)) hb); have n1_ := Aside0.mk (hbox); have n2_ := Aside0.mk ((by rw [hg]; exact (below_size (by repeat (first | (with_reducible first | exact HB.out | apply below_alloc | apply pw_below_drewN | apply below_drew1) | exact HB.out))) : w.heap.size ≤ gb212)); have n3_ := Aside0.mk ((by rw [hg]; exact (below_size (by repeat (first | (with_reducible first | exact HB.out | apply below_alloc | apply pw_below_drewN | apply below_drew1) | exact HB.out))) : w.heap.size ≤ gb212)); clear HB; have HB := n0_; have BK212 := n1_; have GW212 := n2_; have GE212 := n3_; clear n0_ n1_ n2_ n3_; clear hb hbox hg) | ((with_reducible refine gate_dst (N := 4) rfl ?_); refine box_event ?hg (N := 4) ?hd (cs := #[.int .i64 0, .int .u64 0, .int .u64 0, .int .u64 0, .int .u64 0]) (t := 25) ?hr ?_; (case hd => rfl); (case hg => rfl); (case hr => first | (go_simp; done) | (go_simp; rfl)); intro gb213 hg w10 hbox hb; have n0_ := Aside0.mk (blk_below (g := gb212) (o := .cells #[.int .i64 a0_0, .int .u64 a0_1, .int .u64 a0_2, .int .u64 a0_3, .int .u64 a0_4] 25 (0, 0)) (by (with_reducible repeat (first | refine blk_drewN ?_ _ | refine blk_drew ?_ | refine blk_alloc ?_ _)); exact BK212.out) hb); have n1_ := Aside0.mk (below_step (by repeat (first | (with_reducible first | exact HB.out | apply below_alloc | apply pw_below_drewN | apply below_drew1 | refine below_set ?_ GE212.out) | exact HB.out)) hb); have n2_ := Aside0.mk (hbox); have n3_ := Aside0.mk ((by rw [hg]; exact (below_size (by repeat (first | (with_reducible first | exact HB.out | apply below_alloc | apply pw_below_drewN | apply below_drew1 | refine below_set ?_ GE212.out) | exact HB.out))) : w.heap.size ≤ gb213)); have n4_ := Aside0.mk ((by rw [hg]; exact (below_size (by repeat (first | (with_reducible first | exact HB.out | apply below_alloc | apply pw_below_drewN | apply below_drew1 | refine below_set ?_ GE212.out) | exact HB.out))) : w.heap.size ≤ gb213)); have n5_ := Aside0.mk ((by rw [hg]; exact Nat.ne_of_lt (blk_lt (g := gb212) (o := .cells #[.int .i64 a0_0, .int .u64 a0_1, .int .u64 a0_2, .int .u64 a0_3, .int .u64 a0_4] 25 (0, 0)) (by (with_reducible repeat (first | refine blk_drewN ?_ _ | refine blk_drew ?_ | refine blk_alloc ?_ _)); exact BK212.out)) : gb212 ≠ gb213)); have n6_ := Aside0.mk ((by rw [hg]; exact Nat.ne_of_gt (blk_lt (g := gb212) (o := .cells #[.int .i64 a0_0, .int .u64 a0_1, .int .u64 a0_2, .int .u64 a0_3, .int .u64 a0_4] 25 (0, 0)) (by (with_reducible repeat (first | refine blk_drewN ?_ _ | refine blk_drew ?_ | refine blk_alloc ?_ _)); exact BK212.out)) : gb213 ≠ gb212)); clear BK212; clear HB; have BK212 := n0_; have HB := n1_; have BK213 := n2_; have GW213 := n3_; have GE213 := n4_; have NB212_213 := n5_; have NB213_212 := n6_; clear n0_ n1_ n2_ n3_ n4_ n5_ n6_; clear hb hbox hg; have hnb11 := NB212_213.out; have hnc11 := NB213_212.out; have hcz12_0 : w10.cell? ⟨gb212, 0, none⟩ = some (.int .i64 a0_0) := (blk_cell BK212.out 0).trans rfl; have hcz12_1 : w10.cell? ⟨gb212, 1, none⟩ = some (.int .u64 a0_1) := (blk_cell BK212.out 1).trans rfl; have hcz12_2 : w10.cell? ⟨gb212, 2, none⟩ = some (.int .u64 a0_2) := (blk_cell BK212.out 2).trans rfl; have hcz12_3 : w10.cell? ⟨gb212, 3, none⟩ = some (.int .u64 a0_3) := (blk_cell BK212.out 3).trans rfl; have hcz12_4 : w10.cell? ⟨gb212, 4, none⟩ = some (.int .u64 a0_4) := (blk_cell BK212.out 4).trans rfl; have hfz12_0 := blk_frozen BK212.out 0; have hfz12_1 := blk_frozen BK212.out 1; have hfz12_2 := blk_frozen BK212.out 2; have hfz12_3 := blk_frozen BK212.out 3; have hfz12_4 := blk_frozen BK212.out 4) | ((with_reducible refine gate_callee (f := 31) rfl ?_); refine goesL_ (some 9) rfl rfl Tryd.func31 (by kernel_rfl) rfl #[.agg #[.int .i64 a0_0, .int .u64 a0_1, .int .u64 a0_2, .int .u64 a0_3, .int .u64 a0_4], .int .i64 a1] rfl (by (try simp only [List.map_toArray, List.map_cons, List.map_nil]); first | done | rfl | (simp only [List.length_drop, List.length_take]; rfl) | (go_simp; done) | (go_simp; rw [Int.tmod_eq_emod_of_nonneg (by omega)]; omega)) ?_; (with_reducible refine (attestorref08_bounded.calls a0_0 a0_1 a0_2 a0_3 a0_4 a1 true _ A3.out).mono ?_); rintro e w13 ⟨rfl, hb⟩; refine ⟨_, rfl, ?_⟩; have n0_ := Aside0.mk (blk_below (g := gb212) (o := .cells #[.int .i64 a0_0, .int .u64 a0_1, .int .u64 a0_2, .int .u64 a0_3, .int .u64 a0_4] 25 (0, 0)) (by (with_reducible repeat (first | refine blk_drewN ?_ _ | refine blk_drew ?_ | refine blk_alloc ?_ _)); exact BK212.out) hb); have n1_ := Aside0.mk (blk_below (g := gb213) (o := .cells #[.int .i64 0, .int .u64 0, .int .u64 0, .int .u64 0, .int .u64 0] 25 (0, 0)) (by (with_reducible repeat (first | refine blk_drewN ?_ _ | refine blk_drew ?_ | refine blk_alloc ?_ _)); exact BK213.out) hb); have n2_ := Aside0.mk (below_step (by repeat (first | (with_reducible first | exact HB.out | apply below_alloc | apply pw_below_drewN | apply below_drew1 | refine below_set ?_ GE212.out | refine below_set ?_ GE213.out) | exact HB.out)) hb); clear BK212; clear BK213; clear HB; have BK212 := n0_; have BK213 := n1_; have HB := n2_; clear n0_ n1_ n2_; (try clear hb); (try clear hb2); (try clear hk); (try clear hi); have hcz14_0 : w13.cell? ⟨gb212, 0, none⟩ = some (.int .i64 a0_0) := (blk_cell BK212.out 0).trans rfl; have hcz14_1 : w13.cell? ⟨gb212, 1, none⟩ = some (.int .u64 a0_1) := (blk_cell BK212.out 1).trans rfl; have hcz14_2 : w13.cell? ⟨gb212, 2, none⟩ = some (.int .u64 a0_2) := (blk_cell BK212.out 2).trans rfl; have hcz14_3 : w13.cell? ⟨gb212, 3, none⟩ = some (.int .u64 a0_3) := (blk_cell BK212.out 3).trans rfl; have hcz14_4 : w13.cell? ⟨gb212, 4, none⟩ = some (.int .u64 a0_4) := (blk_cell BK212.out 4).trans rfl; have hfz14_0 := blk_frozen BK212.out 0; have hfz14_1 := blk_frozen BK212.out 1; have hfz14_2 := blk_frozen BK212.out 2; have hfz14_3 := blk_frozen BK212.out 3; have hfz14_4 := blk_frozen BK212.out 4) | ((with_reducible refine gate_callee (f := 11) rfl ?_); refine goesL_ (some 14) rfl rfl Tryd.func11 (by kernel_rfl) rfl #[.agg #[.int .i64 a0_0, .int .u64 a0_1, .int .u64 a0_2, .int .u64 a0_3, .int .u64 a0_4]] rfl (by (try simp only [List.map_toArray, List.map_cons, List.map_nil]); first | done | rfl | (simp only [List.length_drop, List.length_take]; rfl) | (go_simp; done) | (go_simp; rw [Int.tmod_eq_emod_of_nonneg (by omega)]; omega)) ?_; (with_reducible refine (attestorref08_Draw.calls k a0_0 a0_1 a0_2 a0_3 a0_4 t215 t216 t217 t218 t219 t220 _ A5.out).mono ?_); rintro e w15 ⟨rfl, hb⟩; refine ⟨_, rfl, ?_⟩; have n0_ := Aside0.mk (blk_below (g := gb212) (o := .cells #[.int .i64 a0_0, .int .u64 a0_1, .int .u64 a0_2, .int .u64 a0_3, .int .u64 a0_4] 25 (0, 0)) (by (with_reducible repeat (first | refine blk_drewN ?_ _ | refine blk_drew ?_ | refine blk_alloc ?_ _)); exact BK212.out) hb); have n1_ := Aside0.mk (blk_below (g := gb213) (o := .cells #[.int .i64 0, .int .u64 0, .int .u64 0, .int .u64 0, .int .u64 0] 25 (0, 0)) (by (with_reducible repeat (first | refine blk_drewN ?_ _ | refine blk_drew ?_ | refine blk_alloc ?_ _)); exact BK213.out) hb); have n2_ := Aside0.mk (below_step (by repeat (first | (with_reducible first | exact HB.out | apply below_alloc | apply pw_below_drewN | apply below_drew1 | refine below_set ?_ GE212.out | refine below_set ?_ GE213.out) | exact HB.out)) hb); clear BK212; clear BK213; clear HB; have BK212 := n0_; have BK213 := n1_; have HB := n2_; clear n0_ n1_ n2_; (try clear hb); (try clear hb2); (try clear hk); (try clear hi); have hcz16_0 : w15.cell? ⟨gb212, 0, none⟩ = some (.int .i64 a0_0) := (blk_cell BK212.out 0).trans rfl; have hcz16_1 : w15.cell? ⟨gb212, 1, none⟩ = some (.int .u64 a0_1) := (blk_cell BK212.out 1).trans rfl; have hcz16_2 : w15.cell? ⟨gb212, 2, none⟩ = some (.int .u64 a0_2) := (blk_cell BK212.out 2).trans rfl; have hcz16_3 : w15.cell? ⟨gb212, 3, none⟩ = some (.int .u64 a0_3) := (blk_cell BK212.out 3).trans rfl; have hcz16_4 : w15.cell? ⟨gb212, 4, none⟩ = some (.int .u64 a0_4) := (blk_cell BK212.out 4).trans rfl; have hfz16_0 := blk_frozen BK212.out 0; have hfz16_1 := blk_frozen BK212.out 1; have hfz16_2 := blk_frozen BK212.out 2; have hfz16_3 := blk_frozen BK212.out 3; have hfz16_4 := blk_frozen BK212.out 4))
        have n0_ : Aside0 ((((((w15.setCell ⟨gb212, 0, none⟩ (.int .i64 t215)).setCell ⟨gb212, 1, none⟩ (.int .u64 t216)).setCell ⟨gb212, 2, none⟩ (.int .u64 t217)).setCell ⟨gb212, 3, none⟩ (.int .u64 t218)).setCell ⟨gb212, 4, none⟩ (.int .u64 t219)).heap[gb212]? = some (.cells #[.int .i64 t215, .int .u64 t216, .int .u64 t217, .int .u64 t218, .int .u64 t219] 25 (0, 0))) := ⟨by (with_reducible repeat (first | refine blk_drewN ?_ _ | refine blk_drew ?_ | refine blk_alloc ?_ _)); refine blk_put (cs := #[.int .i64 t215, .int .u64 t216, .int .u64 t217, .int .u64 t218, .int .u64 a0_4]) ?_ 4 _ rfl; (with_reducible repeat (first | refine blk_drewN ?_ _ | refine blk_drew ?_ | refine blk_alloc ?_ _)); refine blk_put (cs := #[.int .i64 t215, .int .u64 t216, .int .u64 t217, .int .u64 a0_3, .int .u64 a0_4]) ?_ 3 _ rfl; (with_reducible repeat (first | refine blk_drewN ?_ _ | refine blk_drew ?_ | refine blk_alloc ?_ _)); refine blk_put (cs := #[.int .i64 t215, .int .u64 t216, .int .u64 a0_2, .int .u64 a0_3, .int .u64 a0_4]) ?_ 2 _ rfl; (with_reducible repeat (first | refine blk_drewN ?_ _ | refine blk_drew ?_ | refine blk_alloc ?_ _)); refine blk_put (cs := #[.int .i64 t215, .int .u64 a0_1, .int .u64 a0_2, .int .u64 a0_3, .int .u64 a0_4]) ?_ 1 _ rfl; (with_reducible repeat (first | refine blk_drewN ?_ _ | refine blk_drew ?_ | refine blk_alloc ?_ _)); refine blk_put (cs := #[.int .i64 a0_0, .int .u64 a0_1, .int .u64 a0_2, .int .u64 a0_3, .int .u64 a0_4]) ?_ 0 _ rfl; (with_reducible repeat (first | refine blk_drewN ?_ _ | refine blk_drew ?_ | refine blk_alloc ?_ _)); exact BK212.out⟩
        have n1_ : Aside0 ((((((w15.setCell ⟨gb212, 0, none⟩ (.int .i64 t215)).setCell ⟨gb212, 1, none⟩ (.int .u64 t216)).setCell ⟨gb212, 2, none⟩ (.int .u64 t217)).setCell ⟨gb212, 3, none⟩ (.int .u64 t218)).setCell ⟨gb212, 4, none⟩ (.int .u64 t219)).heap[gb213]? = some (.cells #[.int .i64 0, .int .u64 0, .int .u64 0, .int .u64 0, .int .u64 0] 25 (0, 0))) := ⟨by (with_reducible repeat (first | refine blk_drewN ?_ _ | refine blk_drew ?_ | refine blk_alloc ?_ _)); refine blk_far ?_ NB213_212.out _; (with_reducible repeat (first | refine blk_drewN ?_ _ | refine blk_drew ?_ | refine blk_alloc ?_ _)); refine blk_far ?_ NB213_212.out _; (with_reducible repeat (first | refine blk_drewN ?_ _ | refine blk_drew ?_ | refine blk_alloc ?_ _)); refine blk_far ?_ NB213_212.out _; (with_reducible repeat (first | refine blk_drewN ?_ _ | refine blk_drew ?_ | refine blk_alloc ?_ _)); refine blk_far ?_ NB213_212.out _; (with_reducible repeat (first | refine blk_drewN ?_ _ | refine blk_drew ?_ | refine blk_alloc ?_ _)); refine blk_far ?_ NB213_212.out _; (with_reducible repeat (first | refine blk_drewN ?_ _ | refine blk_drew ?_ | refine blk_alloc ?_ _)); exact BK213.out⟩
        have n2_ : Aside0 (Below w.heap.size w (((((w15.setCell ⟨gb212, 0, none⟩ (.int .i64 t215)).setCell ⟨gb212, 1, none⟩ (.int .u64 t216)).setCell ⟨gb212, 2, none⟩ (.int .u64 t217)).setCell ⟨gb212, 3, none⟩ (.int .u64 t218)).setCell ⟨gb212, 4, none⟩ (.int .u64 t219))) := ⟨by repeat (first | (with_reducible first | exact HB.out | apply below_alloc | apply pw_below_drewN | apply below_drew1 | refine below_set ?_ GE212.out | refine below_set ?_ GE213.out) | exact HB.out)⟩
        (try clear BK212)
        (try clear BK213)
        (try clear HB)
        generalize (((((w15.setCell ⟨gb212, 0, none⟩ (.int .i64 t215)).setCell ⟨gb212, 1, none⟩ (.int .u64 t216)).setCell ⟨gb212, 2, none⟩ (.int .u64 t217)).setCell ⟨gb212, 3, none⟩ (.int .u64 t218)).setCell ⟨gb212, 4, none⟩ (.int .u64 t219)) = w17 at n0_ n1_ n2_ ⊢
        have BK212 := n0_
        have BK213 := n1_
        have HB := n2_
        clear n0_ n1_ n2_
        have n0_ := Aside0.mk (blk_drew BK212.out)
        have n1_ := Aside0.mk (blk_drew BK213.out)
        have n2_ := Aside0.mk (below_drew1 HB.out)
        clear BK212
        clear BK213
        clear HB
        have BK212 := n0_
        have BK213 := n1_
        have HB := n2_
        clear n0_ n1_ n2_
        refine start_ (n := 8) (S := fun w' => w'.cell? ⟨gb212, 0, none⟩ = some (.int .i64 t215) ∧ w'.cell? ⟨gb212, 1, none⟩ = some (.int .u64 t216) ∧ w'.cell? ⟨gb212, 2, none⟩ = some (.int .u64 t217) ∧ w'.cell? ⟨gb212, 3, none⟩ = some (.int .u64 t218) ∧ w'.cell? ⟨gb212, 4, none⟩ = some (.int .u64 t219)) (ds := []) #[false, false, false, false, false, false, false, false] (by kernel_rfl) rfl rfl ⟨(blk_cell BK212.out 0).trans rfl, (blk_cell BK212.out 1).trans rfl, (blk_cell BK212.out 2).trans rfl, (blk_cell BK212.out 3).trans rfl, (blk_cell BK212.out 4).trans rfl⟩ (fun hHeld => ?_); refine with_tabW attestorref08_Position.tab4 attestorref08_Position.bits4 (fun HT_ HW_ => ?_)
        generalize w17.drew = w18 at BK212 BK213 HB hHeld ⊢
        refine pure_ (i := 1) (N := some 18) (v := ?_) (a' := ?_) #[false, true, false, false, false, false, false, false] rfl rfl (any_of HT_.out (by kernel_rfl)) (fun _ _ _ h => h) (Or.inl ⟨by rfl, ?_⟩) ?_ ?_
        rotate_left
        · intro w'
          go_simp
          with_reducible rfl
        rotate_left
        · simp only [Act.put, List.setIfInBounds_toArray, List.set_cons_zero, List.set_cons_succ, i64_w, i32_w]
          rfl
        refine pure_ (i := 2) (N := some 19) (v := ?_) (a' := ?_) #[false, true, true, false, false, false, false, false] rfl rfl (any_of HT_.out (by kernel_rfl)) (fun _ _ _ h => h) (Or.inl ⟨by rfl, ?_⟩) ?_ ?_
        rotate_left
        · intro w'
          go_simp
          with_reducible rfl
        rotate_left
        · simp only [Act.put, List.setIfInBounds_toArray, List.set_cons_zero, List.set_cons_succ, i64_w, i32_w]
          rfl
        refine pure_ (i := 3) (N := some 20) (v := ?_) (a' := ?_) #[false, true, true, true, false, false, false, false] rfl rfl (any_of HT_.out (by kernel_rfl)) (fun _ _ _ h => h) (Or.inl ⟨by rfl, ?_⟩) ?_ ?_
        rotate_left
        · intro w'
          go_simp
          with_reducible rfl
        rotate_left
        · simp only [Act.put, List.setIfInBounds_toArray, List.set_cons_zero, List.set_cons_succ, i64_w, i32_w]
          rfl
        refine pure_ (i := 4) (N := some 21) (v := ?_) (a' := ?_) #[false, true, true, true, true, false, false, false] rfl rfl (any_of HT_.out (by kernel_rfl)) (fun _ _ _ h => h) (Or.inl ⟨by rfl, ?_⟩) ?_ ?_
        rotate_left
        · intro w'
          go_simp
          with_reducible rfl
        rotate_left
        · simp only [Act.put, List.setIfInBounds_toArray, List.set_cons_zero, List.set_cons_succ, i64_w, i32_w]
          rfl
        refine pure_ (i := 5) (N := some 22) (v := ?_) (a' := ?_) #[false, true, true, true, true, true, false, false] rfl rfl (any_of HT_.out (by kernel_rfl)) (fun _ _ _ h => h) (Or.inl ⟨by rfl, ?_⟩) ?_ ?_
        rotate_left
        · intro w'
          go_simp
          with_reducible rfl
        rotate_left
        · simp only [Act.put, List.setIfInBounds_toArray, List.set_cons_zero, List.set_cons_succ, i64_w, i32_w]
          rfl
        refine take_ (i := 0) (N := some 17) (v := ?_) (a' := ?_) #[true, true, true, true, true, true, false, false] rfl rfl (take_ofW HT_.out HW_.out (by kernel_rfl)) (fun _ _ _ h => h) (Or.inl ⟨by rfl, ?_⟩) hHeld ?_ ?_
        rotate_left
        · rintro w' ⟨s0, s1, s2, s3, s4⟩
          go_simp
          with_reducible rfl
        rotate_left
        · simp only [Act.put, List.setIfInBounds_toArray, List.set_cons_zero, List.set_cons_succ, i64_w, i32_w]
          rfl
        refine one_ (i := 6) (N := none) #[true, true, true, true, true, true, true, false] rfl rfl (one_of HT_.out (by kernel_rfl)) (by decide) (fun K hK => ?_)
        have hs19 : w18.cell? ⟨gb213, 0, none⟩ = some (.int .i64 0) := (blk_cell BK213.out 0).trans rfl
        have hfs19 := blk_frozen BK213.out 0
        have hns19_0 := NB212_213.out
        have hms19_0 := NB213_212.out
        have hs20 : w18.cell? ⟨gb213, 1, none⟩ = some (.int .u64 0) := (blk_cell BK213.out 1).trans rfl
        have hfs20 := blk_frozen BK213.out 1
        have hns20_0 := NB212_213.out
        have hms20_0 := NB213_212.out
        have hs21 : w18.cell? ⟨gb213, 2, none⟩ = some (.int .u64 0) := (blk_cell BK213.out 2).trans rfl
        have hfs21 := blk_frozen BK213.out 2
        have hns21_0 := NB212_213.out
        have hms21_0 := NB213_212.out
        have hs22 : w18.cell? ⟨gb213, 3, none⟩ = some (.int .u64 0) := (blk_cell BK213.out 3).trans rfl
        have hfs22 := blk_frozen BK213.out 3
        have hns22_0 := NB212_213.out
        have hms22_0 := NB213_212.out
        have hs23 : w18.cell? ⟨gb213, 4, none⟩ = some (.int .u64 0) := (blk_cell BK213.out 4).trans rfl
        have hfs23 := blk_frozen BK213.out 4
        have hns23_0 := NB212_213.out
        have hms23_0 := NB213_212.out
        refine skip_ (w1 := ?_) (by rfl) rfl ?_ ?_
        rotate_left
        · go_simp
          rfl
        refine hK.out _ _ ⟨((cell_far (p := ⟨gb213, _, none⟩) NB212_213.out _).trans (((cell_far (p := ⟨gb213, _, none⟩) NB212_213.out _).trans (((cell_far (p := ⟨gb213, _, none⟩) NB212_213.out _).trans (((cell_far (p := ⟨gb213, _, none⟩) NB212_213.out _).trans (((cell_far (p := ⟨gb213, _, none⟩) NB212_213.out _).trans (hHeld.1)))))))))), ((cell_far (p := ⟨gb213, _, none⟩) NB212_213.out _).trans (((cell_far (p := ⟨gb213, _, none⟩) NB212_213.out _).trans (((cell_far (p := ⟨gb213, _, none⟩) NB212_213.out _).trans (((cell_far (p := ⟨gb213, _, none⟩) NB212_213.out _).trans (((cell_far (p := ⟨gb213, _, none⟩) NB212_213.out _).trans (hHeld.2.1)))))))))), ((cell_far (p := ⟨gb213, _, none⟩) NB212_213.out _).trans (((cell_far (p := ⟨gb213, _, none⟩) NB212_213.out _).trans (((cell_far (p := ⟨gb213, _, none⟩) NB212_213.out _).trans (((cell_far (p := ⟨gb213, _, none⟩) NB212_213.out _).trans (((cell_far (p := ⟨gb213, _, none⟩) NB212_213.out _).trans (hHeld.2.2.1)))))))))), ((cell_far (p := ⟨gb213, _, none⟩) NB212_213.out _).trans (((cell_far (p := ⟨gb213, _, none⟩) NB212_213.out _).trans (((cell_far (p := ⟨gb213, _, none⟩) NB212_213.out _).trans (((cell_far (p := ⟨gb213, _, none⟩) NB212_213.out _).trans (((cell_far (p := ⟨gb213, _, none⟩) NB212_213.out _).trans (hHeld.2.2.2.1)))))))))), ((cell_far (p := ⟨gb213, _, none⟩) NB212_213.out _).trans (((cell_far (p := ⟨gb213, _, none⟩) NB212_213.out _).trans (((cell_far (p := ⟨gb213, _, none⟩) NB212_213.out _).trans (((cell_far (p := ⟨gb213, _, none⟩) NB212_213.out _).trans (((cell_far (p := ⟨gb213, _, none⟩) NB212_213.out _).trans (hHeld.2.2.2.2))))))))))⟩ (fun hHeld => ?_)
        clear hK K
        refine pure_ (i := 7) (N := some 5) (v := ?_) (a' := ?_) #[true, true, true, true, true, true, true, true] rfl rfl (any_of HT_.out (by kernel_rfl)) (fun _ _ _ h => h) (Or.inl ⟨by rfl, ?_⟩) ?_ ?_
        rotate_left
        · intro w'
          go_simp
          with_reducible rfl
        rotate_left
        · simp only [Act.put, List.setIfInBounds_toArray, List.set_cons_zero, List.set_cons_succ, i64_w, i32_w]
          rfl
        refine done_ (done_of HT_.out (by kernel_rfl)) ?_
        try go_wp2
        refine bodyPost_ret (results_ct rfl _ _ gb213 25 #[.int .i64 t215, .int .u64 t216, .int .u64 t217, .int .u64 t218, .int .u64 t219] (0, 0) _ rfl (by (with_reducible repeat (first | refine blk_drewN ?_ _ | refine blk_drew ?_ | refine blk_alloc ?_ _)); refine blk_put (cs := #[.int .i64 t215, .int .u64 t216, .int .u64 t217, .int .u64 t218, .int .u64 0]) ?_ 4 _ rfl; (with_reducible repeat (first | refine blk_drewN ?_ _ | refine blk_drew ?_ | refine blk_alloc ?_ _)); refine blk_put (cs := #[.int .i64 t215, .int .u64 t216, .int .u64 t217, .int .u64 0, .int .u64 0]) ?_ 3 _ rfl; (with_reducible repeat (first | refine blk_drewN ?_ _ | refine blk_drew ?_ | refine blk_alloc ?_ _)); refine blk_put (cs := #[.int .i64 t215, .int .u64 t216, .int .u64 0, .int .u64 0, .int .u64 0]) ?_ 2 _ rfl; (with_reducible repeat (first | refine blk_drewN ?_ _ | refine blk_drew ?_ | refine blk_alloc ?_ _)); refine blk_put (cs := #[.int .i64 t215, .int .u64 0, .int .u64 0, .int .u64 0, .int .u64 0]) ?_ 1 _ rfl; (with_reducible repeat (first | refine blk_drewN ?_ _ | refine blk_drew ?_ | refine blk_alloc ?_ _)); refine blk_put (cs := #[.int .i64 0, .int .u64 0, .int .u64 0, .int .u64 0, .int .u64 0]) ?_ 0 _ rfl; (with_reducible repeat (first | refine blk_drewN ?_ _ | refine blk_drew ?_ | refine blk_alloc ?_ _)); exact BK213.out) Tryd.underlying25 rfl (by kernel_rfl)) rfl ?_
        exact ⟨by first | rfl | (simp [errW_none, errW_some] <;> rfl) | (simp only [← hji7]; first | rfl | (simp [errW_none, errW_some] <;> rfl)) | (simp [*, errW_none, errW_some] <;> rfl), by repeat (first | (with_reducible first | exact HB.out | apply below_alloc | apply pw_below_drewN | apply below_drew1 | refine below_set ?_ GE212.out | refine below_set ?_ GE213.out) | exact HB.out)⟩
    · rw [if_neg c6] at H
      exact absurd H (by simp)
  · replace c4 := Bool.eq_false_iff.mpr c4
    subst c4
    have H1 : (some (0, 0, 0, 0, 0, 0)) = some (r1, r2, r3, r4, r5, r6) := by rw [if_neg (show ¬ (false = true) by decide)] at H; exact H
    clear H
    have H := H1
    clear H1
    simp only [Option.some.injEq, Prod.mk.injEq] at H
    obtain ⟨rfl, rfl, rfl, rfl, rfl, rfl⟩ := H
    go_enter Tryd.func13, Tryd.ntmps13
    go_wp2_with (first | ((with_reducible refine gate_dst (N := 2) rfl ?_); refine box_event ?hg (N := 2) ?hd (cs := #[.int .i64 a0_0, .int .u64 a0_1, .int .u64 a0_2, .int .u64 a0_3, .int .u64 a0_4]) (t := 25) ?hr ?_; (case hd => rfl); (case hg => rfl); (case hr => first | (go_simp; done) | (go_simp; rfl)); intro gb212 hg w24 hbox hb; have n0_ := Aside0.mk (below_step (by repeat (first | (with_reducible first | exact HB.out | apply below_alloc | apply pw_below_drewN | apply below_drew1) | exact HB.out)) hb); have n1_ := Aside0.mk (hbox); have n2_ := Aside0.mk ((by rw [hg]; exact (below_size (by repeat (first | (with_reducible first | exact HB.out | apply below_alloc | apply pw_below_drewN | apply below_drew1) | exact HB.out))) : w.heap.size ≤ gb212)); have n3_ := Aside0.mk ((by rw [hg]; exact (below_size (by repeat (first | (with_reducible first | exact HB.out | apply below_alloc | apply pw_below_drewN | apply below_drew1) | exact HB.out))) : w.heap.size ≤ gb212)); clear HB; have HB := n0_; have BK212 := n1_; have GW212 := n2_; have GE212 := n3_; clear n0_ n1_ n2_ n3_; clear hb hbox hg) | ((with_reducible refine gate_dst (N := 4) rfl ?_); refine box_event ?hg (N := 4) ?hd (cs := #[.int .i64 0, .int .u64 0, .int .u64 0, .int .u64 0, .int .u64 0]) (t := 25) ?hr ?_; (case hd => rfl); (case hg => rfl); (case hr => first | (go_simp; done) | (go_simp; rfl)); intro gb213 hg w25 hbox hb; have n0_ := Aside0.mk (blk_below (g := gb212) (o := .cells #[.int .i64 a0_0, .int .u64 a0_1, .int .u64 a0_2, .int .u64 a0_3, .int .u64 a0_4] 25 (0, 0)) (by (with_reducible repeat (first | refine blk_drewN ?_ _ | refine blk_drew ?_ | refine blk_alloc ?_ _)); exact BK212.out) hb); have n1_ := Aside0.mk (below_step (by repeat (first | (with_reducible first | exact HB.out | apply below_alloc | apply pw_below_drewN | apply below_drew1 | refine below_set ?_ GE212.out) | exact HB.out)) hb); have n2_ := Aside0.mk (hbox); have n3_ := Aside0.mk ((by rw [hg]; exact (below_size (by repeat (first | (with_reducible first | exact HB.out | apply below_alloc | apply pw_below_drewN | apply below_drew1 | refine below_set ?_ GE212.out) | exact HB.out))) : w.heap.size ≤ gb213)); have n4_ := Aside0.mk ((by rw [hg]; exact (below_size (by repeat (first | (with_reducible first | exact HB.out | apply below_alloc | apply pw_below_drewN | apply below_drew1 | refine below_set ?_ GE212.out) | exact HB.out))) : w.heap.size ≤ gb213)); have n5_ := Aside0.mk ((by rw [hg]; exact Nat.ne_of_lt (blk_lt (g := gb212) (o := .cells #[.int .i64 a0_0, .int .u64 a0_1, .int .u64 a0_2, .int .u64 a0_3, .int .u64 a0_4] 25 (0, 0)) (by (with_reducible repeat (first | refine blk_drewN ?_ _ | refine blk_drew ?_ | refine blk_alloc ?_ _)); exact BK212.out)) : gb212 ≠ gb213)); have n6_ := Aside0.mk ((by rw [hg]; exact Nat.ne_of_gt (blk_lt (g := gb212) (o := .cells #[.int .i64 a0_0, .int .u64 a0_1, .int .u64 a0_2, .int .u64 a0_3, .int .u64 a0_4] 25 (0, 0)) (by (with_reducible repeat (first | refine blk_drewN ?_ _ | refine blk_drew ?_ | refine blk_alloc ?_ _)); exact BK212.out)) : gb213 ≠ gb212)); clear BK212; clear HB; have BK212 := n0_; have HB := n1_; have BK213 := n2_; have GW213 := n3_; have GE213 := n4_; have NB212_213 := n5_; have NB213_212 := n6_; clear n0_ n1_ n2_ n3_ n4_ n5_ n6_; clear hb hbox hg; have hnb26 := NB212_213.out; have hnc26 := NB213_212.out; have hcz27_0 : w25.cell? ⟨gb212, 0, none⟩ = some (.int .i64 a0_0) := (blk_cell BK212.out 0).trans rfl; have hcz27_1 : w25.cell? ⟨gb212, 1, none⟩ = some (.int .u64 a0_1) := (blk_cell BK212.out 1).trans rfl; have hcz27_2 : w25.cell? ⟨gb212, 2, none⟩ = some (.int .u64 a0_2) := (blk_cell BK212.out 2).trans rfl; have hcz27_3 : w25.cell? ⟨gb212, 3, none⟩ = some (.int .u64 a0_3) := (blk_cell BK212.out 3).trans rfl; have hcz27_4 : w25.cell? ⟨gb212, 4, none⟩ = some (.int .u64 a0_4) := (blk_cell BK212.out 4).trans rfl; have hfz27_0 := blk_frozen BK212.out 0; have hfz27_1 := blk_frozen BK212.out 1; have hfz27_2 := blk_frozen BK212.out 2; have hfz27_3 := blk_frozen BK212.out 3; have hfz27_4 := blk_frozen BK212.out 4) | ((with_reducible refine gate_callee (f := 31) rfl ?_); refine goesL_ (some 9) rfl rfl Tryd.func31 (by kernel_rfl) rfl #[.agg #[.int .i64 a0_0, .int .u64 a0_1, .int .u64 a0_2, .int .u64 a0_3, .int .u64 a0_4], .int .i64 a1] rfl (by (try simp only [List.map_toArray, List.map_cons, List.map_nil]); first | done | rfl | (simp only [List.length_drop, List.length_take]; rfl) | (go_simp; done) | (go_simp; rw [Int.tmod_eq_emod_of_nonneg (by omega)]; omega)) ?_; (with_reducible refine (attestorref08_bounded.calls a0_0 a0_1 a0_2 a0_3 a0_4 a1 false _ A3.out).mono ?_); rintro e w28 ⟨rfl, hb⟩; refine ⟨_, rfl, ?_⟩; have n0_ := Aside0.mk (blk_below (g := gb212) (o := .cells #[.int .i64 a0_0, .int .u64 a0_1, .int .u64 a0_2, .int .u64 a0_3, .int .u64 a0_4] 25 (0, 0)) (by (with_reducible repeat (first | refine blk_drewN ?_ _ | refine blk_drew ?_ | refine blk_alloc ?_ _)); exact BK212.out) hb); have n1_ := Aside0.mk (blk_below (g := gb213) (o := .cells #[.int .i64 0, .int .u64 0, .int .u64 0, .int .u64 0, .int .u64 0] 25 (0, 0)) (by (with_reducible repeat (first | refine blk_drewN ?_ _ | refine blk_drew ?_ | refine blk_alloc ?_ _)); exact BK213.out) hb); have n2_ := Aside0.mk (below_step (by repeat (first | (with_reducible first | exact HB.out | apply below_alloc | apply pw_below_drewN | apply below_drew1 | refine below_set ?_ GE212.out | refine below_set ?_ GE213.out) | exact HB.out)) hb); clear BK212; clear BK213; clear HB; have BK212 := n0_; have BK213 := n1_; have HB := n2_; clear n0_ n1_ n2_; (try clear hb); (try clear hb2); (try clear hk); (try clear hi); have hcz29_0 : w28.cell? ⟨gb213, 0, none⟩ = some (.int .i64 0) := (blk_cell BK213.out 0).trans rfl; have hcz29_1 : w28.cell? ⟨gb213, 1, none⟩ = some (.int .u64 0) := (blk_cell BK213.out 1).trans rfl; have hcz29_2 : w28.cell? ⟨gb213, 2, none⟩ = some (.int .u64 0) := (blk_cell BK213.out 2).trans rfl; have hcz29_3 : w28.cell? ⟨gb213, 3, none⟩ = some (.int .u64 0) := (blk_cell BK213.out 3).trans rfl; have hcz29_4 : w28.cell? ⟨gb213, 4, none⟩ = some (.int .u64 0) := (blk_cell BK213.out 4).trans rfl; have hfz29_0 := blk_frozen BK213.out 0; have hfz29_1 := blk_frozen BK213.out 1; have hfz29_2 := blk_frozen BK213.out 2; have hfz29_3 := blk_frozen BK213.out 3; have hfz29_4 := blk_frozen BK213.out 4))
    refine bodyPost_ret (results_ct rfl _ _ gb213 25 #[.int .i64 0, .int .u64 0, .int .u64 0, .int .u64 0, .int .u64 0] (0, 0) _ rfl (by (with_reducible repeat (first | refine blk_drewN ?_ _ | refine blk_drew ?_ | refine blk_alloc ?_ _)); refine blk_put (cs := #[.int .i64 0, .int .u64 0, .int .u64 0, .int .u64 0, .int .u64 0]) ?_ 4 _ rfl; (with_reducible repeat (first | refine blk_drewN ?_ _ | refine blk_drew ?_ | refine blk_alloc ?_ _)); refine blk_put (cs := #[.int .i64 0, .int .u64 0, .int .u64 0, .int .u64 0, .int .u64 0]) ?_ 3 _ rfl; (with_reducible repeat (first | refine blk_drewN ?_ _ | refine blk_drew ?_ | refine blk_alloc ?_ _)); refine blk_put (cs := #[.int .i64 0, .int .u64 0, .int .u64 0, .int .u64 0, .int .u64 0]) ?_ 2 _ rfl; (with_reducible repeat (first | refine blk_drewN ?_ _ | refine blk_drew ?_ | refine blk_alloc ?_ _)); refine blk_put (cs := #[.int .i64 0, .int .u64 0, .int .u64 0, .int .u64 0, .int .u64 0]) ?_ 1 _ rfl; (with_reducible repeat (first | refine blk_drewN ?_ _ | refine blk_drew ?_ | refine blk_alloc ?_ _)); refine blk_put (cs := #[.int .i64 0, .int .u64 0, .int .u64 0, .int .u64 0, .int .u64 0]) ?_ 0 _ rfl; (with_reducible repeat (first | refine blk_drewN ?_ _ | refine blk_drew ?_ | refine blk_alloc ?_ _)); exact BK213.out) Tryd.underlying25 rfl (by kernel_rfl)) rfl ?_
    exact ⟨by first | rfl | (simp [errW_none, errW_some] <;> rfl) | (simp [*, errW_none, errW_some] <;> rfl), by repeat (first | (with_reducible first | exact HB.out | apply below_alloc | apply pw_below_drewN | apply below_drew1 | refine below_set ?_ GE212.out | refine below_set ?_ GE213.out) | exact HB.out)⟩

end Go.Proofs.YtkailiemikjfbaaDoor.Q
end
section
namespace Go.Proofs.YtkailiemikjfbaaDoor.Q
open Go.RowKit Go.Proofs.YtkailiemikjfbaaDoorW.PrintWords Go.Proofs.YtkailiemikjfbaaDoorW.PrintLast Go.Proofs.YtkailiemikjfbaaDoorW.PrintMore
attribute [local go_sem] max2_int min2_int max_two min_two max_three min_three max_four min_four   -- for this text's walks alone
set_option linter.unusedVariables false
set_option linter.unusedSimpArgs false

/-! ### attestorref08_Absorb: function 32 -/
mutual
def attestorref08_Absorb.l0 : Nat → List Int → Int → Int → Int → Int → Int → Int → Option (Int × Int × Int × Int × Int)
  | 0, _, _, _, _, _, _, _ => none
  | k + 1, x1, x5, x359000, x359001, x359002, x359003, x359004 => if x5 < 4 then (if 0 ≤ x5 then ((attestorref01_Add.f x359000 (rd ([x359001, x359002, x359003, x359004] : List Int) x5) 0).bind fun t361 => (attestorref08_Absorb.l0 k x1 (wrap64 (x5 + 1)) x359000 (updv x359001 0 x5 t361) (updv x359002 1 x5 t361) (updv x359003 2 x5 t361) (updv x359004 3 x5 t361))) else (none)) else (attestorref08_Absorb.l1 k x1 0 x359000 x359001 x359002 x359003 x359004)
def attestorref08_Absorb.l1 : Nat → List Int → Int → Int → Int → Int → Int → Int → Option (Int × Int × Int × Int × Int)
  | 0, _, _, _, _, _, _, _ => none
  | k + 1, x1, x6, x359000, x359001, x359002, x359003, x359004 => if x6 < (x1.length : Int) then (if 0 ≤ x6 then ((attestorref01_Add.f x359000 x359001 (rd x1 x6)).bind fun t363 => ((attestorref01_Add.f x359000 x359002 1).bind fun t364 => ((attestorref06_Perm.f k x359000 t363 t364 x359003 x359004).bind fun bt365 => (attestorref08_Absorb.l1 k x1 (wrap64 (x6 + 1)) x359000 bt365.1 bt365.2.1 bt365.2.2.1 bt365.2.2.2)))) else (none)) else (some (x359000, x359001, x359002, x359003, x359004))
end
def attestorref08_Absorb.f (k : Nat) (a0_0 : Int) (a0_1 : Int) (a0_2 : Int) (a0_3 : Int) (a0_4 : Int) (l1 : List Int) : Option (Int × Int × Int × Int × Int) := (attestorref01_Valid.f a0_0).bind fun t360 => (if t360 = true then (attestorref08_Absorb.l0 k l1 0 a0_0 a0_1 a0_2 a0_3 a0_4) else (some (0, 0, 0, 0, 0)))
theorem attestorref08_Absorb.mono_l : ∀ k, (∀ y0 y1 y2 y3 y4 y5 y6, LeO (attestorref08_Absorb.l0 k y0 y1 y2 y3 y4 y5 y6) (attestorref08_Absorb.l0 (k + 1) y0 y1 y2 y3 y4 y5 y6)) ∧ (∀ y0 y1 y2 y3 y4 y5 y6, LeO (attestorref08_Absorb.l1 k y0 y1 y2 y3 y4 y5 y6) (attestorref08_Absorb.l1 (k + 1) y0 y1 y2 y3 y4 y5 y6))
  | 0 => ⟨fun _ _ _ _ _ _ _ r h => by simp [attestorref08_Absorb.l0] at h, fun _ _ _ _ _ _ _ r h => by simp [attestorref08_Absorb.l1] at h⟩
  | k + 1 => by
    obtain ⟨ih0, ih1⟩ := attestorref08_Absorb.mono_l k
    refine ⟨?_, ?_⟩
    · intro y0 y1 y2 y3 y4 y5 y6
      unfold attestorref08_Absorb.l0
      repeat' first
      | (with_reducible exact ih0 _ _ _ _ _ _ _)
      | (with_reducible exact ih1 _ _ _ _ _ _ _)
      | (with_reducible exact attestorref06_Perm.mono _ _ _ _ _ _)
      | (with_reducible exact LeO.refl _)
      | (with_reducible exact LeO.none _)
      | (with_reducible refine LeO.ite ?_ ?_)
      | (with_reducible refine LeO.bind ?_ (fun _ => ?_))
      | exact ih0 _ _ _ _ _ _ _
      | exact ih1 _ _ _ _ _ _ _
      | exact attestorref06_Perm.mono _ _ _ _ _ _
      | exact LeO.none _
      | refine LeO.ite ?_ ?_
      | refine LeO.bind ?_ (fun _ => ?_)
    · intro y0 y1 y2 y3 y4 y5 y6
      unfold attestorref08_Absorb.l1
      repeat' first
      | (with_reducible exact ih0 _ _ _ _ _ _ _)
      | (with_reducible exact ih1 _ _ _ _ _ _ _)
      | (with_reducible exact attestorref06_Perm.mono _ _ _ _ _ _)
      | (with_reducible exact LeO.refl _)
      | (with_reducible exact LeO.none _)
      | (with_reducible refine LeO.ite ?_ ?_)
      | (with_reducible refine LeO.bind ?_ (fun _ => ?_))
      | exact ih0 _ _ _ _ _ _ _
      | exact ih1 _ _ _ _ _ _ _
      | exact attestorref06_Perm.mono _ _ _ _ _ _
      | exact LeO.none _
      | refine LeO.ite ?_ ?_
      | refine LeO.bind ?_ (fun _ => ?_)
theorem attestorref08_Absorb.mono : ∀ a0 a1 a2 a3 a4 a5 k, LeO (attestorref08_Absorb.f k a0 a1 a2 a3 a4 a5) (attestorref08_Absorb.f (k + 1) a0 a1 a2 a3 a4 a5) := by
  intro a0 a1 a2 a3 a4 a5 k
  obtain ⟨ih0, ih1⟩ := attestorref08_Absorb.mono_l k
  unfold attestorref08_Absorb.f
  repeat' first
      | (with_reducible exact ih0 _ _ _ _ _ _ _)
      | (with_reducible exact ih1 _ _ _ _ _ _ _)
      | (with_reducible exact attestorref06_Perm.mono _ _ _ _ _ _)
      | (with_reducible exact LeO.refl _)
      | (with_reducible exact LeO.none _)
      | (with_reducible refine LeO.ite ?_ ?_)
      | (with_reducible refine LeO.bind ?_ (fun _ => ?_))
      | exact ih0 _ _ _ _ _ _ _
      | exact ih1 _ _ _ _ _ _ _
      | exact attestorref06_Perm.mono _ _ _ _ _ _
      | exact LeO.none _
      | refine LeO.ite ?_ ?_
      | refine LeO.bind ?_ (fun _ => ?_)
def attestorref08_Absorb.T6 : Bool × List (List Nat × List Nat) := (true, [([], []), ([], []), ([1], [1]), ([], []), ([], []), ([4, 3], [3, 4]), ([5], [5]), ([2, 6], [2, 6]), ([], []), ([8, 0, 0, 1, 2, 3, 4, 5, 6, 7], [0, 8]), ([9, 7, 7, 0, 1, 2, 3, 4, 5, 6, 7], [7, 9])])
def attestorref08_Absorb.B6 : List Nat := [0, 0, 2, 0, 0, 24, 56, 126, 0, 511, 1023]
theorem attestorref08_Absorb.tab6 : rtab .any (opsOf Tryd.f32 6) = attestorref08_Absorb.T6 := by kernel_rfl
theorem attestorref08_Absorb.bits6 : waitsOk attestorref08_Absorb.T6.2 attestorref08_Absorb.B6 = true := by kernel_rfl
def attestorref08_Absorb.T10 : Bool × List (List Nat × List Nat) := (true, [([], []), ([0], [0]), ([], []), ([2], [2]), ([3], [3]), ([], []), ([], []), ([5, 6], [5, 6]), ([7], [7]), ([1, 4, 8], [1, 4, 8]), ([], []), ([10, 0, 1, 2, 3, 4, 5, 6, 7, 8, 9], [10]), ([11, 9, 9, 0, 1, 2, 3, 4, 5, 6, 7, 8, 9], [9, 11])])
def attestorref08_Absorb.B10 : List Nat := [0, 1, 0, 4, 12, 0, 0, 96, 224, 511, 0, 2047, 4095]
theorem attestorref08_Absorb.tab10 : rtab .any (opsOf Tryd.f32 10) = attestorref08_Absorb.T10 := by kernel_rfl
theorem attestorref08_Absorb.bits10 : waitsOk attestorref08_Absorb.T10.2 attestorref08_Absorb.B10 = true := by kernel_rfl
set_option maxHeartbeats 8000000 in
set_option maxRecDepth 100000 in
theorem attestorref08_Absorb.calls (k : Nat) (a0_0 : Int) (a0_1 : Int) (a0_2 : Int) (a0_3 : Int) (a0_4 : Int) (A1 : Option Addr) (c1 : Nat) (l1 : List Int) (r1 : Int) (r2 : Int) (r3 : Int) (r4 : Int) (r5 : Int) (w : World) (hr1 : Kd.C (Kd.int .u64) w A1 l1.length l1) (hc1 : l1.length ≤ c1) (h : attestorref08_Absorb.f k a0_0 a0_1 a0_2 a0_3 a0_4 l1 = some (r1, r2, r3, r4, r5)) :
    Calls Tryd.prog 32 #[.agg #[.int .i64 a0_0, .int .u64 a0_1, .int .u64 a0_2, .int .u64 a0_3, .int .u64 a0_4], .slice A1 l1.length c1] w fun e w' => e = .returned (.agg #[.int .i64 r1, .int .u64 r2, .int .u64 r3, .int .u64 r4, .int .u64 r5]) ∧ Below w.heap.size w w' := by
  have hu25 := Tryd.underlying25
  have hu23 := Tryd.underlying23
  have HR1 := Aside0.mk hr1
  have HC1 := Aside0.mk hc1
  clear hr1 hc1
  have HB := Aside0.mk (Below.refl w.heap.size w)
  have H : ((attestorref01_Valid.f a0_0).bind fun t360 => (if t360 = true then (attestorref08_Absorb.l0 k l1 0 a0_0 a0_1 a0_2 a0_3 a0_4) else (some (0, 0, 0, 0, 0)))) = some (r1, r2, r3, r4, r5) := h
  clear h
  replace H := Option.bind_eq_some_iff.mp H
  obtain ⟨t360, A30, H⟩ := H
  replace H : (if t360 = true then (attestorref08_Absorb.l0 k l1 0 a0_0 a0_1 a0_2 a0_3 a0_4) else (some (0, 0, 0, 0, 0))) = some (r1, r2, r3, r4, r5) := H
  have A3 := Aside0.mk A30
  clear A30
  by_cases c4 : t360 = true
  · subst c4
    have H1 : (attestorref08_Absorb.l0 k l1 0 a0_0 a0_1 a0_2 a0_3 a0_4) = some (r1, r2, r3, r4, r5) := by rw [if_pos rfl] at H; exact H
    clear H
    have H := H1
    clear H1
    have H' := Aside0.mk H
    clear H
    go_enter Tryd.func32, Tryd.ntmps32
    go_wp2_with (first | ((with_reducible refine gate_dst (N := 2) rfl ?_); refine box_event ?hg (N := 2) ?hd (cs := #[.int .i64 a0_0, .int .u64 a0_1, .int .u64 a0_2, .int .u64 a0_3, .int .u64 a0_4]) (t := 25) ?hr ?_; (case hd => rfl); (case hg => rfl); (case hr => first | (go_simp; done) | (go_simp; rfl)); intro gb358 hg w5 hbox hb; have n0_ := Aside0.mk (below_step (by repeat (first | (with_reducible first | exact HB.out | apply below_alloc | apply pw_below_drewN | apply below_drew1) | exact HB.out)) hb); have n1_ := Aside0.mk (hbox); have n2_ := Aside0.mk ((by rw [hg]; exact (below_size (by repeat (first | (with_reducible first | exact HB.out | apply below_alloc | apply pw_below_drewN | apply below_drew1) | exact HB.out))) : w.heap.size ≤ gb358)); have n3_ := Aside0.mk ((by rw [hg]; exact (below_size (by repeat (first | (with_reducible first | exact HB.out | apply below_alloc | apply pw_below_drewN | apply below_drew1) | exact HB.out))) : w.heap.size ≤ gb358)); clear HB; have HB := n0_; have BK358 := n1_; have GW358 := n2_; have GE358 := n3_; clear n0_ n1_ n2_ n3_; clear hb hbox hg) | ((with_reducible refine gate_dst (N := 4) rfl ?_); refine box_event ?hg (N := 4) ?hd (cs := #[.int .i64 0, .int .u64 0, .int .u64 0, .int .u64 0, .int .u64 0]) (t := 25) ?hr ?_; (case hd => rfl); (case hg => rfl); (case hr => first | (go_simp; done) | (go_simp; rfl)); intro gb359 hg w6 hbox hb; have n0_ := Aside0.mk (blk_below (g := gb358) (o := .cells #[.int .i64 a0_0, .int .u64 a0_1, .int .u64 a0_2, .int .u64 a0_3, .int .u64 a0_4] 25 (0, 0)) (by (with_reducible repeat (first | refine blk_drewN ?_ _ | refine blk_drew ?_ | refine blk_alloc ?_ _)); exact BK358.out) hb); have n1_ := Aside0.mk (below_step (by repeat (first | (with_reducible first | exact HB.out | apply below_alloc | apply pw_below_drewN | apply below_drew1 | refine below_set ?_ GE358.out) | exact HB.out)) hb); have n2_ := Aside0.mk (hbox); have n3_ := Aside0.mk ((by rw [hg]; exact (below_size (by repeat (first | (with_reducible first | exact HB.out | apply below_alloc | apply pw_below_drewN | apply below_drew1 | refine below_set ?_ GE358.out) | exact HB.out))) : w.heap.size ≤ gb359)); have n4_ := Aside0.mk ((by rw [hg]; exact (below_size (by repeat (first | (with_reducible first | exact HB.out | apply below_alloc | apply pw_below_drewN | apply below_drew1 | refine below_set ?_ GE358.out) | exact HB.out))) : w.heap.size ≤ gb359)); have n5_ := Aside0.mk ((by rw [hg]; exact Nat.ne_of_lt (blk_lt (g := gb358) (o := .cells #[.int .i64 a0_0, .int .u64 a0_1, .int .u64 a0_2, .int .u64 a0_3, .int .u64 a0_4] 25 (0, 0)) (by (with_reducible repeat (first | refine blk_drewN ?_ _ | refine blk_drew ?_ | refine blk_alloc ?_ _)); exact BK358.out)) : gb358 ≠ gb359)); have n6_ := Aside0.mk ((by rw [hg]; exact Nat.ne_of_gt (blk_lt (g := gb358) (o := .cells #[.int .i64 a0_0, .int .u64 a0_1, .int .u64 a0_2, .int .u64 a0_3, .int .u64 a0_4] 25 (0, 0)) (by (with_reducible repeat (first | refine blk_drewN ?_ _ | refine blk_drew ?_ | refine blk_alloc ?_ _)); exact BK358.out)) : gb359 ≠ gb358)); clear BK358; clear HB; have BK358 := n0_; have HB := n1_; have BK359 := n2_; have GW359 := n3_; have GE359 := n4_; have NB358_359 := n5_; have NB359_358 := n6_; clear n0_ n1_ n2_ n3_ n4_ n5_ n6_; clear hb hbox hg; have hnb7 := NB358_359.out; have hnc7 := NB359_358.out; have hcz8_0 : w6.cell? ⟨gb358, 0, none⟩ = some (.int .i64 a0_0) := (blk_cell BK358.out 0).trans rfl; have hcz8_1 : w6.cell? ⟨gb358, 1, none⟩ = some (.int .u64 a0_1) := (blk_cell BK358.out 1).trans rfl; have hcz8_2 : w6.cell? ⟨gb358, 2, none⟩ = some (.int .u64 a0_2) := (blk_cell BK358.out 2).trans rfl; have hcz8_3 : w6.cell? ⟨gb358, 3, none⟩ = some (.int .u64 a0_3) := (blk_cell BK358.out 3).trans rfl; have hcz8_4 : w6.cell? ⟨gb358, 4, none⟩ = some (.int .u64 a0_4) := (blk_cell BK358.out 4).trans rfl; have hfz8_0 := blk_frozen BK358.out 0; have hfz8_1 := blk_frozen BK358.out 1; have hfz8_2 := blk_frozen BK358.out 2; have hfz8_3 := blk_frozen BK358.out 3; have hfz8_4 := blk_frozen BK358.out 4) | ((with_reducible refine gate_callee (f := 27) rfl ?_); refine goesL_ (some 9) rfl rfl Tryd.func27 (by kernel_rfl) rfl #[.int .i64 a0_0] rfl (by (try simp only [List.map_toArray, List.map_cons, List.map_nil]); first | done | rfl | (simp only [List.length_drop, List.length_take]; rfl) | (go_simp; done) | (go_simp; rw [Int.tmod_eq_emod_of_nonneg (by omega)]; omega)) ?_; (with_reducible refine (attestorref01_Valid.calls a0_0 true _ A3.out).mono ?_); rintro e w' ⟨rfl, ⟨nd, rfl⟩⟩; refine ⟨_, rfl, ?_⟩))
    go_loopg [5] k (fun kq v5 w' => ∃ (x5_1 : Int) (x359001_1 : Int) (x359002_1 : Int) (x359003_1 : Int) (x359004_1 : Int), v5 = .int .i64 x5_1 ∧ Aside0 (attestorref08_Absorb.l0 kq l1 x5_1 a0_0 x359001_1 x359002_1 x359003_1 x359004_1 = some (r1, r2, r3, r4, r5)) ∧ Aside0 (kq ≤ k) ∧ Aside0 (w'.heap[gb358]? = some (.cells #[.int .i64 a0_0, .int .u64 x359001_1, .int .u64 x359002_1, .int .u64 x359003_1, .int .u64 x359004_1] 25 (0, 0))) ∧ Aside0 (w'.heap[gb359]? = some (.cells #[.int .i64 0, .int .u64 0, .int .u64 0, .int .u64 0, .int .u64 0] 25 (0, 0))) ∧ Aside0 (Below w.heap.size w w'))
    case atStart => exact ⟨(0), (a0_1), (a0_2), (a0_3), (a0_4), (by first | rfl | (simp; done) | (simp [*]; done) | (simp; rfl) | (simp; decide +kernel)), H', ⟨Nat.le_refl _⟩, ⟨by (with_reducible repeat (first | refine blk_drewN ?_ _ | refine blk_drew ?_ | refine blk_alloc ?_ _)); exact BK358.out⟩, ⟨by (with_reducible repeat (first | refine blk_drewN ?_ _ | refine blk_drew ?_ | refine blk_alloc ?_ _)); exact BK359.out⟩, ⟨by repeat (first | (with_reducible first | exact HB.out | apply below_alloc | apply pw_below_drewN | apply below_drew1 | refine below_set ?_ GE358.out | refine below_set ?_ GE359.out) | exact HB.out)⟩⟩
    case round =>
      clear H'
      try clear c1
      try clear c2
      try clear p2
      try clear c3
      try clear c4
      try clear c7
      try clear hcz8_0
      try clear hcz8_1
      try clear hcz8_2
      try clear hcz8_3
      try clear hcz8_4
      try clear hfz8_0
      try clear hfz8_1
      try clear hfz8_2
      try clear hfz8_3
      try clear hfz8_4
      obtain ⟨x5_1, x359001_1, x359002_1, x359003_1, x359004_1, rfl, HA, HK1, BK358, BK359, HB⟩ := hrel
      cases gk with
      | zero => exact absurd HA.out (by simp [attestorref08_Absorb.l0])
      | succ k1 =>
        have H := HA.out
        clear HA
        simp only [attestorref08_Absorb.l0] at H
        by_cases c9 : x5_1 < 4
        · rw [if_pos c9] at H
          have c9b0 : decide (x5_1 < 4) = true := decide_eq_true c9
          clear c9
          by_cases c10 : 0 ≤ x5_1
          · rw [if_pos c10] at H
            have c10b0 := eq_true c10
            have c10b1 : decide (0 ≤ x5_1) = true := decide_eq_true c10
            clear c10
            replace H := Option.bind_eq_some_iff.mp H
            obtain ⟨t361, A110, H⟩ := H
            replace H : (attestorref08_Absorb.l0 k1 l1 (wrap64 (x5_1 + 1)) a0_0 (updv x359001_1 0 x5_1 t361) (updv x359002_1 1 x5_1 t361) (updv x359003_1 2 x5_1 t361) (updv x359004_1 3 x5_1 t361)) = some (r1, r2, r3, r4, r5) := H
            have A11 := Aside0.mk A110
            clear A110
            have H' := Aside0.mk H
            clear H
            try go_wp2
            have n0_ := Aside0.mk (blk_drew BK358.out)
            have n1_ := Aside0.mk (blk_drew BK359.out)
            have n2_ := Aside0.mk (below_drew1 HB.out)
            clear BK358
            clear BK359
            clear HB
            have BK358 := n0_
            have BK359 := n1_
            have HB := n2_
            clear n0_ n1_ n2_
            have hlt13 : (x5_1 < 4) = True := eq_true (of_decide_eq_true (by first | (with_reducible assumption) | assumption))
            have hge14 : (0 ≤ x5_1) = True := eq_true (of_decide_eq_true (by first | (with_reducible assumption) | assumption))
            have hlt17 : (x5_1 < 4) = True := eq_true (of_decide_eq_true (by first | (with_reducible assumption) | assumption))
            have hge18 : (0 ≤ x5_1) = True := eq_true (of_decide_eq_true (by first | (with_reducible assumption) | assumption))
            refine start_ (n := 11) (S := fun w' => w'.cell? ⟨gb358, 0, none⟩ = some (.int .i64 a0_0) ∧ w'.cell? ⟨gb358, 1, none⟩ = some (.int .u64 x359001_1) ∧ w'.cell? ⟨gb358, 2, none⟩ = some (.int .u64 x359002_1) ∧ w'.cell? ⟨gb358, 3, none⟩ = some (.int .u64 x359003_1) ∧ w'.cell? ⟨gb358, 4, none⟩ = some (.int .u64 x359004_1) ∧ w'.cell? ⟨gb358, 1 + (x5_1).toNat, none⟩ = some (.int .u64 (rd ([x359001_1, x359002_1, x359003_1, x359004_1] : List Int) x5_1))) (ds := [10]) #[false, false, false, false, false, false, false, false, false, false, false] (by kernel_rfl) rfl rfl ⟨(blk_cell BK358.out 0).trans rfl, (blk_cell BK358.out 1).trans rfl, (blk_cell BK358.out 2).trans rfl, (blk_cell BK358.out 3).trans rfl, (blk_cell BK358.out 4).trans rfl, (sel_at (pre := [.int .i64 a0_0]) (l := ([x359001_1, x359002_1, x359003_1, x359004_1] : List Int)) (post := []) BK358.out rfl (by simp) (of_decide_eq_true (by first | (with_reducible assumption) | assumption)) (of_decide_eq_true (by first | (with_reducible assumption) | assumption)))⟩ (fun hHeld => ?_); refine with_tabW attestorref08_Absorb.tab6 attestorref08_Absorb.bits6 (fun HT_ HW_ => ?_)
            generalize wr.drew = w12 at BK358 BK359 HB hHeld ⊢
            refine pure_ (i := 0) (N := some 16) (v := ?_) (a' := ?_) #[true, false, false, false, false, false, false, false, false, false, false] rfl rfl (any_of HT_.out (by kernel_rfl)) (fun _ _ _ h => h) (Or.inl ⟨by rfl, ?_⟩) ?_ ?_
            rotate_left
            · intro w'
              go_simp
              with_reducible rfl
            rotate_left
            · simp only [Act.put, List.setIfInBounds_toArray, List.set_cons_zero, List.set_cons_succ, i64_w, i32_w]
              rfl
            refine pure_ (i := 1) (N := some 17) (v := ?_) (a' := ?_) #[true, true, false, false, false, false, false, false, false, false, false] rfl rfl (any_of HT_.out (by kernel_rfl)) (fun _ _ _ h => h) (Or.inl ⟨by rfl, ?_⟩) ?_ ?_
            rotate_left
            · intro w'
              go_simp
              with_reducible rfl
            rotate_left
            · simp only [Act.put, List.setIfInBounds_toArray, List.set_cons_zero, List.set_cons_succ, i64_w, i32_w]
              rfl
            refine pure_ (i := 3) (N := some 19) (v := ?_) (a' := ?_) #[true, true, false, true, false, false, false, false, false, false, false] rfl rfl (any_of HT_.out (by kernel_rfl)) (fun _ _ _ h => h) (Or.inl ⟨by rfl, ?_⟩) ?_ ?_
            rotate_left
            · intro w'
              go_simp
              with_reducible rfl
            rotate_left
            · simp only [Act.put, List.setIfInBounds_toArray, List.set_cons_zero, List.set_cons_succ, i64_w, i32_w]
              rfl
            refine pure_ (i := 4) (N := some 20) (v := ?_) (a' := ?_) #[true, true, false, true, true, false, false, false, false, false, false] rfl rfl (any_of HT_.out (by kernel_rfl)) (fun _ _ _ h => h) (Or.inl ⟨by rfl, ?_⟩) ?_ ?_
            rotate_left
            · intro w'
              go_simp
              with_reducible rfl
            rotate_left
            · simp only [Act.put, List.setIfInBounds_toArray, List.set_cons_zero, List.set_cons_succ, i64_w, i32_w]
              rfl
            refine pure_ (i := 5) (N := some 21) (v := ?_) (a' := ?_) #[true, true, false, true, true, true, false, false, false, false, false] rfl rfl (any_of HT_.out (by kernel_rfl)) (fun _ _ _ h => h) (Or.inl ⟨by rfl, ?_⟩) ?_ ?_
            rotate_left
            · intro w'
              go_simp
              with_reducible rfl
            rotate_left
            · simp only [Act.put, List.setIfInBounds_toArray, List.set_cons_zero, List.set_cons_succ, i64_w, i32_w]
              rfl
            refine pure_ (i := 8) (N := some 24) (v := ?_) (a' := ?_) #[true, true, false, true, true, true, false, false, true, false, false] rfl rfl (any_of HT_.out (by kernel_rfl)) (fun _ _ _ h => h) (Or.inl ⟨by rfl, ?_⟩) ?_ ?_
            rotate_left
            · intro w'
              go_simp
              with_reducible rfl
            rotate_left
            · simp only [Act.put, List.setIfInBounds_toArray, List.set_cons_zero, List.set_cons_succ, i64_w, i32_w]
              rfl
            refine take_ (i := 2) (N := some 18) (v := ?_) (a' := ?_) #[true, true, true, true, true, true, false, false, true, false, false] rfl rfl (take_ofW HT_.out HW_.out (by kernel_rfl)) (fun _ _ _ h => h) (Or.inl ⟨by rfl, ?_⟩) hHeld ?_ ?_
            rotate_left
            · rintro w' ⟨s0, s1, s2, s3, s4, s5⟩
              go_simp
              with_reducible rfl
            rotate_left
            · simp only [Act.put, List.setIfInBounds_toArray, List.set_cons_zero, List.set_cons_succ, i64_w, i32_w]
              rfl
            refine take_ (i := 6) (N := some 22) (v := ?_) (a' := ?_) #[true, true, true, true, true, true, true, false, true, false, false] rfl rfl (take_ofW HT_.out HW_.out (by kernel_rfl)) (fun _ _ _ h => h) (Or.inl ⟨by rfl, ?_⟩) hHeld ?_ ?_
            rotate_left
            · rintro w' ⟨s0, s1, s2, s3, s4, s5⟩
              go_simp
              with_reducible rfl
            rotate_left
            · simp only [Act.put, List.setIfInBounds_toArray, List.set_cons_zero, List.set_cons_succ, i64_w, i32_w]
              rfl
            refine one_ (i := 7) (N := some 23) #[true, true, true, true, true, true, true, true, true, false, false] rfl rfl (one_of HT_.out (by kernel_rfl)) (by decide) (fun K hK => ?_)
            refine goes_ Tryd.func28 (by kernel_rfl) rfl #[.int .i64 a0_0, .int .u64 (rd ([x359001_1, x359002_1, x359003_1, x359004_1] : List Int) x5_1), .int .u64 0] (by rfl) rfl rfl (by (try simp only [List.map_toArray, List.map_cons, List.map_nil]); first | done | rfl | (simp only [List.length_drop, List.length_take]; rfl) | (go_simp; done) | (go_simp; rw [Int.tmod_eq_emod_of_nonneg (by omega)]; omega)) ?_
            with_reducible refine (attestorref01_Add.calls a0_0 (rd ([x359001_1, x359002_1, x359003_1, x359004_1] : List Int) x5_1) 0 t361 _ A11.out).mono ?_
            rintro e w' ⟨rfl, ⟨nd, rfl⟩⟩
            refine ⟨_, rfl, ?_⟩
            (try (rw [drewN_self w12]; generalize hq_ : World.drewN w12 _ = w12; have n0_ := Aside0.mk (blk_at hq_ BK358.out); have n1_ := Aside0.mk (blk_at hq_ BK359.out); have n2_ := Aside0.mk (below_at hq_ HB.out); clear hq_ BK358 BK359 HB; have BK358 := n0_; have BK359 := n1_; have HB := n2_; clear n0_ n1_ n2_))
            refine hK.out _ _ ⟨(blk_cell BK358.out 0).trans rfl, (blk_cell BK358.out 1).trans rfl, (blk_cell BK358.out 2).trans rfl, (blk_cell BK358.out 3).trans rfl, (blk_cell BK358.out 4).trans rfl, (sel_at (pre := [.int .i64 a0_0]) (l := ([x359001_1, x359002_1, x359003_1, x359004_1] : List Int)) (post := []) BK358.out rfl (by simp) (of_decide_eq_true (by first | (with_reducible assumption) | assumption)) (of_decide_eq_true (by first | (with_reducible assumption) | assumption)))⟩ (fun hHeld => ?_)
            clear hK K
            refine norm_ (a' := ?_) ?_ ?_
            rotate_left
            · show Act.put _ (some 23) _ = _
              simp only [Act.put, List.setIfInBounds_toArray, List.set_cons_zero, List.set_cons_succ, i64_w, i32_w]
              rfl
            refine pure_ (i := 9) (N := some 25) (v := ?_) (a' := ?_) #[true, true, true, true, true, true, true, true, true, true, false] rfl rfl (any_of HT_.out (by kernel_rfl)) (fun _ _ _ h => h) (Or.inl ⟨by rfl, ?_⟩) ?_ ?_
            rotate_left
            · intro w'
              go_simp
              with_reducible rfl
            rotate_left
            · simp only [Act.put, List.setIfInBounds_toArray, List.set_cons_zero, List.set_cons_succ, i64_w, i32_w]
              rfl
            refine last_ (i := 10) (N := none) #[true, true, true, true, true, true, true, true, true, true, true] rfl rfl (one_of HT_.out (by kernel_rfl)) (by decide) (fun K hK => ?_)
            have hsv15 : w12.cell? ⟨gb358, 1 + (x5_1).toNat, none⟩ = some (.int .u64 (rd ([x359001_1, x359002_1, x359003_1, x359004_1] : List Int) x5_1)) := (sel_at (pre := [.int .i64 a0_0]) (l := ([x359001_1, x359002_1, x359003_1, x359004_1] : List Int)) (post := []) BK358.out rfl (by simp) (of_decide_eq_true (by first | (with_reducible assumption) | assumption)) (of_decide_eq_true (by first | (with_reducible assumption) | assumption)))
            have hfv16 := blk_frozen BK358.out (1 + (x5_1).toNat)
            have hns19_1 := NB359_358.out
            have hms19_1 := NB358_359.out
            refine skip_ (w1 := ?_) (by rfl) rfl ?_ ?_
            rotate_left
            · go_simp
              rfl
            refine hK.out _ _ ?_
            clear hK K
            refine done_ (done_of HT_.out (by kernel_rfl)) ?_
            try go_wp2
            go_roundg k1
            case measure => have := HK1.out; omega
            case rel => exact ⟨(wrap64 (x5_1 + 1)), ((updv x359001_1 0 x5_1 t361)), ((updv x359002_1 1 x5_1 t361)), ((updv x359003_1 2 x5_1 t361)), ((updv x359004_1 3 x5_1 t361)), (by first | rfl | (simp; done) | (simp [*]; done) | (simp; rfl) | (simp; decide +kernel)), H', ⟨by have := HK1.out; omega⟩, ⟨by (with_reducible repeat (first | refine blk_drewN ?_ _ | refine blk_drew ?_ | refine blk_alloc ?_ _)); refine sel_put (pre := [.int .i64 a0_0]) (l := ([x359001_1, x359002_1, x359003_1, x359004_1] : List Int)) (post := []) ?_ rfl rfl (by simp) (of_decide_eq_true (by first | (with_reducible assumption) | assumption)) (of_decide_eq_true (by first | (with_reducible assumption) | assumption)); (with_reducible repeat (first | refine blk_drewN ?_ _ | refine blk_drew ?_ | refine blk_alloc ?_ _)); exact BK358.out⟩, ⟨by (with_reducible repeat (first | refine blk_drewN ?_ _ | refine blk_drew ?_ | refine blk_alloc ?_ _)); refine blk_far ?_ NB359_358.out _; (with_reducible repeat (first | refine blk_drewN ?_ _ | refine blk_drew ?_ | refine blk_alloc ?_ _)); exact BK359.out⟩, ⟨by repeat (first | (with_reducible first | exact HB.out | apply below_alloc | apply pw_below_drewN | apply below_drew1 | refine below_set ?_ GE358.out | refine below_set ?_ GE359.out) | exact HB.out)⟩⟩
          · rw [if_neg c10] at H
            exact absurd H (by simp)
        · rw [if_neg c9] at H
          have c9b0 : decide (x5_1 < 4) = false := decide_eq_false c9
          clear c9
          have H' := Aside0.mk H
          clear H
          go_wp2
          go_loopg [6] k1 (fun kq v6 w' => ∃ (x6_2 : Int) (x359001_2 : Int) (x359002_2 : Int) (x359003_2 : Int) (x359004_2 : Int), v6 = .int .i64 x6_2 ∧ Aside0 (attestorref08_Absorb.l1 kq l1 x6_2 a0_0 x359001_2 x359002_2 x359003_2 x359004_2 = some (r1, r2, r3, r4, r5)) ∧ Aside0 (kq ≤ k1) ∧ Aside0 (w'.heap[gb358]? = some (.cells #[.int .i64 a0_0, .int .u64 x359001_2, .int .u64 x359002_2, .int .u64 x359003_2, .int .u64 x359004_2] 25 (0, 0))) ∧ Aside0 (w'.heap[gb359]? = some (.cells #[.int .i64 0, .int .u64 0, .int .u64 0, .int .u64 0, .int .u64 0] 25 (0, 0))) ∧ Aside0 (Below w.heap.size w w'))
          case atStart => exact ⟨(0), (x359001_1), (x359002_1), (x359003_1), (x359004_1), (by first | rfl | (simp; done) | (simp [*]; done) | (simp; rfl) | (simp; decide +kernel)), H', ⟨Nat.le_refl _⟩, ⟨by (with_reducible repeat (first | refine blk_drewN ?_ _ | refine blk_drew ?_ | refine blk_alloc ?_ _)); exact BK358.out⟩, ⟨by (with_reducible repeat (first | refine blk_drewN ?_ _ | refine blk_drew ?_ | refine blk_alloc ?_ _)); exact BK359.out⟩, ⟨by repeat (first | (with_reducible first | exact HB.out | apply below_alloc | apply pw_below_drewN | apply below_drew1 | refine below_set ?_ GE358.out | refine below_set ?_ GE359.out) | exact HB.out)⟩⟩
          case round =>
            clear H'
            try clear c1
            try clear c2
            try clear p2
            try clear c3
            try clear c4
            try clear p6
            try clear c7
            try clear c9
            try clear c9b0
            try clear c10
            try clear c10b0
            try clear c10b1
            try clear hcz8_0
            try clear hcz8_1
            try clear hcz8_2
            try clear hcz8_3
            try clear hcz8_4
            try clear hfz8_0
            try clear hfz8_1
            try clear hfz8_2
            try clear hfz8_3
            try clear hfz8_4
            try clear p2
            obtain ⟨x6_2, x359001_2, x359002_2, x359003_2, x359004_2, rfl, HA, HK2, BK358, BK359, HB⟩ := hrel
            cases gk with
            | zero => exact absurd HA.out (by simp [attestorref08_Absorb.l1])
            | succ k2 =>
              have H := HA.out
              clear HA
              simp only [attestorref08_Absorb.l1] at H
              by_cases c20 : x6_2 < (l1.length : Int)
              · rw [if_pos c20] at H
                have c20b0 : decide (x6_2 < (l1.length : Int)) = true := decide_eq_true c20
                clear c20
                by_cases c21 : 0 ≤ x6_2
                · rw [if_pos c21] at H
                  have c21b0 : decide (0 ≤ x6_2) = true := decide_eq_true c21
                  clear c21
                  replace H := Option.bind_eq_some_iff.mp H
                  obtain ⟨t363, A220, H⟩ := H
                  replace H : ((attestorref01_Add.f a0_0 x359002_2 1).bind fun t364 => ((attestorref06_Perm.f k2 a0_0 t363 t364 x359003_2 x359004_2).bind fun bt365 => (attestorref08_Absorb.l1 k2 l1 (wrap64 (x6_2 + 1)) a0_0 bt365.1 bt365.2.1 bt365.2.2.1 bt365.2.2.2))) = some (r1, r2, r3, r4, r5) := H
                  have A22 := Aside0.mk A220
                  clear A220
                  replace H := Option.bind_eq_some_iff.mp H
                  obtain ⟨t364, A230, H⟩ := H
                  replace H : ((attestorref06_Perm.f k2 a0_0 t363 t364 x359003_2 x359004_2).bind fun bt365 => (attestorref08_Absorb.l1 k2 l1 (wrap64 (x6_2 + 1)) a0_0 bt365.1 bt365.2.1 bt365.2.2.1 bt365.2.2.2)) = some (r1, r2, r3, r4, r5) := H
                  have A23 := Aside0.mk A230
                  clear A230
                  replace H := Option.bind_eq_some_iff.mp H
                  obtain ⟨⟨t365, t366, t367, t368⟩, A240, H⟩ := H
                  replace H : (attestorref08_Absorb.l1 k2 l1 (wrap64 (x6_2 + 1)) a0_0 t365 t366 t367 t368) = some (r1, r2, r3, r4, r5) := H
                  have A24 := Aside0.mk A240
                  clear A240
                  have H' := Aside0.mk H
                  clear H
                  try go_wp2
                  have n0_ := Aside0.mk (blk_drew BK358.out)
                  have n1_ := Aside0.mk (blk_drew BK359.out)
                  have n2_ := Aside0.mk (below_drew1 HB.out)
                  clear BK358
                  clear BK359
                  clear HB
                  have BK358 := n0_
                  have BK359 := n1_
                  have HB := n2_
                  clear n0_ n1_ n2_
                  have p362 : 0 ≤ (x6_2 : Int) := of_decide_eq_true (by first | (with_reducible assumption) | assumption)
                  have q362 : x6_2 < (l1.length : Int) := of_decide_eq_true (by first | (with_reducible assumption) | assumption)
                  obtain ⟨ad362, e362, hx362_0⟩ := Kd.at_int HR1.out x6_2 p362 q362
                  have hw362_0 := hx362_0
                  cases e362
                  replace hx362_0 := (HB.out.cell (World.block_lt_of_cell? w _ hx362_0)).trans hx362_0
                  replace p362 := eq_true p362
                  replace q362 := eq_true q362
                  refine start_ (n := 13) (S := fun w' => w'.cell? ⟨gb358, 0, none⟩ = some (.int .i64 a0_0) ∧ w'.cell? ⟨gb358, 1, none⟩ = some (.int .u64 x359001_2) ∧ w'.cell? ⟨gb358, 2, none⟩ = some (.int .u64 x359002_2) ∧ w'.cell? ⟨gb358, 3, none⟩ = some (.int .u64 x359003_2) ∧ w'.cell? ⟨gb358, 4, none⟩ = some (.int .u64 x359004_2) ∧ w'.cell? (ad362.add (x6_2).toNat) = some (.int .u64 (rd l1 x6_2))) (ds := [12]) #[false, false, false, false, false, false, false, false, false, false, false, false, false] (by kernel_rfl) rfl rfl ⟨(blk_cell BK358.out 0).trans rfl, (blk_cell BK358.out 1).trans rfl, (blk_cell BK358.out 2).trans rfl, (blk_cell BK358.out 3).trans rfl, (blk_cell BK358.out 4).trans rfl, ((HB.out.cell (World.block_lt_of_cell? w _ hw362_0)).trans hw362_0)⟩ (fun hHeld => ?_); refine with_tabW attestorref08_Absorb.tab10 attestorref08_Absorb.bits10 (fun HT_ HW_ => ?_)
                  generalize wr.drew = w25 at BK358 BK359 HB hx362_0 hHeld ⊢
                  refine pure_ (i := 0) (N := some 32) (v := ?_) (a' := ?_) #[true, false, false, false, false, false, false, false, false, false, false, false, false] rfl rfl (any_of HT_.out (by kernel_rfl)) (fun _ _ _ h => h) (Or.inl ⟨by rfl, ?_⟩) ?_ ?_
                  rotate_left
                  · intro w'
                    go_simp
                    with_reducible rfl
                  rotate_left
                  · simp only [Act.put, List.setIfInBounds_toArray, List.set_cons_zero, List.set_cons_succ, i64_w, i32_w]
                    rfl
                  refine pure_ (i := 2) (N := some 34) (v := ?_) (a' := ?_) #[true, false, true, false, false, false, false, false, false, false, false, false, false] rfl rfl (any_of HT_.out (by kernel_rfl)) (fun _ _ _ h => h) (Or.inl ⟨by rfl, ?_⟩) ?_ ?_
                  rotate_left
                  · intro w'
                    go_simp
                    with_reducible rfl
                  rotate_left
                  · simp only [Act.put, List.setIfInBounds_toArray, List.set_cons_zero, List.set_cons_succ, i64_w, i32_w]
                    rfl
                  refine pure_ (i := 3) (N := some 35) (v := ?_) (a' := ?_) #[true, false, true, true, false, false, false, false, false, false, false, false, false] rfl rfl (any_of HT_.out (by kernel_rfl)) (fun _ _ _ h => h) (Or.inl ⟨by rfl, ?_⟩) ?_ ?_
                  rotate_left
                  · intro w'
                    go_simp
                    with_reducible rfl
                  rotate_left
                  · simp only [Act.put, List.setIfInBounds_toArray, List.set_cons_zero, List.set_cons_succ, i64_w, i32_w]
                    rfl
                  refine pure_ (i := 5) (N := some 37) (v := ?_) (a' := ?_) #[true, false, true, true, false, true, false, false, false, false, false, false, false] rfl rfl (any_of HT_.out (by kernel_rfl)) (fun _ _ _ h => h) (Or.inl ⟨by rfl, ?_⟩) ?_ ?_
                  rotate_left
                  · intro w'
                    go_simp
                    with_reducible rfl
                  rotate_left
                  · simp only [Act.put, List.setIfInBounds_toArray, List.set_cons_zero, List.set_cons_succ, i64_w, i32_w]
                    rfl
                  refine pure_ (i := 6) (N := some 38) (v := ?_) (a' := ?_) #[true, false, true, true, false, true, true, false, false, false, false, false, false] rfl rfl (any_of HT_.out (by kernel_rfl)) (fun _ _ _ h => h) (Or.inl ⟨by rfl, ?_⟩) ?_ ?_
                  rotate_left
                  · intro w'
                    go_simp
                    with_reducible rfl
                  rotate_left
                  · simp only [Act.put, List.setIfInBounds_toArray, List.set_cons_zero, List.set_cons_succ, i64_w, i32_w]
                    rfl
                  refine pure_ (i := 7) (N := some 39) (v := ?_) (a' := ?_) #[true, false, true, true, false, true, true, true, false, false, false, false, false] rfl rfl (any_of HT_.out (by kernel_rfl)) (fun _ _ _ h => h) (Or.inl ⟨by rfl, ?_⟩) ?_ ?_
                  rotate_left
                  · intro w'
                    go_simp
                    with_reducible rfl
                  rotate_left
                  · simp only [Act.put, List.setIfInBounds_toArray, List.set_cons_zero, List.set_cons_succ, i64_w, i32_w]
                    rfl
                  refine pure_ (i := 10) (N := some 42) (v := ?_) (a' := ?_) #[true, false, true, true, false, true, true, true, false, false, true, false, false] rfl rfl (any_of HT_.out (by kernel_rfl)) (fun _ _ _ h => h) (Or.inl ⟨by rfl, ?_⟩) ?_ ?_
                  rotate_left
                  · intro w'
                    go_simp
                    with_reducible rfl
                  rotate_left
                  · simp only [Act.put, List.setIfInBounds_toArray, List.set_cons_zero, List.set_cons_succ, i64_w, i32_w]
                    rfl
                  refine take_ (i := 1) (N := some 33) (v := ?_) (a' := ?_) #[true, true, true, true, false, true, true, true, false, false, true, false, false] rfl rfl (take_ofW HT_.out HW_.out (by kernel_rfl)) (fun _ _ _ h => h) (Or.inl ⟨by rfl, ?_⟩) hHeld ?_ ?_
                  rotate_left
                  · rintro w' ⟨s0, s1, s2, s3, s4, s5⟩
                    go_simp
                    with_reducible rfl
                  rotate_left
                  · simp only [Act.put, List.setIfInBounds_toArray, List.set_cons_zero, List.set_cons_succ, i64_w, i32_w]
                    rfl
                  refine take_ (i := 4) (N := some 36) (v := ?_) (a' := ?_) #[true, true, true, true, true, true, true, true, false, false, true, false, false] rfl rfl (take_ofW HT_.out HW_.out (by kernel_rfl)) (fun _ _ _ h => h) (Or.inl ⟨by rfl, ?_⟩) hHeld ?_ ?_
                  rotate_left
                  · rintro w' ⟨s0, s1, s2, s3, s4, s5⟩
                    go_simp
                    with_reducible rfl
                  rotate_left
                  · simp only [Act.put, List.setIfInBounds_toArray, List.set_cons_zero, List.set_cons_succ, i64_w, i32_w]
                    rfl
                  refine take_ (i := 8) (N := some 40) (v := ?_) (a' := ?_) #[true, true, true, true, true, true, true, true, true, false, true, false, false] rfl rfl (take_ofW HT_.out HW_.out (by kernel_rfl)) (fun _ _ _ h => h) (Or.inl ⟨by rfl, ?_⟩) hHeld ?_ ?_
                  rotate_left
                  · rintro w' ⟨s0, s1, s2, s3, s4, s5⟩
                    go_simp
                    with_reducible rfl
                  rotate_left
                  · simp only [Act.put, List.setIfInBounds_toArray, List.set_cons_zero, List.set_cons_succ, i64_w, i32_w]
                    rfl
                  refine one_ (i := 9) (N := some 41) #[true, true, true, true, true, true, true, true, true, true, true, false, false] rfl rfl (one_of HT_.out (by kernel_rfl)) (by decide) (fun K hK => ?_)
                  refine goes_ Tryd.func28 (by kernel_rfl) rfl #[.int .i64 a0_0, .int .u64 x359001_2, .int .u64 (rd l1 x6_2)] (by rfl) rfl rfl (by (try simp only [List.map_toArray, List.map_cons, List.map_nil]); first | done | rfl | (simp only [List.length_drop, List.length_take]; rfl) | (go_simp; done) | (go_simp; rw [Int.tmod_eq_emod_of_nonneg (by omega)]; omega)) ?_
                  with_reducible refine (attestorref01_Add.calls a0_0 x359001_2 (rd l1 x6_2) t363 _ A22.out).mono ?_
                  rintro e w' ⟨rfl, ⟨nd, rfl⟩⟩
                  refine ⟨_, rfl, ?_⟩
                  (try (rw [drewN_self w25]; generalize hq_ : World.drewN w25 _ = w25; have n0_ := Aside0.mk (blk_at hq_ BK358.out); have n1_ := Aside0.mk (blk_at hq_ BK359.out); have n2_ := Aside0.mk (below_at hq_ HB.out); clear hq_ BK358 BK359 HB; have BK358 := n0_; have BK359 := n1_; have HB := n2_; clear n0_ n1_ n2_))
                  refine hK.out _ _ ⟨(blk_cell BK358.out 0).trans rfl, (blk_cell BK358.out 1).trans rfl, (blk_cell BK358.out 2).trans rfl, (blk_cell BK358.out 3).trans rfl, (blk_cell BK358.out 4).trans rfl, ((HB.out.cell (World.block_lt_of_cell? w _ hw362_0)).trans hw362_0)⟩ (fun hHeld => ?_)
                  clear hK K
                  refine norm_ (a' := ?_) ?_ ?_
                  rotate_left
                  · show Act.put _ (some 41) _ = _
                    simp only [Act.put, List.setIfInBounds_toArray, List.set_cons_zero, List.set_cons_succ, i64_w, i32_w]
                    rfl
                  refine pure_ (i := 11) (N := some 43) (v := ?_) (a' := ?_) #[true, true, true, true, true, true, true, true, true, true, true, true, false] rfl rfl (any_of HT_.out (by kernel_rfl)) (fun _ _ _ h => h) (Or.inl ⟨by rfl, ?_⟩) ?_ ?_
                  rotate_left
                  · intro w'
                    go_simp
                    with_reducible rfl
                  rotate_left
                  · simp only [Act.put, List.setIfInBounds_toArray, List.set_cons_zero, List.set_cons_succ, i64_w, i32_w]
                    rfl
                  refine last_ (i := 12) (N := none) #[true, true, true, true, true, true, true, true, true, true, true, true, true] rfl rfl (one_of HT_.out (by kernel_rfl)) (by decide) (fun K hK => ?_)
                  have hs26 : w25.cell? ⟨gb358, 1, none⟩ = some (.int .u64 x359001_2) := (blk_cell BK358.out 1).trans rfl
                  have hfs26 := blk_frozen BK358.out 1
                  have hns26_1 := NB359_358.out
                  have hms26_1 := NB358_359.out
                  refine skip_ (w1 := ?_) (by rfl) rfl ?_ ?_
                  rotate_left
                  · go_simp
                    rfl
                  refine hK.out _ _ ?_
                  clear hK K
                  refine done_ (done_of HT_.out (by kernel_rfl)) ?_
                  have hnb27 := NB358_359.out
                  have hnc27 := NB359_358.out
                  have hcz28_0 : w25.cell? ⟨gb358, 0, none⟩ = some (.int .i64 a0_0) := (blk_cell BK358.out 0).trans rfl
                  have hcz28_1 : w25.cell? ⟨gb358, 1, none⟩ = some (.int .u64 x359001_2) := (blk_cell BK358.out 1).trans rfl
                  have hcz28_2 : w25.cell? ⟨gb358, 2, none⟩ = some (.int .u64 x359002_2) := (blk_cell BK358.out 2).trans rfl
                  have hcz28_3 : w25.cell? ⟨gb358, 3, none⟩ = some (.int .u64 x359003_2) := (blk_cell BK358.out 3).trans rfl
                  have hcz28_4 : w25.cell? ⟨gb358, 4, none⟩ = some (.int .u64 x359004_2) := (blk_cell BK358.out 4).trans rfl
                  have hfz28_0 := blk_frozen BK358.out 0
                  have hfz28_1 := blk_frozen BK358.out 1
                  have hfz28_2 := blk_frozen BK358.out 2
                  have hfz28_3 := blk_frozen BK358.out 3
                  have hfz28_4 := blk_frozen BK358.out 4
                  try go_wp2_with (first | ((with_reducible refine gate_callee (f := 28) rfl ?_); refine goesL_ (some 49) rfl rfl Tryd.func28 (by kernel_rfl) rfl #[.int .i64 a0_0, .int .u64 x359002_2, .int .u64 1] rfl (by (try simp only [List.map_toArray, List.map_cons, List.map_nil]); first | done | rfl | (simp only [List.length_drop, List.length_take]; rfl) | (go_simp; done) | (go_simp; rw [Int.tmod_eq_emod_of_nonneg (by omega)]; omega)) ?_; (with_reducible refine (attestorref01_Add.calls a0_0 x359002_2 1 t364 _ A23.out).mono ?_); rintro e w' ⟨rfl, ⟨nd, rfl⟩⟩; refine ⟨_, rfl, ?_⟩) | ((with_reducible refine gate_callee (f := 29) rfl ?_); refine goesL_ (some 56) rfl rfl Tryd.func29 (by kernel_rfl) rfl #[.int .i64 a0_0, .agg #[.int .u64 t363, .int .u64 t364, .int .u64 x359003_2, .int .u64 x359004_2]] rfl (by (try simp only [List.map_toArray, List.map_cons, List.map_nil]); first | done | rfl | (simp only [List.length_drop, List.length_take]; rfl) | (go_simp; done) | (go_simp; rw [Int.tmod_eq_emod_of_nonneg (by omega)]; omega)) ?_; (with_reducible refine (attestorref06_Perm.calls k2 a0_0 t363 t364 x359003_2 x359004_2 t365 t366 t367 t368 _ A24.out).mono ?_); rintro e w29 ⟨rfl, hb⟩; refine ⟨_, rfl, ?_⟩; have n0_ := Aside0.mk (blk_below (g := gb358) (o := .cells #[.int .i64 a0_0, .int .u64 t363, .int .u64 t364, .int .u64 x359003_2, .int .u64 x359004_2] 25 (0, 0)) (by (with_reducible repeat (first | refine blk_drewN ?_ _ | refine blk_drew ?_ | refine blk_alloc ?_ _)); refine blk_put (cs := #[.int .i64 a0_0, .int .u64 t363, .int .u64 x359002_2, .int .u64 x359003_2, .int .u64 x359004_2]) ?_ 2 _ rfl; (with_reducible repeat (first | refine blk_drewN ?_ _ | refine blk_drew ?_ | refine blk_alloc ?_ _)); refine blk_put (cs := #[.int .i64 a0_0, .int .u64 x359001_2, .int .u64 x359002_2, .int .u64 x359003_2, .int .u64 x359004_2]) ?_ 1 _ rfl; (with_reducible repeat (first | refine blk_drewN ?_ _ | refine blk_drew ?_ | refine blk_alloc ?_ _)); exact BK358.out) hb); have n1_ := Aside0.mk (blk_below (g := gb359) (o := .cells #[.int .i64 0, .int .u64 0, .int .u64 0, .int .u64 0, .int .u64 0] 25 (0, 0)) (by (with_reducible repeat (first | refine blk_drewN ?_ _ | refine blk_drew ?_ | refine blk_alloc ?_ _)); refine blk_far ?_ NB359_358.out _; (with_reducible repeat (first | refine blk_drewN ?_ _ | refine blk_drew ?_ | refine blk_alloc ?_ _)); refine blk_far ?_ NB359_358.out _; (with_reducible repeat (first | refine blk_drewN ?_ _ | refine blk_drew ?_ | refine blk_alloc ?_ _)); exact BK359.out) hb); have n2_ := Aside0.mk (below_step (by repeat (first | (with_reducible first | exact HB.out | apply below_alloc | apply pw_below_drewN | apply below_drew1 | refine below_set ?_ GE358.out | refine below_set ?_ GE359.out) | exact HB.out)) hb); clear BK358; clear BK359; clear HB; have BK358 := n0_; have BK359 := n1_; have HB := n2_; clear n0_ n1_ n2_; (try clear hb); (try clear hb2); (try clear hk); (try clear hi); have hcz30_0 : w29.cell? ⟨gb358, 0, none⟩ = some (.int .i64 a0_0) := (blk_cell BK358.out 0).trans rfl; have hcz30_1 : w29.cell? ⟨gb358, 1, none⟩ = some (.int .u64 t363) := (blk_cell BK358.out 1).trans rfl; have hcz30_2 : w29.cell? ⟨gb358, 2, none⟩ = some (.int .u64 t364) := (blk_cell BK358.out 2).trans rfl; have hcz30_3 : w29.cell? ⟨gb358, 3, none⟩ = some (.int .u64 x359003_2) := (blk_cell BK358.out 3).trans rfl; have hcz30_4 : w29.cell? ⟨gb358, 4, none⟩ = some (.int .u64 x359004_2) := (blk_cell BK358.out 4).trans rfl; have hfz30_0 := blk_frozen BK358.out 0; have hfz30_1 := blk_frozen BK358.out 1; have hfz30_2 := blk_frozen BK358.out 2; have hfz30_3 := blk_frozen BK358.out 3; have hfz30_4 := blk_frozen BK358.out 4))
                  go_roundg k2
                  case measure => have := HK1.out; have := HK2.out; omega
                  case rel => exact ⟨(wrap64 (x6_2 + 1)), (t365), (t366), (t367), (t368), (by first | rfl | (simp; done) | (simp [*]; done) | (simp; rfl) | (simp; decide +kernel)), H', ⟨by have := HK1.out; have := HK2.out; omega⟩, ⟨by (with_reducible repeat (first | refine blk_drewN ?_ _ | refine blk_drew ?_ | refine blk_alloc ?_ _)); refine blk_put (cs := #[.int .i64 a0_0, .int .u64 t365, .int .u64 t366, .int .u64 t367, .int .u64 x359004_2]) ?_ 4 _ rfl; (with_reducible repeat (first | refine blk_drewN ?_ _ | refine blk_drew ?_ | refine blk_alloc ?_ _)); refine blk_put (cs := #[.int .i64 a0_0, .int .u64 t365, .int .u64 t366, .int .u64 x359003_2, .int .u64 x359004_2]) ?_ 3 _ rfl; (with_reducible repeat (first | refine blk_drewN ?_ _ | refine blk_drew ?_ | refine blk_alloc ?_ _)); refine blk_put (cs := #[.int .i64 a0_0, .int .u64 t365, .int .u64 t364, .int .u64 x359003_2, .int .u64 x359004_2]) ?_ 2 _ rfl; (with_reducible repeat (first | refine blk_drewN ?_ _ | refine blk_drew ?_ | refine blk_alloc ?_ _)); refine blk_put (cs := #[.int .i64 a0_0, .int .u64 t363, .int .u64 t364, .int .u64 x359003_2, .int .u64 x359004_2]) ?_ 1 _ rfl; (with_reducible repeat (first | refine blk_drewN ?_ _ | refine blk_drew ?_ | refine blk_alloc ?_ _)); exact BK358.out⟩, ⟨by (with_reducible repeat (first | refine blk_drewN ?_ _ | refine blk_drew ?_ | refine blk_alloc ?_ _)); refine blk_far ?_ NB359_358.out _; (with_reducible repeat (first | refine blk_drewN ?_ _ | refine blk_drew ?_ | refine blk_alloc ?_ _)); refine blk_far ?_ NB359_358.out _; (with_reducible repeat (first | refine blk_drewN ?_ _ | refine blk_drew ?_ | refine blk_alloc ?_ _)); refine blk_far ?_ NB359_358.out _; (with_reducible repeat (first | refine blk_drewN ?_ _ | refine blk_drew ?_ | refine blk_alloc ?_ _)); refine blk_far ?_ NB359_358.out _; (with_reducible repeat (first | refine blk_drewN ?_ _ | refine blk_drew ?_ | refine blk_alloc ?_ _)); exact BK359.out⟩, ⟨by repeat (first | (with_reducible first | exact HB.out | apply below_alloc | apply pw_below_drewN | apply below_drew1 | refine below_set ?_ GE358.out | refine below_set ?_ GE359.out) | exact HB.out)⟩⟩
                · rw [if_neg c21] at H
                  exact absurd H (by simp)
              · rw [if_neg c20] at H
                have c20b0 : decide (x6_2 < (l1.length : Int)) = false := decide_eq_false c20
                clear c20
                simp only [Option.some.injEq, Prod.mk.injEq] at H
                obtain ⟨rfl, rfl, rfl, rfl, rfl⟩ := H
                have hnb31 := NB358_359.out
                have hnc31 := NB359_358.out
                have hcz32_0 : wr.cell? ⟨gb358, 0, none⟩ = some (.int .i64 a0_0) := (blk_cell BK358.out 0).trans rfl
                have hcz32_1 : wr.cell? ⟨gb358, 1, none⟩ = some (.int .u64 x359001_2) := (blk_cell BK358.out 1).trans rfl
                have hcz32_2 : wr.cell? ⟨gb358, 2, none⟩ = some (.int .u64 x359002_2) := (blk_cell BK358.out 2).trans rfl
                have hcz32_3 : wr.cell? ⟨gb358, 3, none⟩ = some (.int .u64 x359003_2) := (blk_cell BK358.out 3).trans rfl
                have hcz32_4 : wr.cell? ⟨gb358, 4, none⟩ = some (.int .u64 x359004_2) := (blk_cell BK358.out 4).trans rfl
                have hfz32_0 := blk_frozen BK358.out 0
                have hfz32_1 := blk_frozen BK358.out 1
                have hfz32_2 := blk_frozen BK358.out 2
                have hfz32_3 := blk_frozen BK358.out 3
                have hfz32_4 := blk_frozen BK358.out 4
                have hcz33_0 : wr.cell? ⟨gb359, 0, none⟩ = some (.int .i64 0) := (blk_cell BK359.out 0).trans rfl
                have hcz33_1 : wr.cell? ⟨gb359, 1, none⟩ = some (.int .u64 0) := (blk_cell BK359.out 1).trans rfl
                have hcz33_2 : wr.cell? ⟨gb359, 2, none⟩ = some (.int .u64 0) := (blk_cell BK359.out 2).trans rfl
                have hcz33_3 : wr.cell? ⟨gb359, 3, none⟩ = some (.int .u64 0) := (blk_cell BK359.out 3).trans rfl
                have hcz33_4 : wr.cell? ⟨gb359, 4, none⟩ = some (.int .u64 0) := (blk_cell BK359.out 4).trans rfl
                have hfz33_0 := blk_frozen BK359.out 0
                have hfz33_1 := blk_frozen BK359.out 1
                have hfz33_2 := blk_frozen BK359.out 2
                have hfz33_3 := blk_frozen BK359.out 3
                have hfz33_4 := blk_frozen BK359.out 4
                go_wp2
                refine bodyPost_ret (results_cell_row rfl _ _ gb359 25 #[.int .i64 a0_0, .int .u64 x359001_2, .int .u64 x359002_2, .int .u64 x359003_2, .int .u64 x359004_2] (0, 0) _ rfl (by (with_reducible repeat (first | refine blk_drewN ?_ _ | refine blk_drew ?_ | refine blk_alloc ?_ _)); refine blk_put (cs := #[.int .i64 a0_0, .int .u64 x359001_2, .int .u64 x359002_2, .int .u64 x359003_2, .int .u64 0]) ?_ 4 _ rfl; (with_reducible repeat (first | refine blk_drewN ?_ _ | refine blk_drew ?_ | refine blk_alloc ?_ _)); refine blk_put (cs := #[.int .i64 a0_0, .int .u64 x359001_2, .int .u64 x359002_2, .int .u64 0, .int .u64 0]) ?_ 3 _ rfl; (with_reducible repeat (first | refine blk_drewN ?_ _ | refine blk_drew ?_ | refine blk_alloc ?_ _)); refine blk_put (cs := #[.int .i64 a0_0, .int .u64 x359001_2, .int .u64 0, .int .u64 0, .int .u64 0]) ?_ 2 _ rfl; (with_reducible repeat (first | refine blk_drewN ?_ _ | refine blk_drew ?_ | refine blk_alloc ?_ _)); refine blk_put (cs := #[.int .i64 a0_0, .int .u64 0, .int .u64 0, .int .u64 0, .int .u64 0]) ?_ 1 _ rfl; (with_reducible repeat (first | refine blk_drewN ?_ _ | refine blk_drew ?_ | refine blk_alloc ?_ _)); refine blk_put (cs := #[.int .i64 0, .int .u64 0, .int .u64 0, .int .u64 0, .int .u64 0]) ?_ 0 _ rfl; (with_reducible repeat (first | refine blk_drewN ?_ _ | refine blk_drew ?_ | refine blk_alloc ?_ _)); exact BK359.out) Tryd.underlying25 rfl (by kernel_rfl)) rfl ?_
                exact ⟨by first | rfl | (simp [errW_none, errW_some] <;> rfl) | (simp [*, errW_none, errW_some] <;> rfl), by repeat (first | (with_reducible first | exact HB.out | apply below_alloc | apply pw_below_drewN | apply below_drew1 | refine below_set ?_ GE358.out | refine below_set ?_ GE359.out) | exact HB.out)⟩
  · replace c4 := Bool.eq_false_iff.mpr c4
    subst c4
    have H1 : (some (0, 0, 0, 0, 0)) = some (r1, r2, r3, r4, r5) := by rw [if_neg (show ¬ (false = true) by decide)] at H; exact H
    clear H
    have H := H1
    clear H1
    simp only [Option.some.injEq, Prod.mk.injEq] at H
    obtain ⟨rfl, rfl, rfl, rfl, rfl⟩ := H
    go_enter Tryd.func32, Tryd.ntmps32
    go_wp2_with (first | ((with_reducible refine gate_dst (N := 2) rfl ?_); refine box_event ?hg (N := 2) ?hd (cs := #[.int .i64 a0_0, .int .u64 a0_1, .int .u64 a0_2, .int .u64 a0_3, .int .u64 a0_4]) (t := 25) ?hr ?_; (case hd => rfl); (case hg => rfl); (case hr => first | (go_simp; done) | (go_simp; rfl)); intro gb358 hg w34 hbox hb; have n0_ := Aside0.mk (below_step (by repeat (first | (with_reducible first | exact HB.out | apply below_alloc | apply pw_below_drewN | apply below_drew1) | exact HB.out)) hb); have n1_ := Aside0.mk (hbox); have n2_ := Aside0.mk ((by rw [hg]; exact (below_size (by repeat (first | (with_reducible first | exact HB.out | apply below_alloc | apply pw_below_drewN | apply below_drew1) | exact HB.out))) : w.heap.size ≤ gb358)); have n3_ := Aside0.mk ((by rw [hg]; exact (below_size (by repeat (first | (with_reducible first | exact HB.out | apply below_alloc | apply pw_below_drewN | apply below_drew1) | exact HB.out))) : w.heap.size ≤ gb358)); clear HB; have HB := n0_; have BK358 := n1_; have GW358 := n2_; have GE358 := n3_; clear n0_ n1_ n2_ n3_; clear hb hbox hg) | ((with_reducible refine gate_dst (N := 4) rfl ?_); refine box_event ?hg (N := 4) ?hd (cs := #[.int .i64 0, .int .u64 0, .int .u64 0, .int .u64 0, .int .u64 0]) (t := 25) ?hr ?_; (case hd => rfl); (case hg => rfl); (case hr => first | (go_simp; done) | (go_simp; rfl)); intro gb359 hg w35 hbox hb; have n0_ := Aside0.mk (blk_below (g := gb358) (o := .cells #[.int .i64 a0_0, .int .u64 a0_1, .int .u64 a0_2, .int .u64 a0_3, .int .u64 a0_4] 25 (0, 0)) (by (with_reducible repeat (first | refine blk_drewN ?_ _ | refine blk_drew ?_ | refine blk_alloc ?_ _)); exact BK358.out) hb); have n1_ := Aside0.mk (below_step (by repeat (first | (with_reducible first | exact HB.out | apply below_alloc | apply pw_below_drewN | apply below_drew1 | refine below_set ?_ GE358.out) | exact HB.out)) hb); have n2_ := Aside0.mk (hbox); have n3_ := Aside0.mk ((by rw [hg]; exact (below_size (by repeat (first | (with_reducible first | exact HB.out | apply below_alloc | apply pw_below_drewN | apply below_drew1 | refine below_set ?_ GE358.out) | exact HB.out))) : w.heap.size ≤ gb359)); have n4_ := Aside0.mk ((by rw [hg]; exact (below_size (by repeat (first | (with_reducible first | exact HB.out | apply below_alloc | apply pw_below_drewN | apply below_drew1 | refine below_set ?_ GE358.out) | exact HB.out))) : w.heap.size ≤ gb359)); have n5_ := Aside0.mk ((by rw [hg]; exact Nat.ne_of_lt (blk_lt (g := gb358) (o := .cells #[.int .i64 a0_0, .int .u64 a0_1, .int .u64 a0_2, .int .u64 a0_3, .int .u64 a0_4] 25 (0, 0)) (by (with_reducible repeat (first | refine blk_drewN ?_ _ | refine blk_drew ?_ | refine blk_alloc ?_ _)); exact BK358.out)) : gb358 ≠ gb359)); have n6_ := Aside0.mk ((by rw [hg]; exact Nat.ne_of_gt (blk_lt (g := gb358) (o := .cells #[.int .i64 a0_0, .int .u64 a0_1, .int .u64 a0_2, .int .u64 a0_3, .int .u64 a0_4] 25 (0, 0)) (by (with_reducible repeat (first | refine blk_drewN ?_ _ | refine blk_drew ?_ | refine blk_alloc ?_ _)); exact BK358.out)) : gb359 ≠ gb358)); clear BK358; clear HB; have BK358 := n0_; have HB := n1_; have BK359 := n2_; have GW359 := n3_; have GE359 := n4_; have NB358_359 := n5_; have NB359_358 := n6_; clear n0_ n1_ n2_ n3_ n4_ n5_ n6_; clear hb hbox hg; have hnb36 := NB358_359.out; have hnc36 := NB359_358.out; have hcz37_0 : w35.cell? ⟨gb358, 0, none⟩ = some (.int .i64 a0_0) := (blk_cell BK358.out 0).trans rfl; have hcz37_1 : w35.cell? ⟨gb358, 1, none⟩ = some (.int .u64 a0_1) := (blk_cell BK358.out 1).trans rfl; have hcz37_2 : w35.cell? ⟨gb358, 2, none⟩ = some (.int .u64 a0_2) := (blk_cell BK358.out 2).trans rfl; have hcz37_3 : w35.cell? ⟨gb358, 3, none⟩ = some (.int .u64 a0_3) := (blk_cell BK358.out 3).trans rfl; have hcz37_4 : w35.cell? ⟨gb358, 4, none⟩ = some (.int .u64 a0_4) := (blk_cell BK358.out 4).trans rfl; have hfz37_0 := blk_frozen BK358.out 0; have hfz37_1 := blk_frozen BK358.out 1; have hfz37_2 := blk_frozen BK358.out 2; have hfz37_3 := blk_frozen BK358.out 3; have hfz37_4 := blk_frozen BK358.out 4) | ((with_reducible refine gate_callee (f := 27) rfl ?_); refine goesL_ (some 9) rfl rfl Tryd.func27 (by kernel_rfl) rfl #[.int .i64 a0_0] rfl (by (try simp only [List.map_toArray, List.map_cons, List.map_nil]); first | done | rfl | (simp only [List.length_drop, List.length_take]; rfl) | (go_simp; done) | (go_simp; rw [Int.tmod_eq_emod_of_nonneg (by omega)]; omega)) ?_; (with_reducible refine (attestorref01_Valid.calls a0_0 false _ A3.out).mono ?_); rintro e w' ⟨rfl, ⟨nd, rfl⟩⟩; refine ⟨_, rfl, ?_⟩; (try (rw [drewN_self w35]; generalize hq_ : World.drewN w35 _ = w35; have n0_ : Aside0 (w35.heap[gb358]? = some (.cells #[.int .i64 a0_0, .int .u64 a0_1, .int .u64 a0_2, .int .u64 a0_3, .int .u64 a0_4] 25 (0, 0))) := ⟨by rw [← hq_]; exact (by (with_reducible repeat (first | refine blk_drewN ?_ _ | refine blk_drew ?_ | refine blk_alloc ?_ _)); exact BK358.out)⟩; have n1_ : Aside0 (w35.heap[gb359]? = some (.cells #[.int .i64 0, .int .u64 0, .int .u64 0, .int .u64 0, .int .u64 0] 25 (0, 0))) := ⟨by rw [← hq_]; exact (by (with_reducible repeat (first | refine blk_drewN ?_ _ | refine blk_drew ?_ | refine blk_alloc ?_ _)); exact BK359.out)⟩; have n2_ : Aside0 (Below w.heap.size w w35) := ⟨by rw [← hq_]; exact (by repeat (first | (with_reducible first | exact HB.out | apply below_alloc | apply pw_below_drewN | apply below_drew1 | refine below_set ?_ GE358.out | refine below_set ?_ GE359.out) | exact HB.out))⟩; clear BK358 BK359 HB hq_; have BK358 := n0_; have BK359 := n1_; have HB := n2_; clear n0_ n1_ n2_)); have hcz38_0 : w35.cell? ⟨gb359, 0, none⟩ = some (.int .i64 0) := (blk_cell BK359.out 0).trans rfl; have hcz38_1 : w35.cell? ⟨gb359, 1, none⟩ = some (.int .u64 0) := (blk_cell BK359.out 1).trans rfl; have hcz38_2 : w35.cell? ⟨gb359, 2, none⟩ = some (.int .u64 0) := (blk_cell BK359.out 2).trans rfl; have hcz38_3 : w35.cell? ⟨gb359, 3, none⟩ = some (.int .u64 0) := (blk_cell BK359.out 3).trans rfl; have hcz38_4 : w35.cell? ⟨gb359, 4, none⟩ = some (.int .u64 0) := (blk_cell BK359.out 4).trans rfl; have hfz38_0 := blk_frozen BK359.out 0; have hfz38_1 := blk_frozen BK359.out 1; have hfz38_2 := blk_frozen BK359.out 2; have hfz38_3 := blk_frozen BK359.out 3; have hfz38_4 := blk_frozen BK359.out 4))
    refine bodyPost_ret (results_cell_row rfl _ _ gb359 25 #[.int .i64 0, .int .u64 0, .int .u64 0, .int .u64 0, .int .u64 0] (0, 0) _ rfl (by (with_reducible repeat (first | refine blk_drewN ?_ _ | refine blk_drew ?_ | refine blk_alloc ?_ _)); refine blk_put (cs := #[.int .i64 0, .int .u64 0, .int .u64 0, .int .u64 0, .int .u64 0]) ?_ 4 _ rfl; (with_reducible repeat (first | refine blk_drewN ?_ _ | refine blk_drew ?_ | refine blk_alloc ?_ _)); refine blk_put (cs := #[.int .i64 0, .int .u64 0, .int .u64 0, .int .u64 0, .int .u64 0]) ?_ 3 _ rfl; (with_reducible repeat (first | refine blk_drewN ?_ _ | refine blk_drew ?_ | refine blk_alloc ?_ _)); refine blk_put (cs := #[.int .i64 0, .int .u64 0, .int .u64 0, .int .u64 0, .int .u64 0]) ?_ 2 _ rfl; (with_reducible repeat (first | refine blk_drewN ?_ _ | refine blk_drew ?_ | refine blk_alloc ?_ _)); refine blk_put (cs := #[.int .i64 0, .int .u64 0, .int .u64 0, .int .u64 0, .int .u64 0]) ?_ 1 _ rfl; (with_reducible repeat (first | refine blk_drewN ?_ _ | refine blk_drew ?_ | refine blk_alloc ?_ _)); refine blk_put (cs := #[.int .i64 0, .int .u64 0, .int .u64 0, .int .u64 0, .int .u64 0]) ?_ 0 _ rfl; (with_reducible repeat (first | refine blk_drewN ?_ _ | refine blk_drew ?_ | refine blk_alloc ?_ _)); exact BK359.out) Tryd.underlying25 rfl (by kernel_rfl)) rfl ?_
    exact ⟨by first | rfl | (simp [errW_none, errW_some] <;> rfl) | (simp [*, errW_none, errW_some] <;> rfl), by repeat (first | (with_reducible first | exact HB.out | apply below_alloc | apply pw_below_drewN | apply below_drew1 | refine below_set ?_ GE358.out | refine below_set ?_ GE359.out) | exact HB.out)⟩

end Go.Proofs.YtkailiemikjfbaaDoor.Q
end
section
namespace Go.Proofs.YtkailiemikjfbaaDoor.Q
open Go.RowKit Go.Proofs.YtkailiemikjfbaaDoorW.PrintWords Go.Proofs.YtkailiemikjfbaaDoorW.PrintLast Go.Proofs.YtkailiemikjfbaaDoorW.PrintMore
attribute [local go_sem] max2_int min2_int max_two min_two max_three min_three max_four min_four   -- for this text's walks alone
set_option linter.unusedVariables false
set_option linter.unusedSimpArgs false

/-! ### attestorref08_Grind: function 16 -/
def attestorref08_Grind.f (k : Nat) (a0_0 : Int) (a0_1 : Int) (a0_2 : Int) (a0_3 : Int) (a0_4 : Int) (a1 : Int) (a2 : Int) : Option (Int × Int × Int × Int × Int × Bool) := (attestorref08_bounded.f a0_0 a0_1 a0_2 a0_3 a0_4 a2).bind fun t371 => (if t371 = true then ((attestorref08_Absorb.f k a0_0 a0_1 a0_2 a0_3 a0_4 (([a1] : List Int))).bind fun bt375 => ((attestorref08_Draw.f k bt375.1 bt375.2.1 bt375.2.2.1 bt375.2.2.2.1 bt375.2.2.2.2).bind fun bt380 => (if 0 ≤ a2 then (if (shl .u64 1 a2) = 0 then (none) else (some (bt380.1, bt380.2.1, bt380.2.2.1, bt380.2.2.2.1, bt380.2.2.2.2.1, ((Int.tmod bt380.2.2.2.2.2 (shl .u64 1 a2)) == 0)))) else (none)))) else (some (0, 0, 0, 0, 0, false)))
theorem attestorref08_Grind.mono : ∀ a0 a1 a2 a3 a4 a5 a6 k, LeO (attestorref08_Grind.f k a0 a1 a2 a3 a4 a5 a6) (attestorref08_Grind.f (k + 1) a0 a1 a2 a3 a4 a5 a6) := by
  intro a0 a1 a2 a3 a4 a5 a6 k
  unfold attestorref08_Grind.f
  repeat' first
      | (with_reducible exact attestorref08_Absorb.mono _ _ _ _ _ _ _)
      | (with_reducible exact attestorref08_Draw.mono _ _ _ _ _ _)
      | (with_reducible exact LeO.refl _)
      | (with_reducible exact LeO.none _)
      | (with_reducible refine LeO.ite ?_ ?_)
      | (with_reducible refine LeO.bind ?_ (fun _ => ?_))
      | exact attestorref08_Absorb.mono _ _ _ _ _ _ _
      | exact attestorref08_Draw.mono _ _ _ _ _ _
      | exact LeO.none _
      | refine LeO.ite ?_ ?_
      | refine LeO.bind ?_ (fun _ => ?_)
def attestorref08_Grind.T4 : Bool × List (List Nat × List Nat) := (true, [([], []), ([], []), ([], []), ([2], [2]), ([1, 3], [1, 3]), ([4], [4]), ([0, 0], [0]), ([5, 6, 0, 1, 2, 3, 4, 5, 6], [5])])
def attestorref08_Grind.B4 : List Nat := [0, 0, 0, 4, 14, 30, 1, 127]
theorem attestorref08_Grind.tab4 : rtab .any (opsOf Tryd.f16 4) = attestorref08_Grind.T4 := by kernel_rfl
theorem attestorref08_Grind.bits4 : waitsOk attestorref08_Grind.T4.2 attestorref08_Grind.B4 = true := by kernel_rfl
set_option maxHeartbeats 8000000 in
set_option maxRecDepth 100000 in
theorem attestorref08_Grind.calls (k : Nat) (a0_0 : Int) (a0_1 : Int) (a0_2 : Int) (a0_3 : Int) (a0_4 : Int) (a1 : Int) (a2 : Int) (r1 : Int) (r2 : Int) (r3 : Int) (r4 : Int) (r5 : Int) (r6 : Bool) (w : World) (h : attestorref08_Grind.f k a0_0 a0_1 a0_2 a0_3 a0_4 a1 a2 = some (r1, r2, r3, r4, r5, r6)) :
    Calls Tryd.prog 16 #[.agg #[.int .i64 a0_0, .int .u64 a0_1, .int .u64 a0_2, .int .u64 a0_3, .int .u64 a0_4], .int .u64 a1, .int .i64 a2] w fun e w' => e = .returned (.tuple #[.agg #[.int .i64 r1, .int .u64 r2, .int .u64 r3, .int .u64 r4, .int .u64 r5], .bool r6]) ∧ Below w.heap.size w w' := by
  have hu25 := Tryd.underlying25
  have HB := Aside0.mk (Below.refl w.heap.size w)
  have H : ((attestorref08_bounded.f a0_0 a0_1 a0_2 a0_3 a0_4 a2).bind fun t371 => (if t371 = true then ((attestorref08_Absorb.f k a0_0 a0_1 a0_2 a0_3 a0_4 (([a1] : List Int))).bind fun bt375 => ((attestorref08_Draw.f k bt375.1 bt375.2.1 bt375.2.2.1 bt375.2.2.2.1 bt375.2.2.2.2).bind fun bt380 => (if 0 ≤ a2 then (if (shl .u64 1 a2) = 0 then (none) else (some (bt380.1, bt380.2.1, bt380.2.2.1, bt380.2.2.2.1, bt380.2.2.2.2.1, ((Int.tmod bt380.2.2.2.2.2 (shl .u64 1 a2)) == 0)))) else (none)))) else (some (0, 0, 0, 0, 0, false)))) = some (r1, r2, r3, r4, r5, r6) := h
  clear h
  replace H := Option.bind_eq_some_iff.mp H
  obtain ⟨t371, A40, H⟩ := H
  replace H : (if t371 = true then ((attestorref08_Absorb.f k a0_0 a0_1 a0_2 a0_3 a0_4 (([a1] : List Int))).bind fun bt375 => ((attestorref08_Draw.f k bt375.1 bt375.2.1 bt375.2.2.1 bt375.2.2.2.1 bt375.2.2.2.2).bind fun bt380 => (if 0 ≤ a2 then (if (shl .u64 1 a2) = 0 then (none) else (some (bt380.1, bt380.2.1, bt380.2.2.1, bt380.2.2.2.1, bt380.2.2.2.2.1, ((Int.tmod bt380.2.2.2.2.2 (shl .u64 1 a2)) == 0)))) else (none)))) else (some (0, 0, 0, 0, 0, false))) = some (r1, r2, r3, r4, r5, r6) := H
  have A4 := Aside0.mk A40
  clear A40
  by_cases c5 : t371 = true
  · subst c5
    have H1 : ((attestorref08_Absorb.f k a0_0 a0_1 a0_2 a0_3 a0_4 (([a1] : List Int))).bind fun bt375 => ((attestorref08_Draw.f k bt375.1 bt375.2.1 bt375.2.2.1 bt375.2.2.2.1 bt375.2.2.2.2).bind fun bt380 => (if 0 ≤ a2 then (if (shl .u64 1 a2) = 0 then (none) else (some (bt380.1, bt380.2.1, bt380.2.2.1, bt380.2.2.2.1, bt380.2.2.2.2.1, ((Int.tmod bt380.2.2.2.2.2 (shl .u64 1 a2)) == 0)))) else (none)))) = some (r1, r2, r3, r4, r5, r6) := by rw [if_pos rfl] at H; exact H
    clear H
    have H := H1
    clear H1
    obtain ⟨y372, hy372⟩ : ∃ y_ : List Int, y_ = (([a1] : List Int)) := ⟨_, rfl⟩
    replace H : ((attestorref08_Absorb.f k a0_0 a0_1 a0_2 a0_3 a0_4 y372).bind fun bt375 => ((attestorref08_Draw.f k bt375.1 bt375.2.1 bt375.2.2.1 bt375.2.2.2.1 bt375.2.2.2.2).bind fun bt380 => (if 0 ≤ a2 then (if (shl .u64 1 a2) = 0 then (none) else (some (bt380.1, bt380.2.1, bt380.2.2.1, bt380.2.2.2.1, bt380.2.2.2.2.1, ((Int.tmod bt380.2.2.2.2.2 (shl .u64 1 a2)) == 0)))) else (none)))) = some (r1, r2, r3, r4, r5, r6) := by first | (rw [hy372]; with_reducible exact H) | (have H2_ := (Option.bind_some _ _).symm.trans H; rw [hy372]; with_reducible exact H2_) | (have H2_ := (Option.bind_some _ _).symm.trans H; with_reducible exact H2_) | with_reducible exact H | (rw [hy372]; exact H) | exact H
    have Ny372 := Aside0.mk hy372
    clear hy372
    replace H := Option.bind_eq_some_iff.mp H
    obtain ⟨⟨t375, t376, t377, t378, t379⟩, A60, H⟩ := H
    replace H : ((attestorref08_Draw.f k t375 t376 t377 t378 t379).bind fun bt380 => (if 0 ≤ a2 then (if (shl .u64 1 a2) = 0 then (none) else (some (bt380.1, bt380.2.1, bt380.2.2.1, bt380.2.2.2.1, bt380.2.2.2.2.1, ((Int.tmod bt380.2.2.2.2.2 (shl .u64 1 a2)) == 0)))) else (none))) = some (r1, r2, r3, r4, r5, r6) := H
    have A6 := Aside0.mk A60
    clear A60
    replace H := Option.bind_eq_some_iff.mp H
    obtain ⟨⟨t380, t381, t382, t383, t384, t385⟩, A70, H⟩ := H
    replace H : (if 0 ≤ a2 then (if (shl .u64 1 a2) = 0 then (none) else (some (t380, t381, t382, t383, t384, ((Int.tmod t385 (shl .u64 1 a2)) == 0)))) else (none)) = some (r1, r2, r3, r4, r5, r6) := H
    have A7 := Aside0.mk A70
    clear A70
    by_cases c8 : 0 ≤ a2
    · rw [if_pos c8] at H
      have c8b0 := eq_true c8
      have c8b1 : decide (0 ≤ a2) = true := decide_eq_true c8
      clear c8
      obtain ⟨ji9, hji9⟩ : ∃ j_ : Int, (shl .u64 1 a2) = j_ := ⟨_, rfl⟩
      replace H : (if (ji9) = 0 then (none) else (some (t380, t381, t382, t383, t384, ((Int.tmod t385 (ji9)) == 0)))) = some (r1, r2, r3, r4, r5, r6) := by first | (rw [hji9] at H; exact H) | (simp only [hji9] at H ⊢; exact H)
      (try rw [hji9] at A4)
      (try rw [hji9] at A6)
      (try rw [hji9] at A7)
      have hji9_ : (IntKind.u64.wrap (1 * 2 ^ min a2.toNat 64)) = ji9 := hji9
      have hji9z : a2 ≤ 64 → (IntKind.u64.wrap (1 * 2 ^ a2.toNat)) = ji9 := shl_small hji9
      have hji9u : (IntKind.u64.wrap (2 ^ min a2.toNat 64)) = ji9 := by have h_ := hji9_; rw [Int.one_mul] at h_; exact h_
      have hji9v : a2 ≤ 64 → (IntKind.u64.wrap (2 ^ a2.toNat)) = ji9 := fun hle_ => by have h_ := hji9z hle_; rw [Int.one_mul] at h_; exact h_
      by_cases c10 : (ji9) = 0
      · rw [if_pos c10] at H
        exact absurd H (by simp)
      · rw [if_neg c10] at H
        have c10b0 : ((ji9) == 0) = false := beq_eq_false_iff_ne.mpr c10
        have c10b1 : ((ji9) != 0) = true := bne_iff_ne.mpr c10
        simp only [Option.some.injEq, Prod.mk.injEq] at H
        obtain ⟨rfl, rfl, rfl, rfl, rfl, rfl⟩ := H
        go_enter Tryd.func16, Tryd.ntmps16
        try go_wp2_with (first | ((with_reducible refine gate_dst (N := 3) rfl ?_); refine box_event ?hg (N := 3) ?hd (cs := #[.int .i64 a0_0, .int .u64 a0_1, .int .u64 a0_2, .int .u64 a0_3, .int .u64 a0_4]) (t := 25) ?hr ?_; (case hd => rfl); (case hg => rfl); (case hr => first | (go_simp; done) | (go_simp; rfl)); intro gb369 hg w11 hbox hb; have n0_ := Aside0.mk (below_step (by repeat (first | (with_reducible first | exact HB.out | apply below_alloc | apply pw_below_drewN | apply below_drew1) | exact HB.out)) hb); have n1_ := Aside0.mk (hbox); have n2_ := Aside0.mk ((by rw [hg]; exact (below_size (by repeat (first | (with_reducible first | exact HB.out | apply below_alloc | apply pw_below_drewN | apply below_drew1) | exact HB.out))) : w.heap.size ≤ gb369)); have n3_ := Aside0.mk ((by rw [hg]; exact (below_size (by repeat (first | (with_reducible first | exact HB.out | apply below_alloc | apply pw_below_drewN | apply below_drew1) | exact HB.out))) : w.heap.size ≤ gb369)); clear HB; have HB := n0_; have BK369 := n1_; have GW369 := n2_; have GE369 := n3_; clear n0_ n1_ n2_ n3_; clear hb hbox hg) | ((with_reducible refine gate_dst (N := 6) rfl ?_); refine box_event ?hg (N := 6) ?hd (cs := #[.int .i64 0, .int .u64 0, .int .u64 0, .int .u64 0, .int .u64 0]) (t := 25) ?hr ?_; (case hd => rfl); (case hg => rfl); (case hr => first | (go_simp; done) | (go_simp; rfl)); intro gb370 hg w12 hbox hb; have n0_ := Aside0.mk (blk_below (g := gb369) (o := .cells #[.int .i64 a0_0, .int .u64 a0_1, .int .u64 a0_2, .int .u64 a0_3, .int .u64 a0_4] 25 (0, 0)) (by (with_reducible repeat (first | refine blk_drewN ?_ _ | refine blk_drew ?_ | refine blk_alloc ?_ _)); exact BK369.out) hb); have n1_ := Aside0.mk (below_step (by repeat (first | (with_reducible first | exact HB.out | apply below_alloc | apply pw_below_drewN | apply below_drew1 | refine below_set ?_ GE369.out) | exact HB.out)) hb); have n2_ := Aside0.mk (hbox); have n3_ := Aside0.mk ((by rw [hg]; exact (below_size (by repeat (first | (with_reducible first | exact HB.out | apply below_alloc | apply pw_below_drewN | apply below_drew1 | refine below_set ?_ GE369.out) | exact HB.out))) : w.heap.size ≤ gb370)); have n4_ := Aside0.mk ((by rw [hg]; exact (below_size (by repeat (first | (with_reducible first | exact HB.out | apply below_alloc | apply pw_below_drewN | apply below_drew1 | refine below_set ?_ GE369.out) | exact HB.out))) : w.heap.size ≤ gb370)); have n5_ := Aside0.mk ((by rw [hg]; exact Nat.ne_of_lt (blk_lt (g := gb369) (o := .cells #[.int .i64 a0_0, .int .u64 a0_1, .int .u64 a0_2, .int .u64 a0_3, .int .u64 a0_4] 25 (0, 0)) (by (with_reducible repeat (first | refine blk_drewN ?_ _ | refine blk_drew ?_ | refine blk_alloc ?_ _)); exact BK369.out)) : gb369 ≠ gb370)); have n6_ := Aside0.mk ((by rw [hg]; exact Nat.ne_of_gt (blk_lt (g := gb369) (o := .cells #[.int .i64 a0_0, .int .u64 a0_1, .int .u64 a0_2, .int .u64 a0_3, .int .u64 a0_4] 25 (0, 0)) (by (with_reducible repeat (first | refine blk_drewN ?_ _ | refine blk_drew ?_ | refine blk_alloc ?_ _)); exact BK369.out)) : gb370 ≠ gb369)); clear BK369; clear HB; have BK369 := n0_; have HB := n1_; have BK370 := n2_; have GW370 := n3_; have GE370 := n4_; have NB369_370 := n5_; have NB370_369 := n6_; clear n0_ n1_ n2_ n3_ n4_ n5_ n6_; clear hb hbox hg; have hnb13 := NB369_370.out; have hnc13 := NB370_369.out; have hcz14_0 : w12.cell? ⟨gb369, 0, none⟩ = some (.int .i64 a0_0) := (blk_cell BK369.out 0).trans rfl; have hcz14_1 : w12.cell? ⟨gb369, 1, none⟩ = some (.int .u64 a0_1) := (blk_cell BK369.out 1).trans rfl; have hcz14_2 : w12.cell? ⟨gb369, 2, none⟩ = some (.int .u64 a0_2) := (blk_cell BK369.out 2).trans rfl; have hcz14_3 : w12.cell? ⟨gb369, 3, none⟩ = some (.int .u64 a0_3) := (blk_cell BK369.out 3).trans rfl; have hcz14_4 : w12.cell? ⟨gb369, 4, none⟩ = some (.int .u64 a0_4) := (blk_cell BK369.out 4).trans rfl; have hfz14_0 := blk_frozen BK369.out 0; have hfz14_1 := blk_frozen BK369.out 1; have hfz14_2 := blk_frozen BK369.out 2; have hfz14_3 := blk_frozen BK369.out 3; have hfz14_4 := blk_frozen BK369.out 4) | ((with_reducible refine gate_callee (f := 31) rfl ?_); refine goesL_ (some 11) rfl rfl Tryd.func31 (by kernel_rfl) rfl #[.agg #[.int .i64 a0_0, .int .u64 a0_1, .int .u64 a0_2, .int .u64 a0_3, .int .u64 a0_4], .int .i64 a2] rfl (by (try simp only [List.map_toArray, List.map_cons, List.map_nil]); first | done | rfl | (simp only [List.length_drop, List.length_take]; rfl) | (go_simp; done) | (go_simp; rw [Int.tmod_eq_emod_of_nonneg (by omega)]; omega)) ?_; (with_reducible refine (attestorref08_bounded.calls a0_0 a0_1 a0_2 a0_3 a0_4 a2 true _ A4.out).mono ?_); rintro e w15 ⟨rfl, hb⟩; refine ⟨_, rfl, ?_⟩; have n0_ := Aside0.mk (blk_below (g := gb369) (o := .cells #[.int .i64 a0_0, .int .u64 a0_1, .int .u64 a0_2, .int .u64 a0_3, .int .u64 a0_4] 25 (0, 0)) (by (with_reducible repeat (first | refine blk_drewN ?_ _ | refine blk_drew ?_ | refine blk_alloc ?_ _)); exact BK369.out) hb); have n1_ := Aside0.mk (blk_below (g := gb370) (o := .cells #[.int .i64 0, .int .u64 0, .int .u64 0, .int .u64 0, .int .u64 0] 25 (0, 0)) (by (with_reducible repeat (first | refine blk_drewN ?_ _ | refine blk_drew ?_ | refine blk_alloc ?_ _)); exact BK370.out) hb); have n2_ := Aside0.mk (below_step (by repeat (first | (with_reducible first | exact HB.out | apply below_alloc | apply pw_below_drewN | apply below_drew1 | refine below_set ?_ GE369.out | refine below_set ?_ GE370.out) | exact HB.out)) hb); clear BK369; clear BK370; clear HB; have BK369 := n0_; have BK370 := n1_; have HB := n2_; clear n0_ n1_ n2_; (try clear hb); (try clear hb2); (try clear hk); (try clear hi); have hcz16_0 : w15.cell? ⟨gb369, 0, none⟩ = some (.int .i64 a0_0) := (blk_cell BK369.out 0).trans rfl; have hcz16_1 : w15.cell? ⟨gb369, 1, none⟩ = some (.int .u64 a0_1) := (blk_cell BK369.out 1).trans rfl; have hcz16_2 : w15.cell? ⟨gb369, 2, none⟩ = some (.int .u64 a0_2) := (blk_cell BK369.out 2).trans rfl; have hcz16_3 : w15.cell? ⟨gb369, 3, none⟩ = some (.int .u64 a0_3) := (blk_cell BK369.out 3).trans rfl; have hcz16_4 : w15.cell? ⟨gb369, 4, none⟩ = some (.int .u64 a0_4) := (blk_cell BK369.out 4).trans rfl; have hfz16_0 := blk_frozen BK369.out 0; have hfz16_1 := blk_frozen BK369.out 1; have hfz16_2 := blk_frozen BK369.out 2; have hfz16_3 := blk_frozen BK369.out 3; have hfz16_4 := blk_frozen BK369.out 4) | ((with_reducible refine gate_dst (N := 17) rfl ?_); refine Kd.R_lit (Kd.int .u64) _ 22 ?hg (N := 17) ?hd (xs := ([a1] : List Int)) (inner := [.int .u64 a1]) (ok := fun _ => True) (okp := fun _ => True) ?hr ?hp (fun _ hk => hk) trivial (Below.refl _ _) (Nat.le_refl _) (by simp) ?_; (case hd => rfl); (case hg => rfl); (case hr => first | (go_simp; done) | (go_simp; rfl)); (case hp => exact (Reps.one (show Kd.M (Kd.int .u64) _ _ _ a1 [.int .u64 a1] from rfl) (Reps.none _ _))); intro v373 w17 ho18 hb hg_ hnew_; clear hg_ hnew_; (first | rw [← Ny372.out] at ho18 | (simp only [Int.reduceToNat] at ho18; rw [← Ny372.out] at ho18)); have n0_ := Aside0.mk (Kd.R_lower ho18 (below_size (by repeat (first | (with_reducible first | exact HB.out | apply below_alloc | apply pw_below_drewN | apply below_drew1 | refine below_set ?_ GE369.out | refine below_set ?_ GE370.out) | exact HB.out)))); have n1_ := Aside0.mk (blk_below (g := gb369) (o := .cells #[.int .i64 a0_0, .int .u64 a0_1, .int .u64 a0_2, .int .u64 a0_3, .int .u64 a0_4] 25 (0, 0)) (by (with_reducible repeat (first | refine blk_drewN ?_ _ | refine blk_drew ?_ | refine blk_alloc ?_ _)); exact BK369.out) hb); have n2_ := Aside0.mk (blk_below (g := gb370) (o := .cells #[.int .i64 0, .int .u64 0, .int .u64 0, .int .u64 0, .int .u64 0] 25 (0, 0)) (by (with_reducible repeat (first | refine blk_drewN ?_ _ | refine blk_drew ?_ | refine blk_alloc ?_ _)); exact BK370.out) hb); have n3_ := Aside0.mk (below_step (by repeat (first | (with_reducible first | exact HB.out | apply below_alloc | apply pw_below_drewN | apply below_drew1 | refine below_set ?_ GE369.out | refine below_set ?_ GE370.out) | exact HB.out)) hb); clear BK369; clear BK370; clear HB; have HO374 := n0_; have BK369 := n1_; have BK370 := n2_; have HB := n3_; clear n0_ n1_ n2_ n3_; clear hb ho18; obtain ⟨Ao19, co19, eo19⟩ := Kd.R_slice HO374.out; subst eo19) | ((with_reducible refine gate_callee (f := 32) rfl ?_); refine goesL_ (some 18) rfl rfl Tryd.func32 (by kernel_rfl) rfl #[.agg #[.int .i64 a0_0, .int .u64 a0_1, .int .u64 a0_2, .int .u64 a0_3, .int .u64 a0_4], .slice Ao19 y372.length co19] rfl (by (try simp only [List.map_toArray, List.map_cons, List.map_nil]); first | done | rfl | (simp only [List.length_drop, List.length_take]; rfl) | (go_simp; done) | (go_simp; rw [Int.tmod_eq_emod_of_nonneg (by omega)]; omega)) ?_; (with_reducible refine (attestorref08_Absorb.calls k a0_0 a0_1 a0_2 a0_3 a0_4 _ _ y372 t375 t376 t377 t378 t379 _ ?side1 ?side2 A6.out).mono ?_); (case side1 => repeat (first | exact (Kd.R_reads' HO374.out).2.2 | (with_reducible refine Kd.C_alloc ?_ _) | (with_reducible refine Kd.C_drewN ?_ _) | (with_reducible refine Kd.C_drew ?_))); (case side2 => exact (Kd.R_reads' HO374.out).2.1); rintro e w20 ⟨rfl, hb⟩; refine ⟨_, rfl, ?_⟩; have n0_ := Aside0.mk (Kd.R_below (by (with_reducible repeat (first | apply Kd.R_alloc | apply Kd.R_drewN | apply Kd.R_drew)); exact HO374.out) hb); have n1_ := Aside0.mk (blk_below (g := gb369) (o := .cells #[.int .i64 a0_0, .int .u64 a0_1, .int .u64 a0_2, .int .u64 a0_3, .int .u64 a0_4] 25 (0, 0)) (by (with_reducible repeat (first | refine blk_drewN ?_ _ | refine blk_drew ?_ | refine blk_alloc ?_ _)); exact BK369.out) hb); have n2_ := Aside0.mk (blk_below (g := gb370) (o := .cells #[.int .i64 0, .int .u64 0, .int .u64 0, .int .u64 0, .int .u64 0] 25 (0, 0)) (by (with_reducible repeat (first | refine blk_drewN ?_ _ | refine blk_drew ?_ | refine blk_alloc ?_ _)); exact BK370.out) hb); have n3_ := Aside0.mk (below_step (by repeat (first | (with_reducible first | exact HB.out | apply below_alloc | apply pw_below_drewN | apply below_drew1 | refine below_set ?_ GE369.out | refine below_set ?_ GE370.out) | exact HB.out)) hb); clear HO374; clear BK369; clear BK370; clear HB; have HO374 := n0_; have BK369 := n1_; have BK370 := n2_; have HB := n3_; clear n0_ n1_ n2_ n3_; (try clear hb); (try clear hb2); (try clear hk); (try clear hi)) | ((with_reducible refine gate_callee (f := 11) rfl ?_); refine goesL_ (some 19) rfl rfl Tryd.func11 (by kernel_rfl) rfl #[.agg #[.int .i64 t375, .int .u64 t376, .int .u64 t377, .int .u64 t378, .int .u64 t379]] rfl (by (try simp only [List.map_toArray, List.map_cons, List.map_nil]); first | done | rfl | (simp only [List.length_drop, List.length_take]; rfl) | (go_simp; done) | (go_simp; rw [Int.tmod_eq_emod_of_nonneg (by omega)]; omega)) ?_; (with_reducible refine (attestorref08_Draw.calls k t375 t376 t377 t378 t379 t380 t381 t382 t383 t384 t385 _ A7.out).mono ?_); rintro e w21 ⟨rfl, hb⟩; refine ⟨_, rfl, ?_⟩; have n0_ := Aside0.mk (Kd.R_below (by (with_reducible repeat (first | apply Kd.R_alloc | apply Kd.R_drewN | apply Kd.R_drew)); exact HO374.out) hb); have n1_ := Aside0.mk (blk_below (g := gb369) (o := .cells #[.int .i64 a0_0, .int .u64 a0_1, .int .u64 a0_2, .int .u64 a0_3, .int .u64 a0_4] 25 (0, 0)) (by (with_reducible repeat (first | refine blk_drewN ?_ _ | refine blk_drew ?_ | refine blk_alloc ?_ _)); exact BK369.out) hb); have n2_ := Aside0.mk (blk_below (g := gb370) (o := .cells #[.int .i64 0, .int .u64 0, .int .u64 0, .int .u64 0, .int .u64 0] 25 (0, 0)) (by (with_reducible repeat (first | refine blk_drewN ?_ _ | refine blk_drew ?_ | refine blk_alloc ?_ _)); exact BK370.out) hb); have n3_ := Aside0.mk (below_step (by repeat (first | (with_reducible first | exact HB.out | apply below_alloc | apply pw_below_drewN | apply below_drew1 | refine below_set ?_ GE369.out | refine below_set ?_ GE370.out) | exact HB.out)) hb); clear HO374; clear BK369; clear BK370; clear HB; have HO374 := n0_; have BK369 := n1_; have BK370 := n2_; have HB := n3_; clear n0_ n1_ n2_ n3_; (try clear hb); (try clear hb2); (try clear hk); (try clear hi); have hcz22_0 : w21.cell? ⟨gb369, 0, none⟩ = some (.int .i64 a0_0) := (blk_cell BK369.out 0).trans rfl; have hcz22_1 : w21.cell? ⟨gb369, 1, none⟩ = some (.int .u64 a0_1) := (blk_cell BK369.out 1).trans rfl; have hcz22_2 : w21.cell? ⟨gb369, 2, none⟩ = some (.int .u64 a0_2) := (blk_cell BK369.out 2).trans rfl; have hcz22_3 : w21.cell? ⟨gb369, 3, none⟩ = some (.int .u64 a0_3) := (blk_cell BK369.out 3).trans rfl; have hcz22_4 : w21.cell? ⟨gb369, 4, none⟩ = some (.int .u64 a0_4) := (blk_cell BK369.out 4).trans rfl; have hfz22_0 := blk_frozen BK369.out 0; have hfz22_1 := blk_frozen BK369.out 1; have hfz22_2 := blk_frozen BK369.out 2; have hfz22_3 := blk_frozen BK369.out 3; have hfz22_4 := blk_frozen BK369.out 4))
        have n0_ : Aside0 (Kd.R (Kd.int .u64) 22 (((((w21.setCell ⟨gb369, 0, none⟩ (.int .i64 t380)).setCell ⟨gb369, 1, none⟩ (.int .u64 t381)).setCell ⟨gb369, 2, none⟩ (.int .u64 t382)).setCell ⟨gb369, 3, none⟩ (.int .u64 t383)).setCell ⟨gb369, 4, none⟩ (.int .u64 t384)) w.heap.size (fun _ => True) (.slice Ao19 y372.length co19) y372) := ⟨by (with_reducible repeat (first | apply Kd.R_alloc | apply Kd.R_drewN | apply Kd.R_drew)); exact Kd.R_mono (Kd.R_far (p := ⟨gb369, 4, none⟩) (Kd.R_far (p := ⟨gb369, 3, none⟩) (Kd.R_far (p := ⟨gb369, 2, none⟩) (Kd.R_far (p := ⟨gb369, 1, none⟩) (Kd.R_far (p := ⟨gb369, 0, none⟩) (Kd.R_types HO374.out BK369.out (by decide)) (fun _ hk => hk.2) (.int .i64 t380)) (fun _ hk => hk.2) (.int .u64 t381)) (fun _ hk => hk.2) (.int .u64 t382)) (fun _ hk => hk.2) (.int .u64 t383)) (fun _ hk => hk.2) (.int .u64 t384)) (fun _ hk => trivial)⟩
        have n1_ : Aside0 ((((((w21.setCell ⟨gb369, 0, none⟩ (.int .i64 t380)).setCell ⟨gb369, 1, none⟩ (.int .u64 t381)).setCell ⟨gb369, 2, none⟩ (.int .u64 t382)).setCell ⟨gb369, 3, none⟩ (.int .u64 t383)).setCell ⟨gb369, 4, none⟩ (.int .u64 t384)).heap[gb369]? = some (.cells #[.int .i64 t380, .int .u64 t381, .int .u64 t382, .int .u64 t383, .int .u64 t384] 25 (0, 0))) := ⟨by (with_reducible repeat (first | refine blk_drewN ?_ _ | refine blk_drew ?_ | refine blk_alloc ?_ _)); refine blk_put (cs := #[.int .i64 t380, .int .u64 t381, .int .u64 t382, .int .u64 t383, .int .u64 a0_4]) ?_ 4 _ rfl; (with_reducible repeat (first | refine blk_drewN ?_ _ | refine blk_drew ?_ | refine blk_alloc ?_ _)); refine blk_put (cs := #[.int .i64 t380, .int .u64 t381, .int .u64 t382, .int .u64 a0_3, .int .u64 a0_4]) ?_ 3 _ rfl; (with_reducible repeat (first | refine blk_drewN ?_ _ | refine blk_drew ?_ | refine blk_alloc ?_ _)); refine blk_put (cs := #[.int .i64 t380, .int .u64 t381, .int .u64 a0_2, .int .u64 a0_3, .int .u64 a0_4]) ?_ 2 _ rfl; (with_reducible repeat (first | refine blk_drewN ?_ _ | refine blk_drew ?_ | refine blk_alloc ?_ _)); refine blk_put (cs := #[.int .i64 t380, .int .u64 a0_1, .int .u64 a0_2, .int .u64 a0_3, .int .u64 a0_4]) ?_ 1 _ rfl; (with_reducible repeat (first | refine blk_drewN ?_ _ | refine blk_drew ?_ | refine blk_alloc ?_ _)); refine blk_put (cs := #[.int .i64 a0_0, .int .u64 a0_1, .int .u64 a0_2, .int .u64 a0_3, .int .u64 a0_4]) ?_ 0 _ rfl; (with_reducible repeat (first | refine blk_drewN ?_ _ | refine blk_drew ?_ | refine blk_alloc ?_ _)); exact BK369.out⟩
        have n2_ : Aside0 ((((((w21.setCell ⟨gb369, 0, none⟩ (.int .i64 t380)).setCell ⟨gb369, 1, none⟩ (.int .u64 t381)).setCell ⟨gb369, 2, none⟩ (.int .u64 t382)).setCell ⟨gb369, 3, none⟩ (.int .u64 t383)).setCell ⟨gb369, 4, none⟩ (.int .u64 t384)).heap[gb370]? = some (.cells #[.int .i64 0, .int .u64 0, .int .u64 0, .int .u64 0, .int .u64 0] 25 (0, 0))) := ⟨by (with_reducible repeat (first | refine blk_drewN ?_ _ | refine blk_drew ?_ | refine blk_alloc ?_ _)); refine blk_far ?_ NB370_369.out _; (with_reducible repeat (first | refine blk_drewN ?_ _ | refine blk_drew ?_ | refine blk_alloc ?_ _)); refine blk_far ?_ NB370_369.out _; (with_reducible repeat (first | refine blk_drewN ?_ _ | refine blk_drew ?_ | refine blk_alloc ?_ _)); refine blk_far ?_ NB370_369.out _; (with_reducible repeat (first | refine blk_drewN ?_ _ | refine blk_drew ?_ | refine blk_alloc ?_ _)); refine blk_far ?_ NB370_369.out _; (with_reducible repeat (first | refine blk_drewN ?_ _ | refine blk_drew ?_ | refine blk_alloc ?_ _)); refine blk_far ?_ NB370_369.out _; (with_reducible repeat (first | refine blk_drewN ?_ _ | refine blk_drew ?_ | refine blk_alloc ?_ _)); exact BK370.out⟩
        have n3_ : Aside0 (Below w.heap.size w (((((w21.setCell ⟨gb369, 0, none⟩ (.int .i64 t380)).setCell ⟨gb369, 1, none⟩ (.int .u64 t381)).setCell ⟨gb369, 2, none⟩ (.int .u64 t382)).setCell ⟨gb369, 3, none⟩ (.int .u64 t383)).setCell ⟨gb369, 4, none⟩ (.int .u64 t384))) := ⟨by repeat (first | (with_reducible first | exact HB.out | apply below_alloc | apply pw_below_drewN | apply below_drew1 | refine below_set ?_ GE369.out | refine below_set ?_ GE370.out) | exact HB.out)⟩
        (try clear HO374)
        (try clear BK369)
        (try clear BK370)
        (try clear HB)
        generalize (((((w21.setCell ⟨gb369, 0, none⟩ (.int .i64 t380)).setCell ⟨gb369, 1, none⟩ (.int .u64 t381)).setCell ⟨gb369, 2, none⟩ (.int .u64 t382)).setCell ⟨gb369, 3, none⟩ (.int .u64 t383)).setCell ⟨gb369, 4, none⟩ (.int .u64 t384)) = w23 at n0_ n1_ n2_ n3_ ⊢
        have HO374 := n0_
        have BK369 := n1_
        have BK370 := n2_
        have HB := n3_
        clear n0_ n1_ n2_ n3_
        have n0_ := Aside0.mk (Kd.R_drew HO374.out)
        have n1_ := Aside0.mk (blk_drew BK369.out)
        have n2_ := Aside0.mk (blk_drew BK370.out)
        have n3_ := Aside0.mk (below_drew1 HB.out)
        clear HO374
        clear BK369
        clear BK370
        clear HB
        have HO374 := n0_
        have BK369 := n1_
        have BK370 := n2_
        have HB := n3_
        clear n0_ n1_ n2_ n3_
        refine start_ (n := 8) (S := fun w' => w'.cell? ⟨gb369, 0, none⟩ = some (.int .i64 t380) ∧ w'.cell? ⟨gb369, 1, none⟩ = some (.int .u64 t381) ∧ w'.cell? ⟨gb369, 2, none⟩ = some (.int .u64 t382) ∧ w'.cell? ⟨gb369, 3, none⟩ = some (.int .u64 t383) ∧ w'.cell? ⟨gb369, 4, none⟩ = some (.int .u64 t384)) (ds := []) #[false, false, false, false, false, false, false, false] (by kernel_rfl) rfl rfl ⟨(blk_cell BK369.out 0).trans rfl, (blk_cell BK369.out 1).trans rfl, (blk_cell BK369.out 2).trans rfl, (blk_cell BK369.out 3).trans rfl, (blk_cell BK369.out 4).trans rfl⟩ (fun hHeld => ?_); refine with_tabW attestorref08_Grind.tab4 attestorref08_Grind.bits4 (fun HT_ HW_ => ?_)
        generalize w23.drew = w24 at HO374 BK369 BK370 HB hHeld ⊢
        refine pure_ (i := 1) (N := some 23) (v := ?_) (a' := ?_) #[false, true, false, false, false, false, false, false] rfl rfl (any_of HT_.out (by kernel_rfl)) (fun _ _ _ h => h) (Or.inl ⟨by rfl, ?_⟩) ?_ ?_
        rotate_left
        · intro w'
          go_simp
          with_reducible rfl
        rotate_left
        · simp only [Act.put, List.setIfInBounds_toArray, List.set_cons_zero, List.set_cons_succ, i64_w, i32_w]
          rfl
        refine pure_ (i := 2) (N := some 24) (v := ?_) (a' := ?_) #[false, true, true, false, false, false, false, false] rfl rfl (any_of HT_.out (by kernel_rfl)) (fun _ _ _ h => h) (Or.inl ⟨by rfl, ?_⟩) ?_ ?_
        rotate_left
        · intro w'
          go_simp
          with_reducible rfl
        rotate_left
        · simp only [Act.put, List.setIfInBounds_toArray, List.set_cons_zero, List.set_cons_succ, i64_w, i32_w]
          rfl
        refine pure_ (i := 3) (N := some 25) (v := ?_) (a' := ?_) #[false, true, true, true, false, false, false, false] rfl rfl (any_of HT_.out (by kernel_rfl)) (fun _ _ _ h => h) (Or.inl ⟨by rfl, ?_⟩) ?_ ?_
        rotate_left
        · intro w'
          go_simp
          with_reducible rfl
        rotate_left
        · simp only [Act.put, List.setIfInBounds_toArray, List.set_cons_zero, List.set_cons_succ, i64_w, i32_w]
          rfl
        refine pure_ (i := 4) (N := some 26) (v := ?_) (a' := ?_) #[false, true, true, true, true, false, false, false] rfl rfl (any_of HT_.out (by kernel_rfl)) (fun _ _ _ h => h) (Or.inl ⟨by rfl, ?_⟩) ?_ ?_
        rotate_left
        · intro w'
          go_simp
          with_reducible rfl
        rotate_left
        · simp only [Act.put, List.setIfInBounds_toArray, List.set_cons_zero, List.set_cons_succ, i64_w, i32_w]
          rfl
        refine pure_ (i := 5) (N := some 27) (v := ?_) (a' := ?_) #[false, true, true, true, true, true, false, false] rfl rfl (any_of HT_.out (by kernel_rfl)) (fun _ _ _ h => h) (Or.inl ⟨by rfl, ?_⟩) ?_ ?_
        rotate_left
        · intro w'
          go_simp
          with_reducible rfl
        rotate_left
        · simp only [Act.put, List.setIfInBounds_toArray, List.set_cons_zero, List.set_cons_succ, i64_w, i32_w]
          rfl
        refine take_ (i := 0) (N := some 22) (v := ?_) (a' := ?_) #[true, true, true, true, true, true, false, false] rfl rfl (take_ofW HT_.out HW_.out (by kernel_rfl)) (fun _ _ _ h => h) (Or.inl ⟨by rfl, ?_⟩) hHeld ?_ ?_
        rotate_left
        · rintro w' ⟨s0, s1, s2, s3, s4⟩
          go_simp
          with_reducible rfl
        rotate_left
        · simp only [Act.put, List.setIfInBounds_toArray, List.set_cons_zero, List.set_cons_succ, i64_w, i32_w]
          rfl
        refine one_ (i := 6) (N := none) #[true, true, true, true, true, true, true, false] rfl rfl (one_of HT_.out (by kernel_rfl)) (by decide) (fun K hK => ?_)
        have hs25 : w24.cell? ⟨gb370, 0, none⟩ = some (.int .i64 0) := (blk_cell BK370.out 0).trans rfl
        have hfs25 := blk_frozen BK370.out 0
        have hns25_0 := NB369_370.out
        have hms25_0 := NB370_369.out
        have hs26 : w24.cell? ⟨gb370, 1, none⟩ = some (.int .u64 0) := (blk_cell BK370.out 1).trans rfl
        have hfs26 := blk_frozen BK370.out 1
        have hns26_0 := NB369_370.out
        have hms26_0 := NB370_369.out
        have hs27 : w24.cell? ⟨gb370, 2, none⟩ = some (.int .u64 0) := (blk_cell BK370.out 2).trans rfl
        have hfs27 := blk_frozen BK370.out 2
        have hns27_0 := NB369_370.out
        have hms27_0 := NB370_369.out
        have hs28 : w24.cell? ⟨gb370, 3, none⟩ = some (.int .u64 0) := (blk_cell BK370.out 3).trans rfl
        have hfs28 := blk_frozen BK370.out 3
        have hns28_0 := NB369_370.out
        have hms28_0 := NB370_369.out
        have hs29 : w24.cell? ⟨gb370, 4, none⟩ = some (.int .u64 0) := (blk_cell BK370.out 4).trans rfl
        have hfs29 := blk_frozen BK370.out 4
        have hns29_0 := NB369_370.out
        have hms29_0 := NB370_369.out
        refine skip_ (w1 := ?_) (by rfl) rfl ?_ ?_
        rotate_left
        · go_simp
          rfl
        refine hK.out _ _ ⟨((cell_far (p := ⟨gb370, _, none⟩) NB369_370.out _).trans (((cell_far (p := ⟨gb370, _, none⟩) NB369_370.out _).trans (((cell_far (p := ⟨gb370, _, none⟩) NB369_370.out _).trans (((cell_far (p := ⟨gb370, _, none⟩) NB369_370.out _).trans (((cell_far (p := ⟨gb370, _, none⟩) NB369_370.out _).trans (hHeld.1)))))))))), ((cell_far (p := ⟨gb370, _, none⟩) NB369_370.out _).trans (((cell_far (p := ⟨gb370, _, none⟩) NB369_370.out _).trans (((cell_far (p := ⟨gb370, _, none⟩) NB369_370.out _).trans (((cell_far (p := ⟨gb370, _, none⟩) NB369_370.out _).trans (((cell_far (p := ⟨gb370, _, none⟩) NB369_370.out _).trans (hHeld.2.1)))))))))), ((cell_far (p := ⟨gb370, _, none⟩) NB369_370.out _).trans (((cell_far (p := ⟨gb370, _, none⟩) NB369_370.out _).trans (((cell_far (p := ⟨gb370, _, none⟩) NB369_370.out _).trans (((cell_far (p := ⟨gb370, _, none⟩) NB369_370.out _).trans (((cell_far (p := ⟨gb370, _, none⟩) NB369_370.out _).trans (hHeld.2.2.1)))))))))), ((cell_far (p := ⟨gb370, _, none⟩) NB369_370.out _).trans (((cell_far (p := ⟨gb370, _, none⟩) NB369_370.out _).trans (((cell_far (p := ⟨gb370, _, none⟩) NB369_370.out _).trans (((cell_far (p := ⟨gb370, _, none⟩) NB369_370.out _).trans (((cell_far (p := ⟨gb370, _, none⟩) NB369_370.out _).trans (hHeld.2.2.2.1)))))))))), ((cell_far (p := ⟨gb370, _, none⟩) NB369_370.out _).trans (((cell_far (p := ⟨gb370, _, none⟩) NB369_370.out _).trans (((cell_far (p := ⟨gb370, _, none⟩) NB369_370.out _).trans (((cell_far (p := ⟨gb370, _, none⟩) NB369_370.out _).trans (((cell_far (p := ⟨gb370, _, none⟩) NB369_370.out _).trans (hHeld.2.2.2.2))))))))))⟩ (fun hHeld => ?_)
        clear hK K
        refine pure_ (i := 7) (N := some 7) (v := ?_) (a' := ?_) #[true, true, true, true, true, true, true, true] rfl rfl (any_of HT_.out (by kernel_rfl)) (fun _ _ _ h => h) (Or.inl ⟨by rfl, ?_⟩) ?_ ?_
        rotate_left
        · intro w'
          go_simp
          with_reducible rfl
        rotate_left
        · simp only [Act.put, List.setIfInBounds_toArray, List.set_cons_zero, List.set_cons_succ, i64_w, i32_w]
          rfl
        refine done_ (done_of HT_.out (by kernel_rfl)) ?_
        try go_wp2
        refine bodyPost_ret (results_ct rfl _ _ gb370 25 #[.int .i64 t380, .int .u64 t381, .int .u64 t382, .int .u64 t383, .int .u64 t384] (0, 0) _ rfl (by (with_reducible repeat (first | refine blk_drewN ?_ _ | refine blk_drew ?_ | refine blk_alloc ?_ _)); refine blk_put (cs := #[.int .i64 t380, .int .u64 t381, .int .u64 t382, .int .u64 t383, .int .u64 0]) ?_ 4 _ rfl; (with_reducible repeat (first | refine blk_drewN ?_ _ | refine blk_drew ?_ | refine blk_alloc ?_ _)); refine blk_put (cs := #[.int .i64 t380, .int .u64 t381, .int .u64 t382, .int .u64 0, .int .u64 0]) ?_ 3 _ rfl; (with_reducible repeat (first | refine blk_drewN ?_ _ | refine blk_drew ?_ | refine blk_alloc ?_ _)); refine blk_put (cs := #[.int .i64 t380, .int .u64 t381, .int .u64 0, .int .u64 0, .int .u64 0]) ?_ 2 _ rfl; (with_reducible repeat (first | refine blk_drewN ?_ _ | refine blk_drew ?_ | refine blk_alloc ?_ _)); refine blk_put (cs := #[.int .i64 t380, .int .u64 0, .int .u64 0, .int .u64 0, .int .u64 0]) ?_ 1 _ rfl; (with_reducible repeat (first | refine blk_drewN ?_ _ | refine blk_drew ?_ | refine blk_alloc ?_ _)); refine blk_put (cs := #[.int .i64 0, .int .u64 0, .int .u64 0, .int .u64 0, .int .u64 0]) ?_ 0 _ rfl; (with_reducible repeat (first | refine blk_drewN ?_ _ | refine blk_drew ?_ | refine blk_alloc ?_ _)); exact BK370.out) Tryd.underlying25 rfl (by kernel_rfl)) rfl ?_
        exact ⟨by first | rfl | (simp [errW_none, errW_some] <;> rfl) | (simp only [← hji9]; first | rfl | (simp [errW_none, errW_some] <;> rfl)) | (simp [*, errW_none, errW_some] <;> rfl), by repeat (first | (with_reducible first | exact HB.out | apply below_alloc | apply pw_below_drewN | apply below_drew1 | refine below_set ?_ GE369.out | refine below_set ?_ GE370.out) | exact HB.out)⟩
    · rw [if_neg c8] at H
      exact absurd H (by simp)
  · replace c5 := Bool.eq_false_iff.mpr c5
    subst c5
    have H1 : (some (0, 0, 0, 0, 0, false)) = some (r1, r2, r3, r4, r5, r6) := by rw [if_neg (show ¬ (false = true) by decide)] at H; exact H
    clear H
    have H := H1
    clear H1
    simp only [Option.some.injEq, Prod.mk.injEq] at H
    obtain ⟨rfl, rfl, rfl, rfl, rfl, rfl⟩ := H
    go_enter Tryd.func16, Tryd.ntmps16
    go_wp2_with (first | ((with_reducible refine gate_dst (N := 3) rfl ?_); refine box_event ?hg (N := 3) ?hd (cs := #[.int .i64 a0_0, .int .u64 a0_1, .int .u64 a0_2, .int .u64 a0_3, .int .u64 a0_4]) (t := 25) ?hr ?_; (case hd => rfl); (case hg => rfl); (case hr => first | (go_simp; done) | (go_simp; rfl)); intro gb369 hg w30 hbox hb; have n0_ := Aside0.mk (below_step (by repeat (first | (with_reducible first | exact HB.out | apply below_alloc | apply pw_below_drewN | apply below_drew1) | exact HB.out)) hb); have n1_ := Aside0.mk (hbox); have n2_ := Aside0.mk ((by rw [hg]; exact (below_size (by repeat (first | (with_reducible first | exact HB.out | apply below_alloc | apply pw_below_drewN | apply below_drew1) | exact HB.out))) : w.heap.size ≤ gb369)); have n3_ := Aside0.mk ((by rw [hg]; exact (below_size (by repeat (first | (with_reducible first | exact HB.out | apply below_alloc | apply pw_below_drewN | apply below_drew1) | exact HB.out))) : w.heap.size ≤ gb369)); clear HB; have HB := n0_; have BK369 := n1_; have GW369 := n2_; have GE369 := n3_; clear n0_ n1_ n2_ n3_; clear hb hbox hg) | ((with_reducible refine gate_dst (N := 6) rfl ?_); refine box_event ?hg (N := 6) ?hd (cs := #[.int .i64 0, .int .u64 0, .int .u64 0, .int .u64 0, .int .u64 0]) (t := 25) ?hr ?_; (case hd => rfl); (case hg => rfl); (case hr => first | (go_simp; done) | (go_simp; rfl)); intro gb370 hg w31 hbox hb; have n0_ := Aside0.mk (blk_below (g := gb369) (o := .cells #[.int .i64 a0_0, .int .u64 a0_1, .int .u64 a0_2, .int .u64 a0_3, .int .u64 a0_4] 25 (0, 0)) (by (with_reducible repeat (first | refine blk_drewN ?_ _ | refine blk_drew ?_ | refine blk_alloc ?_ _)); exact BK369.out) hb); have n1_ := Aside0.mk (below_step (by repeat (first | (with_reducible first | exact HB.out | apply below_alloc | apply pw_below_drewN | apply below_drew1 | refine below_set ?_ GE369.out) | exact HB.out)) hb); have n2_ := Aside0.mk (hbox); have n3_ := Aside0.mk ((by rw [hg]; exact (below_size (by repeat (first | (with_reducible first | exact HB.out | apply below_alloc | apply pw_below_drewN | apply below_drew1 | refine below_set ?_ GE369.out) | exact HB.out))) : w.heap.size ≤ gb370)); have n4_ := Aside0.mk ((by rw [hg]; exact (below_size (by repeat (first | (with_reducible first | exact HB.out | apply below_alloc | apply pw_below_drewN | apply below_drew1 | refine below_set ?_ GE369.out) | exact HB.out))) : w.heap.size ≤ gb370)); have n5_ := Aside0.mk ((by rw [hg]; exact Nat.ne_of_lt (blk_lt (g := gb369) (o := .cells #[.int .i64 a0_0, .int .u64 a0_1, .int .u64 a0_2, .int .u64 a0_3, .int .u64 a0_4] 25 (0, 0)) (by (with_reducible repeat (first | refine blk_drewN ?_ _ | refine blk_drew ?_ | refine blk_alloc ?_ _)); exact BK369.out)) : gb369 ≠ gb370)); have n6_ := Aside0.mk ((by rw [hg]; exact Nat.ne_of_gt (blk_lt (g := gb369) (o := .cells #[.int .i64 a0_0, .int .u64 a0_1, .int .u64 a0_2, .int .u64 a0_3, .int .u64 a0_4] 25 (0, 0)) (by (with_reducible repeat (first | refine blk_drewN ?_ _ | refine blk_drew ?_ | refine blk_alloc ?_ _)); exact BK369.out)) : gb370 ≠ gb369)); clear BK369; clear HB; have BK369 := n0_; have HB := n1_; have BK370 := n2_; have GW370 := n3_; have GE370 := n4_; have NB369_370 := n5_; have NB370_369 := n6_; clear n0_ n1_ n2_ n3_ n4_ n5_ n6_; clear hb hbox hg; have hnb32 := NB369_370.out; have hnc32 := NB370_369.out; have hcz33_0 : w31.cell? ⟨gb369, 0, none⟩ = some (.int .i64 a0_0) := (blk_cell BK369.out 0).trans rfl; have hcz33_1 : w31.cell? ⟨gb369, 1, none⟩ = some (.int .u64 a0_1) := (blk_cell BK369.out 1).trans rfl; have hcz33_2 : w31.cell? ⟨gb369, 2, none⟩ = some (.int .u64 a0_2) := (blk_cell BK369.out 2).trans rfl; have hcz33_3 : w31.cell? ⟨gb369, 3, none⟩ = some (.int .u64 a0_3) := (blk_cell BK369.out 3).trans rfl; have hcz33_4 : w31.cell? ⟨gb369, 4, none⟩ = some (.int .u64 a0_4) := (blk_cell BK369.out 4).trans rfl; have hfz33_0 := blk_frozen BK369.out 0; have hfz33_1 := blk_frozen BK369.out 1; have hfz33_2 := blk_frozen BK369.out 2; have hfz33_3 := blk_frozen BK369.out 3; have hfz33_4 := blk_frozen BK369.out 4) | ((with_reducible refine gate_callee (f := 31) rfl ?_); refine goesL_ (some 11) rfl rfl Tryd.func31 (by kernel_rfl) rfl #[.agg #[.int .i64 a0_0, .int .u64 a0_1, .int .u64 a0_2, .int .u64 a0_3, .int .u64 a0_4], .int .i64 a2] rfl (by (try simp only [List.map_toArray, List.map_cons, List.map_nil]); first | done | rfl | (simp only [List.length_drop, List.length_take]; rfl) | (go_simp; done) | (go_simp; rw [Int.tmod_eq_emod_of_nonneg (by omega)]; omega)) ?_; (with_reducible refine (attestorref08_bounded.calls a0_0 a0_1 a0_2 a0_3 a0_4 a2 false _ A4.out).mono ?_); rintro e w34 ⟨rfl, hb⟩; refine ⟨_, rfl, ?_⟩; have n0_ := Aside0.mk (blk_below (g := gb369) (o := .cells #[.int .i64 a0_0, .int .u64 a0_1, .int .u64 a0_2, .int .u64 a0_3, .int .u64 a0_4] 25 (0, 0)) (by (with_reducible repeat (first | refine blk_drewN ?_ _ | refine blk_drew ?_ | refine blk_alloc ?_ _)); exact BK369.out) hb); have n1_ := Aside0.mk (blk_below (g := gb370) (o := .cells #[.int .i64 0, .int .u64 0, .int .u64 0, .int .u64 0, .int .u64 0] 25 (0, 0)) (by (with_reducible repeat (first | refine blk_drewN ?_ _ | refine blk_drew ?_ | refine blk_alloc ?_ _)); exact BK370.out) hb); have n2_ := Aside0.mk (below_step (by repeat (first | (with_reducible first | exact HB.out | apply below_alloc | apply pw_below_drewN | apply below_drew1 | refine below_set ?_ GE369.out | refine below_set ?_ GE370.out) | exact HB.out)) hb); clear BK369; clear BK370; clear HB; have BK369 := n0_; have BK370 := n1_; have HB := n2_; clear n0_ n1_ n2_; (try clear hb); (try clear hb2); (try clear hk); (try clear hi); have hcz35_0 : w34.cell? ⟨gb370, 0, none⟩ = some (.int .i64 0) := (blk_cell BK370.out 0).trans rfl; have hcz35_1 : w34.cell? ⟨gb370, 1, none⟩ = some (.int .u64 0) := (blk_cell BK370.out 1).trans rfl; have hcz35_2 : w34.cell? ⟨gb370, 2, none⟩ = some (.int .u64 0) := (blk_cell BK370.out 2).trans rfl; have hcz35_3 : w34.cell? ⟨gb370, 3, none⟩ = some (.int .u64 0) := (blk_cell BK370.out 3).trans rfl; have hcz35_4 : w34.cell? ⟨gb370, 4, none⟩ = some (.int .u64 0) := (blk_cell BK370.out 4).trans rfl; have hfz35_0 := blk_frozen BK370.out 0; have hfz35_1 := blk_frozen BK370.out 1; have hfz35_2 := blk_frozen BK370.out 2; have hfz35_3 := blk_frozen BK370.out 3; have hfz35_4 := blk_frozen BK370.out 4))
    refine bodyPost_ret (results_ct rfl _ _ gb370 25 #[.int .i64 0, .int .u64 0, .int .u64 0, .int .u64 0, .int .u64 0] (0, 0) _ rfl (by (with_reducible repeat (first | refine blk_drewN ?_ _ | refine blk_drew ?_ | refine blk_alloc ?_ _)); refine blk_put (cs := #[.int .i64 0, .int .u64 0, .int .u64 0, .int .u64 0, .int .u64 0]) ?_ 4 _ rfl; (with_reducible repeat (first | refine blk_drewN ?_ _ | refine blk_drew ?_ | refine blk_alloc ?_ _)); refine blk_put (cs := #[.int .i64 0, .int .u64 0, .int .u64 0, .int .u64 0, .int .u64 0]) ?_ 3 _ rfl; (with_reducible repeat (first | refine blk_drewN ?_ _ | refine blk_drew ?_ | refine blk_alloc ?_ _)); refine blk_put (cs := #[.int .i64 0, .int .u64 0, .int .u64 0, .int .u64 0, .int .u64 0]) ?_ 2 _ rfl; (with_reducible repeat (first | refine blk_drewN ?_ _ | refine blk_drew ?_ | refine blk_alloc ?_ _)); refine blk_put (cs := #[.int .i64 0, .int .u64 0, .int .u64 0, .int .u64 0, .int .u64 0]) ?_ 1 _ rfl; (with_reducible repeat (first | refine blk_drewN ?_ _ | refine blk_drew ?_ | refine blk_alloc ?_ _)); refine blk_put (cs := #[.int .i64 0, .int .u64 0, .int .u64 0, .int .u64 0, .int .u64 0]) ?_ 0 _ rfl; (with_reducible repeat (first | refine blk_drewN ?_ _ | refine blk_drew ?_ | refine blk_alloc ?_ _)); exact BK370.out) Tryd.underlying25 rfl (by kernel_rfl)) rfl ?_
    exact ⟨by first | rfl | (simp [errW_none, errW_some] <;> rfl) | (simp [*, errW_none, errW_some] <;> rfl), by repeat (first | (with_reducible first | exact HB.out | apply below_alloc | apply pw_below_drewN | apply below_drew1 | refine below_set ?_ GE369.out | refine below_set ?_ GE370.out) | exact HB.out)⟩

end Go.Proofs.YtkailiemikjfbaaDoor.Q
end
section
namespace Go.Proofs.YtkailiemikjfbaaDoor.Q
open Go.RowKit Go.Proofs.YtkailiemikjfbaaDoorW.PrintWords Go.Proofs.YtkailiemikjfbaaDoorW.PrintLast Go.Proofs.YtkailiemikjfbaaDoorW.PrintMore
attribute [local go_sem] max2_int min2_int max_two min_two max_three min_three max_four min_four   -- for this text's walks alone
set_option linter.unusedVariables false
set_option linter.unusedSimpArgs false

/-! ### attestorref08_Search: function 18 -/
mutual
def attestorref08_Search.l0 : Nat → Int → Int → Int → Int → Int → Int → Int → Int → Option (Int × Bool)
  | 0, _, _, _, _, _, _, _, _ => none
  | k + 1, x1, x2, x8, x387000, x387001, x387002, x387003, x387004 => if x8 < x2 then (if x8 < 1048576 then ((attestorref01_P.f x387000).bind fun t388 => (attestorref08_Search.j1 k x1 x2 x8 (decide ((IntKind.u64.wrap (x8)) < t388)) x387000 x387001 x387002 x387003 x387004)) else (attestorref08_Search.j1 k x1 x2 x8 false x387000 x387001 x387002 x387003 x387004)) else (attestorref08_Search.j1 k x1 x2 x8 false x387000 x387001 x387002 x387003 x387004)
def attestorref08_Search.j1 : Nat → Int → Int → Int → Bool → Int → Int → Int → Int → Int → Option (Int × Bool)
  | 0, _, _, _, _, _, _, _, _, _ => none
  | k + 1, x1, x2, x8, x29, x387000, x387001, x387002, x387003, x387004 => if x29 = true then ((attestorref08_Grind.f k x387000 x387001 x387002 x387003 x387004 (IntKind.u64.wrap (x8)) x1).bind fun bt389 => (if bt389.2.2.2.2.2 = true then (some (IntKind.u64.wrap (x8), true)) else (attestorref08_Search.l0 k x1 x2 (wrap64 (x8 + 1)) x387000 x387001 x387002 x387003 x387004))) else (some (0, false))
end
def attestorref08_Search.f (k : Nat) (a0_0 : Int) (a0_1 : Int) (a0_2 : Int) (a0_3 : Int) (a0_4 : Int) (a1 : Int) (a2 : Int) : Option (Int × Bool) := (attestorref08_bounded.f a0_0 a0_1 a0_2 a0_3 a0_4 a1).bind fun t387 => (if t387 = true then (attestorref08_Search.l0 k a1 a2 0 a0_0 a0_1 a0_2 a0_3 a0_4) else (some (0, false)))
theorem attestorref08_Search.mono_l : ∀ k, (∀ y0 y1 y2 y3 y4 y5 y6 y7, LeO (attestorref08_Search.l0 k y0 y1 y2 y3 y4 y5 y6 y7) (attestorref08_Search.l0 (k + 1) y0 y1 y2 y3 y4 y5 y6 y7)) ∧ (∀ y0 y1 y2 y3 y4 y5 y6 y7 y8, LeO (attestorref08_Search.j1 k y0 y1 y2 y3 y4 y5 y6 y7 y8) (attestorref08_Search.j1 (k + 1) y0 y1 y2 y3 y4 y5 y6 y7 y8))
  | 0 => ⟨fun _ _ _ _ _ _ _ _ r h => by simp [attestorref08_Search.l0] at h, fun _ _ _ _ _ _ _ _ _ r h => by simp [attestorref08_Search.j1] at h⟩
  | k + 1 => by
    obtain ⟨ih0, ih1⟩ := attestorref08_Search.mono_l k
    refine ⟨?_, ?_⟩
    · intro y0 y1 y2 y3 y4 y5 y6 y7
      unfold attestorref08_Search.l0
      repeat' first
      | (with_reducible exact ih0 _ _ _ _ _ _ _ _)
      | (with_reducible exact ih1 _ _ _ _ _ _ _ _ _)
      | (with_reducible exact attestorref08_Grind.mono _ _ _ _ _ _ _ _)
      | (with_reducible exact LeO.refl _)
      | (with_reducible exact LeO.none _)
      | (with_reducible refine LeO.ite ?_ ?_)
      | (with_reducible refine LeO.bind ?_ (fun _ => ?_))
      | exact ih0 _ _ _ _ _ _ _ _
      | exact ih1 _ _ _ _ _ _ _ _ _
      | exact attestorref08_Grind.mono _ _ _ _ _ _ _ _
      | exact LeO.none _
      | refine LeO.ite ?_ ?_
      | refine LeO.bind ?_ (fun _ => ?_)
    · intro y0 y1 y2 y3 y4 y5 y6 y7 y8
      unfold attestorref08_Search.j1
      repeat' first
      | (with_reducible exact ih0 _ _ _ _ _ _ _ _)
      | (with_reducible exact ih1 _ _ _ _ _ _ _ _ _)
      | (with_reducible exact attestorref08_Grind.mono _ _ _ _ _ _ _ _)
      | (with_reducible exact LeO.refl _)
      | (with_reducible exact LeO.none _)
      | (with_reducible refine LeO.ite ?_ ?_)
      | (with_reducible refine LeO.bind ?_ (fun _ => ?_))
      | exact ih0 _ _ _ _ _ _ _ _
      | exact ih1 _ _ _ _ _ _ _ _ _
      | exact attestorref08_Grind.mono _ _ _ _ _ _ _ _
      | exact LeO.none _
      | refine LeO.ite ?_ ?_
      | refine LeO.bind ?_ (fun _ => ?_)
theorem attestorref08_Search.mono : ∀ a0 a1 a2 a3 a4 a5 a6 k, LeO (attestorref08_Search.f k a0 a1 a2 a3 a4 a5 a6) (attestorref08_Search.f (k + 1) a0 a1 a2 a3 a4 a5 a6) := by
  intro a0 a1 a2 a3 a4 a5 a6 k
  obtain ⟨ih0, ih1⟩ := attestorref08_Search.mono_l k
  unfold attestorref08_Search.f
  repeat' first
      | (with_reducible exact ih0 _ _ _ _ _ _ _ _)
      | (with_reducible exact ih1 _ _ _ _ _ _ _ _ _)
      | (with_reducible exact attestorref08_Grind.mono _ _ _ _ _ _ _ _)
      | (with_reducible exact LeO.refl _)
      | (with_reducible exact LeO.none _)
      | (with_reducible refine LeO.ite ?_ ?_)
      | (with_reducible refine LeO.bind ?_ (fun _ => ?_))
      | exact ih0 _ _ _ _ _ _ _ _
      | exact ih1 _ _ _ _ _ _ _ _ _
      | exact attestorref08_Grind.mono _ _ _ _ _ _ _ _
      | exact LeO.none _
      | refine LeO.ite ?_ ?_
      | refine LeO.bind ?_ (fun _ => ?_)
set_option maxHeartbeats 8000000 in
set_option maxRecDepth 100000 in
theorem attestorref08_Search.calls (k : Nat) (a0_0 : Int) (a0_1 : Int) (a0_2 : Int) (a0_3 : Int) (a0_4 : Int) (a1 : Int) (a2 : Int) (r1 : Int) (r2 : Bool) (w : World) (h : attestorref08_Search.f k a0_0 a0_1 a0_2 a0_3 a0_4 a1 a2 = some (r1, r2)) :
    Calls Tryd.prog 18 #[.agg #[.int .i64 a0_0, .int .u64 a0_1, .int .u64 a0_2, .int .u64 a0_3, .int .u64 a0_4], .int .i64 a1, .int .i64 a2] w fun e w' => e = .returned (.tuple #[.int .u64 r1, .bool r2]) ∧ Below w.heap.size w w' := by
  have hu25 := Tryd.underlying25
  have HB := Aside0.mk (Below.refl w.heap.size w)
  have H : ((attestorref08_bounded.f a0_0 a0_1 a0_2 a0_3 a0_4 a1).bind fun t387 => (if t387 = true then (attestorref08_Search.l0 k a1 a2 0 a0_0 a0_1 a0_2 a0_3 a0_4) else (some (0, false)))) = some (r1, r2) := h
  clear h
  replace H := Option.bind_eq_some_iff.mp H
  obtain ⟨t387, A40, H⟩ := H
  replace H : (if t387 = true then (attestorref08_Search.l0 k a1 a2 0 a0_0 a0_1 a0_2 a0_3 a0_4) else (some (0, false))) = some (r1, r2) := H
  have A4 := Aside0.mk A40
  clear A40
  by_cases c5 : t387 = true
  · subst c5
    have H1 : (attestorref08_Search.l0 k a1 a2 0 a0_0 a0_1 a0_2 a0_3 a0_4) = some (r1, r2) := by rw [if_pos rfl] at H; exact H
    clear H
    have H := H1
    clear H1
    have H' := Aside0.mk H
    clear H
    go_enter Tryd.func18, Tryd.ntmps18
    go_wp2_with (first | ((with_reducible refine gate_dst (N := 3) rfl ?_); refine box_event ?hg (N := 3) ?hd (cs := #[.int .i64 a0_0, .int .u64 a0_1, .int .u64 a0_2, .int .u64 a0_3, .int .u64 a0_4]) (t := 25) ?hr ?_; (case hd => rfl); (case hg => rfl); (case hr => first | (go_simp; done) | (go_simp; rfl)); intro gb386 hg w6 hbox hb; have n0_ := Aside0.mk (below_step (by repeat (first | (with_reducible first | exact HB.out | apply below_alloc | apply pw_below_drewN | apply below_drew1) | exact HB.out)) hb); have n1_ := Aside0.mk (hbox); have n2_ := Aside0.mk ((by rw [hg]; exact (below_size (by repeat (first | (with_reducible first | exact HB.out | apply below_alloc | apply pw_below_drewN | apply below_drew1) | exact HB.out))) : w.heap.size ≤ gb386)); have n3_ := Aside0.mk ((by rw [hg]; exact (below_size (by repeat (first | (with_reducible first | exact HB.out | apply below_alloc | apply pw_below_drewN | apply below_drew1) | exact HB.out))) : w.heap.size ≤ gb386)); clear HB; have HB := n0_; have BK386 := n1_; have GW386 := n2_; have GE386 := n3_; clear n0_ n1_ n2_ n3_; clear hb hbox hg; have hcz7_0 : w6.cell? ⟨gb386, 0, none⟩ = some (.int .i64 a0_0) := (blk_cell BK386.out 0).trans rfl; have hcz7_1 : w6.cell? ⟨gb386, 1, none⟩ = some (.int .u64 a0_1) := (blk_cell BK386.out 1).trans rfl; have hcz7_2 : w6.cell? ⟨gb386, 2, none⟩ = some (.int .u64 a0_2) := (blk_cell BK386.out 2).trans rfl; have hcz7_3 : w6.cell? ⟨gb386, 3, none⟩ = some (.int .u64 a0_3) := (blk_cell BK386.out 3).trans rfl; have hcz7_4 : w6.cell? ⟨gb386, 4, none⟩ = some (.int .u64 a0_4) := (blk_cell BK386.out 4).trans rfl; have hfz7_0 := blk_frozen BK386.out 0; have hfz7_1 := blk_frozen BK386.out 1; have hfz7_2 := blk_frozen BK386.out 2; have hfz7_3 := blk_frozen BK386.out 3; have hfz7_4 := blk_frozen BK386.out 4) | ((with_reducible refine gate_callee (f := 31) rfl ?_); refine goesL_ (some 13) rfl rfl Tryd.func31 (by kernel_rfl) rfl #[.agg #[.int .i64 a0_0, .int .u64 a0_1, .int .u64 a0_2, .int .u64 a0_3, .int .u64 a0_4], .int .i64 a1] rfl (by (try simp only [List.map_toArray, List.map_cons, List.map_nil]); first | done | rfl | (simp only [List.length_drop, List.length_take]; rfl) | (go_simp; done) | (go_simp; rw [Int.tmod_eq_emod_of_nonneg (by omega)]; omega)) ?_; (with_reducible refine (attestorref08_bounded.calls a0_0 a0_1 a0_2 a0_3 a0_4 a1 true _ A4.out).mono ?_); rintro e w8 ⟨rfl, hb⟩; refine ⟨_, rfl, ?_⟩; have n0_ := Aside0.mk (blk_below (g := gb386) (o := .cells #[.int .i64 a0_0, .int .u64 a0_1, .int .u64 a0_2, .int .u64 a0_3, .int .u64 a0_4] 25 (0, 0)) (by (with_reducible repeat (first | refine blk_drewN ?_ _ | refine blk_drew ?_ | refine blk_alloc ?_ _)); exact BK386.out) hb); have n1_ := Aside0.mk (below_step (by repeat (first | (with_reducible first | exact HB.out | apply below_alloc | apply pw_below_drewN | apply below_drew1 | refine below_set ?_ GE386.out) | exact HB.out)) hb); clear BK386; clear HB; have BK386 := n0_; have HB := n1_; clear n0_ n1_; (try clear hb); (try clear hb2); (try clear hk); (try clear hi)))
    go_loopg [8] k (fun kq v8 w' => ∃ (x8_1 : Int), v8 = .int .i64 x8_1 ∧ Aside0 (attestorref08_Search.l0 kq a1 a2 x8_1 a0_0 a0_1 a0_2 a0_3 a0_4 = some (r1, r2)) ∧ Aside0 (kq ≤ k) ∧ Aside0 (w'.heap[gb386]? = some (.cells #[.int .i64 a0_0, .int .u64 a0_1, .int .u64 a0_2, .int .u64 a0_3, .int .u64 a0_4] 25 (0, 0))) ∧ Aside0 (Below w.heap.size w w'))
    case atStart => exact ⟨(0), (by first | rfl | (simp; done) | (simp [*]; done) | (simp; rfl) | (simp; decide +kernel)), H', ⟨Nat.le_refl _⟩, ⟨by (with_reducible repeat (first | refine blk_drewN ?_ _ | refine blk_drew ?_ | refine blk_alloc ?_ _)); exact BK386.out⟩, ⟨by repeat (first | (with_reducible first | exact HB.out | apply below_alloc | apply pw_below_drewN | apply below_drew1 | refine below_set ?_ GE386.out) | exact HB.out)⟩⟩
    case round =>
      clear H'
      try clear c1
      try clear p2
      try clear c3
      try clear c5
      try clear hcz7_0
      try clear hcz7_1
      try clear hcz7_2
      try clear hcz7_3
      try clear hcz7_4
      try clear hfz7_0
      try clear hfz7_1
      try clear hfz7_2
      try clear hfz7_3
      try clear hfz7_4
      obtain ⟨x8_1, rfl, HA, HK1, BK386, HB⟩ := hrel
      cases gk with
      | zero => exact absurd HA.out (by simp [attestorref08_Search.l0])
      | succ k1 =>
        have H := HA.out
        clear HA
        simp only [attestorref08_Search.l0] at H
        have HC9 := Aside0.mk H
        clear H
        go_upto_region 4 with (fail)
        go_cut [29] (fun v29 wc => ∃ (kq : Nat) (x29_8 : Bool), v29 = .bool x29_8 ∧ Aside0 (attestorref08_Search.j1 kq a1 a2 x8_1 x29_8 a0_0 a0_1 a0_2 a0_3 a0_4 = some (r1, r2)) ∧ Aside0 (kq ≤ k1) ∧ Aside0 (wc.heap[gb386]? = some (.cells #[.int .i64 a0_0, .int .u64 a0_1, .int .u64 a0_2, .int .u64 a0_3, .int .u64 a0_4] 25 (0, 0))) ∧ Aside0 (Below w.heap.size w wc))
        case first =>
          have H := HC9.out
          clear HC9
          by_cases c10 : x8_1 < a2
          · rw [if_pos c10] at H
            have c10b0 : decide (x8_1 < a2) = true := decide_eq_true c10
            clear c10
            (first | rw [c10b0] | (simp only [i64_w, i32_w]; rw [c10b0]) | skip)
            by_cases c11 : x8_1 < 1048576
            · rw [if_pos c11] at H
              have c11b0 : decide (x8_1 < 1048576) = true := decide_eq_true c11
              clear c11
              replace H := Option.bind_eq_some_iff.mp H
              obtain ⟨t388, A120, H⟩ := H
              replace H : (attestorref08_Search.j1 k1 a1 a2 x8_1 (decide ((IntKind.u64.wrap (x8_1)) < t388)) a0_0 a0_1 a0_2 a0_3 a0_4) = some (r1, r2) := H
              have A12 := Aside0.mk A120
              clear A120
              have H' := Aside0.mk H
              clear H
              have hcz13_0 : wr.cell? ⟨gb386, 0, none⟩ = some (.int .i64 a0_0) := (blk_cell BK386.out 0).trans rfl
              have hcz13_1 : wr.cell? ⟨gb386, 1, none⟩ = some (.int .u64 a0_1) := (blk_cell BK386.out 1).trans rfl
              have hcz13_2 : wr.cell? ⟨gb386, 2, none⟩ = some (.int .u64 a0_2) := (blk_cell BK386.out 2).trans rfl
              have hcz13_3 : wr.cell? ⟨gb386, 3, none⟩ = some (.int .u64 a0_3) := (blk_cell BK386.out 3).trans rfl
              have hcz13_4 : wr.cell? ⟨gb386, 4, none⟩ = some (.int .u64 a0_4) := (blk_cell BK386.out 4).trans rfl
              have hfz13_0 := blk_frozen BK386.out 0
              have hfz13_1 := blk_frozen BK386.out 1
              have hfz13_2 := blk_frozen BK386.out 2
              have hfz13_3 := blk_frozen BK386.out 3
              have hfz13_4 := blk_frozen BK386.out 4
              go_wp2_with (first | (go_at_call 20; (with_reducible refine (attestorref01_P.calls a0_0 t388 _ A12.out).mono ?_); rintro e w' ⟨rfl, ⟨nd, rfl⟩⟩))
              go_meet
              case rel => exact ⟨_, (decide ((IntKind.u64.wrap (x8_1)) < t388)), (by first | rfl | (simp; done) | (simp [*]; done) | (simp; rfl) | (simp; decide +kernel)), H', ⟨by have := HK1.out; first | omega | exact Nat.le_refl _⟩, ⟨by (with_reducible repeat (first | refine blk_drewN ?_ _ | refine blk_drew ?_ | refine blk_alloc ?_ _)); exact BK386.out⟩, ⟨by repeat (first | (with_reducible first | exact HB.out | apply below_alloc | apply pw_below_drewN | apply below_drew1 | refine below_set ?_ GE386.out) | exact HB.out)⟩⟩
            · rw [if_neg c11] at H
              have c11b0 : decide (x8_1 < 1048576) = false := decide_eq_false c11
              clear c11
              have H' := Aside0.mk H
              clear H
              go_wp2
              go_meet
              case rel => exact ⟨_, (false), (by first | rfl | (simp; done) | (simp [*]; done) | (simp; rfl) | (simp; decide +kernel)), H', ⟨by have := HK1.out; first | omega | exact Nat.le_refl _⟩, ⟨by (with_reducible repeat (first | refine blk_drewN ?_ _ | refine blk_drew ?_ | refine blk_alloc ?_ _)); exact BK386.out⟩, ⟨by repeat (first | (with_reducible first | exact HB.out | apply below_alloc | apply pw_below_drewN | apply below_drew1 | refine below_set ?_ GE386.out) | exact HB.out)⟩⟩
          · rw [if_neg c10] at H
            have c10b0 : decide (x8_1 < a2) = false := decide_eq_false c10
            clear c10
            (first | rw [c10b0] | (simp only [i64_w, i32_w]; rw [c10b0]) | skip)
            have H' := Aside0.mk H
            clear H
            go_wp2
            go_meet
            case rel => exact ⟨_, (false), (by first | rfl | (simp; done) | (simp [*]; done) | (simp; rfl) | (simp; decide +kernel)), H', ⟨by have := HK1.out; first | omega | exact Nat.le_refl _⟩, ⟨by (with_reducible repeat (first | refine blk_drewN ?_ _ | refine blk_drew ?_ | refine blk_alloc ?_ _)); exact BK386.out⟩, ⟨by repeat (first | (with_reducible first | exact HB.out | apply below_alloc | apply pw_below_drewN | apply below_drew1 | refine below_set ?_ GE386.out) | exact HB.out)⟩⟩
        case rest =>
          clear HC9
          try clear c1
          try clear p2
          try clear c3
          try clear c5
          try clear c10
          try clear c10b0
          try clear c11
          try clear c11b0
          try clear hcz13_0
          try clear hcz13_1
          try clear hcz13_2
          try clear hcz13_3
          try clear hcz13_4
          try clear hcz7_0
          try clear hcz7_1
          try clear hcz7_2
          try clear hcz7_3
          try clear hcz7_4
          try clear hfz13_0
          try clear hfz13_1
          try clear hfz13_2
          try clear hfz13_3
          try clear hfz13_4
          try clear hfz7_0
          try clear hfz7_1
          try clear hfz7_2
          try clear hfz7_3
          try clear hfz7_4
          try clear p2
          obtain ⟨kq, x29_8, rfl, HA, HJ8, BK386, HB⟩ := hcut
          cases kq with
          | zero => exact absurd HA.out (by simp [attestorref08_Search.j1])
          | succ kj8 =>
            have H := HA.out
            clear HA
            simp only [attestorref08_Search.j1] at H
            by_cases c14 : x29_8 = true
            · subst c14
              have H1 : ((attestorref08_Grind.f kj8 a0_0 a0_1 a0_2 a0_3 a0_4 (IntKind.u64.wrap (x8_1)) a1).bind fun bt389 => (if bt389.2.2.2.2.2 = true then (some (IntKind.u64.wrap (x8_1), true)) else (attestorref08_Search.l0 kj8 a1 a2 (wrap64 (x8_1 + 1)) a0_0 a0_1 a0_2 a0_3 a0_4))) = some (r1, r2) := by rw [if_pos rfl] at H; exact H
              clear H
              have H := H1
              clear H1
              replace H := Option.bind_eq_some_iff.mp H
              obtain ⟨⟨t389, t390, t391, t392, t393, t394⟩, A150, H⟩ := H
              replace H : (if t394 = true then (some (IntKind.u64.wrap (x8_1), true)) else (attestorref08_Search.l0 kj8 a1 a2 (wrap64 (x8_1 + 1)) a0_0 a0_1 a0_2 a0_3 a0_4)) = some (r1, r2) := H
              have A15 := Aside0.mk A150
              clear A150
              by_cases c16 : t394 = true
              · subst c16
                have H1 : (some (IntKind.u64.wrap (x8_1), true)) = some (r1, r2) := by rw [if_pos rfl] at H; exact H
                clear H
                have H := H1
                clear H1
                simp only [Option.some.injEq, Prod.mk.injEq] at H
                obtain ⟨rfl, rfl⟩ := H
                have hcz17_0 : wc.cell? ⟨gb386, 0, none⟩ = some (.int .i64 a0_0) := (blk_cell BK386.out 0).trans rfl
                have hcz17_1 : wc.cell? ⟨gb386, 1, none⟩ = some (.int .u64 a0_1) := (blk_cell BK386.out 1).trans rfl
                have hcz17_2 : wc.cell? ⟨gb386, 2, none⟩ = some (.int .u64 a0_2) := (blk_cell BK386.out 2).trans rfl
                have hcz17_3 : wc.cell? ⟨gb386, 3, none⟩ = some (.int .u64 a0_3) := (blk_cell BK386.out 3).trans rfl
                have hcz17_4 : wc.cell? ⟨gb386, 4, none⟩ = some (.int .u64 a0_4) := (blk_cell BK386.out 4).trans rfl
                have hfz17_0 := blk_frozen BK386.out 0
                have hfz17_1 := blk_frozen BK386.out 1
                have hfz17_2 := blk_frozen BK386.out 2
                have hfz17_3 := blk_frozen BK386.out 3
                have hfz17_4 := blk_frozen BK386.out 4
                go_wp2_with (first | ((with_reducible refine gate_callee (f := 16) rfl ?_); refine goesL_ (some 37) rfl rfl Tryd.func16 (by kernel_rfl) rfl #[.agg #[.int .i64 a0_0, .int .u64 a0_1, .int .u64 a0_2, .int .u64 a0_3, .int .u64 a0_4], .int .u64 (IntKind.u64.wrap (x8_1)), .int .i64 a1] rfl (by (try simp only [List.map_toArray, List.map_cons, List.map_nil]); first | done | rfl | (simp only [List.length_drop, List.length_take]; rfl) | (go_simp; done) | (go_simp; rw [Int.tmod_eq_emod_of_nonneg (by omega)]; omega)) ?_; (with_reducible refine (attestorref08_Grind.calls kj8 a0_0 a0_1 a0_2 a0_3 a0_4 (IntKind.u64.wrap (x8_1)) a1 t389 t390 t391 t392 t393 true _ A15.out).mono ?_); rintro e w18 ⟨rfl, hb⟩; refine ⟨_, rfl, ?_⟩; have n0_ := Aside0.mk (blk_below (g := gb386) (o := .cells #[.int .i64 a0_0, .int .u64 a0_1, .int .u64 a0_2, .int .u64 a0_3, .int .u64 a0_4] 25 (0, 0)) (by (with_reducible repeat (first | refine blk_drewN ?_ _ | refine blk_drew ?_ | refine blk_alloc ?_ _)); exact BK386.out) hb); have n1_ := Aside0.mk (below_step (by repeat (first | (with_reducible first | exact HB.out | apply below_alloc | apply pw_below_drewN | apply below_drew1 | refine below_set ?_ GE386.out) | exact HB.out)) hb); clear BK386; clear HB; have BK386 := n0_; have HB := n1_; clear n0_ n1_; (try clear hb); (try clear hb2); (try clear hk); (try clear hi)) | ((with_reducible refine gate_dst (N := 9) rfl ?_); refine box_event ?hg (N := 9) ?hd (cs := #[.int .i64 0, .int .u64 0, .int .u64 0, .int .u64 0, .int .u64 0]) (t := 25) ?hr ?_; (case hd => rfl); (case hg => rfl); (case hr => first | (go_simp; done) | (go_simp; rfl)); intro gb395 hg w19 hbox hb; have n0_ := Aside0.mk (blk_below (g := gb386) (o := .cells #[.int .i64 a0_0, .int .u64 a0_1, .int .u64 a0_2, .int .u64 a0_3, .int .u64 a0_4] 25 (0, 0)) (by (with_reducible repeat (first | refine blk_drewN ?_ _ | refine blk_drew ?_ | refine blk_alloc ?_ _)); exact BK386.out) hb); have n1_ := Aside0.mk (below_step (by repeat (first | (with_reducible first | exact HB.out | apply below_alloc | apply pw_below_drewN | apply below_drew1 | refine below_set ?_ GE386.out) | exact HB.out)) hb); have n2_ := Aside0.mk (hbox); have n3_ := Aside0.mk ((by rw [hg]; exact (below_size (by repeat (first | (with_reducible first | exact HB.out | apply below_alloc | apply pw_below_drewN | apply below_drew1 | refine below_set ?_ GE386.out) | exact HB.out))) : w.heap.size ≤ gb395)); have n4_ := Aside0.mk ((by rw [hg]; exact (below_size (by repeat (first | (with_reducible first | exact HB.out | apply below_alloc | apply pw_below_drewN | apply below_drew1 | refine below_set ?_ GE386.out) | exact HB.out))) : w.heap.size ≤ gb395)); have n5_ := Aside0.mk ((by rw [hg]; exact Nat.ne_of_lt (blk_lt (g := gb386) (o := .cells #[.int .i64 a0_0, .int .u64 a0_1, .int .u64 a0_2, .int .u64 a0_3, .int .u64 a0_4] 25 (0, 0)) (by (with_reducible repeat (first | refine blk_drewN ?_ _ | refine blk_drew ?_ | refine blk_alloc ?_ _)); exact BK386.out)) : gb386 ≠ gb395)); have n6_ := Aside0.mk ((by rw [hg]; exact Nat.ne_of_gt (blk_lt (g := gb386) (o := .cells #[.int .i64 a0_0, .int .u64 a0_1, .int .u64 a0_2, .int .u64 a0_3, .int .u64 a0_4] 25 (0, 0)) (by (with_reducible repeat (first | refine blk_drewN ?_ _ | refine blk_drew ?_ | refine blk_alloc ?_ _)); exact BK386.out)) : gb395 ≠ gb386)); clear BK386; clear HB; have BK386 := n0_; have HB := n1_; have BK395 := n2_; have GW395 := n3_; have GE395 := n4_; have NB386_395 := n5_; have NB395_386 := n6_; clear n0_ n1_ n2_ n3_ n4_ n5_ n6_; clear hb hbox hg; have hnb20 := NB395_386.out; have hnc20 := NB386_395.out; have hcz21_0 : w19.cell? ⟨gb395, 0, none⟩ = some (.int .i64 0) := (blk_cell BK395.out 0).trans rfl; have hcz21_1 : w19.cell? ⟨gb395, 1, none⟩ = some (.int .u64 0) := (blk_cell BK395.out 1).trans rfl; have hcz21_2 : w19.cell? ⟨gb395, 2, none⟩ = some (.int .u64 0) := (blk_cell BK395.out 2).trans rfl; have hcz21_3 : w19.cell? ⟨gb395, 3, none⟩ = some (.int .u64 0) := (blk_cell BK395.out 3).trans rfl; have hcz21_4 : w19.cell? ⟨gb395, 4, none⟩ = some (.int .u64 0) := (blk_cell BK395.out 4).trans rfl; have hfz21_0 := blk_frozen BK395.out 0; have hfz21_1 := blk_frozen BK395.out 1; have hfz21_2 := blk_frozen BK395.out 2; have hfz21_3 := blk_frozen BK395.out 3; have hfz21_4 := blk_frozen BK395.out 4))
                go_ret2
                exact ⟨by first | rfl | (simp [errW_none, errW_some] <;> rfl) | (simp [*, errW_none, errW_some] <;> rfl), by repeat (first | (with_reducible first | exact HB.out | apply below_alloc | apply pw_below_drewN | apply below_drew1 | refine below_set ?_ GE386.out | refine below_set ?_ GE395.out) | exact HB.out)⟩
              · replace c16 := Bool.eq_false_iff.mpr c16
                subst c16
                have H1 : (attestorref08_Search.l0 kj8 a1 a2 (wrap64 (x8_1 + 1)) a0_0 a0_1 a0_2 a0_3 a0_4) = some (r1, r2) := by rw [if_neg (show ¬ (false = true) by decide)] at H; exact H
                clear H
                have H := H1
                clear H1
                have H' := Aside0.mk H
                clear H
                have hcz22_0 : wc.cell? ⟨gb386, 0, none⟩ = some (.int .i64 a0_0) := (blk_cell BK386.out 0).trans rfl
                have hcz22_1 : wc.cell? ⟨gb386, 1, none⟩ = some (.int .u64 a0_1) := (blk_cell BK386.out 1).trans rfl
                have hcz22_2 : wc.cell? ⟨gb386, 2, none⟩ = some (.int .u64 a0_2) := (blk_cell BK386.out 2).trans rfl
                have hcz22_3 : wc.cell? ⟨gb386, 3, none⟩ = some (.int .u64 a0_3) := (blk_cell BK386.out 3).trans rfl
                have hcz22_4 : wc.cell? ⟨gb386, 4, none⟩ = some (.int .u64 a0_4) := (blk_cell BK386.out 4).trans rfl
                have hfz22_0 := blk_frozen BK386.out 0
                have hfz22_1 := blk_frozen BK386.out 1
                have hfz22_2 := blk_frozen BK386.out 2
                have hfz22_3 := blk_frozen BK386.out 3
                have hfz22_4 := blk_frozen BK386.out 4
                go_wp2_with (first | ((with_reducible refine gate_callee (f := 16) rfl ?_); refine goesL_ (some 37) rfl rfl Tryd.func16 (by kernel_rfl) rfl #[.agg #[.int .i64 a0_0, .int .u64 a0_1, .int .u64 a0_2, .int .u64 a0_3, .int .u64 a0_4], .int .u64 (IntKind.u64.wrap (x8_1)), .int .i64 a1] rfl (by (try simp only [List.map_toArray, List.map_cons, List.map_nil]); first | done | rfl | (simp only [List.length_drop, List.length_take]; rfl) | (go_simp; done) | (go_simp; rw [Int.tmod_eq_emod_of_nonneg (by omega)]; omega)) ?_; (with_reducible refine (attestorref08_Grind.calls kj8 a0_0 a0_1 a0_2 a0_3 a0_4 (IntKind.u64.wrap (x8_1)) a1 t389 t390 t391 t392 t393 false _ A15.out).mono ?_); rintro e w23 ⟨rfl, hb⟩; refine ⟨_, rfl, ?_⟩; have n0_ := Aside0.mk (blk_below (g := gb386) (o := .cells #[.int .i64 a0_0, .int .u64 a0_1, .int .u64 a0_2, .int .u64 a0_3, .int .u64 a0_4] 25 (0, 0)) (by (with_reducible repeat (first | refine blk_drewN ?_ _ | refine blk_drew ?_ | refine blk_alloc ?_ _)); exact BK386.out) hb); have n1_ := Aside0.mk (below_step (by repeat (first | (with_reducible first | exact HB.out | apply below_alloc | apply pw_below_drewN | apply below_drew1 | refine below_set ?_ GE386.out) | exact HB.out)) hb); clear BK386; clear HB; have BK386 := n0_; have HB := n1_; clear n0_ n1_; (try clear hb); (try clear hb2); (try clear hk); (try clear hi)) | ((with_reducible refine gate_dst (N := 9) rfl ?_); refine box_event ?hg (N := 9) ?hd (cs := #[.int .i64 0, .int .u64 0, .int .u64 0, .int .u64 0, .int .u64 0]) (t := 25) ?hr ?_; (case hd => rfl); (case hg => rfl); (case hr => first | (go_simp; done) | (go_simp; rfl)); intro gb395 hg w24 hbox hb; have n0_ := Aside0.mk (blk_below (g := gb386) (o := .cells #[.int .i64 a0_0, .int .u64 a0_1, .int .u64 a0_2, .int .u64 a0_3, .int .u64 a0_4] 25 (0, 0)) (by (with_reducible repeat (first | refine blk_drewN ?_ _ | refine blk_drew ?_ | refine blk_alloc ?_ _)); exact BK386.out) hb); have n1_ := Aside0.mk (below_step (by repeat (first | (with_reducible first | exact HB.out | apply below_alloc | apply pw_below_drewN | apply below_drew1 | refine below_set ?_ GE386.out) | exact HB.out)) hb); have n2_ := Aside0.mk (hbox); have n3_ := Aside0.mk ((by rw [hg]; exact (below_size (by repeat (first | (with_reducible first | exact HB.out | apply below_alloc | apply pw_below_drewN | apply below_drew1 | refine below_set ?_ GE386.out) | exact HB.out))) : w.heap.size ≤ gb395)); have n4_ := Aside0.mk ((by rw [hg]; exact (below_size (by repeat (first | (with_reducible first | exact HB.out | apply below_alloc | apply pw_below_drewN | apply below_drew1 | refine below_set ?_ GE386.out) | exact HB.out))) : w.heap.size ≤ gb395)); have n5_ := Aside0.mk ((by rw [hg]; exact Nat.ne_of_lt (blk_lt (g := gb386) (o := .cells #[.int .i64 a0_0, .int .u64 a0_1, .int .u64 a0_2, .int .u64 a0_3, .int .u64 a0_4] 25 (0, 0)) (by (with_reducible repeat (first | refine blk_drewN ?_ _ | refine blk_drew ?_ | refine blk_alloc ?_ _)); exact BK386.out)) : gb386 ≠ gb395)); have n6_ := Aside0.mk ((by rw [hg]; exact Nat.ne_of_gt (blk_lt (g := gb386) (o := .cells #[.int .i64 a0_0, .int .u64 a0_1, .int .u64 a0_2, .int .u64 a0_3, .int .u64 a0_4] 25 (0, 0)) (by (with_reducible repeat (first | refine blk_drewN ?_ _ | refine blk_drew ?_ | refine blk_alloc ?_ _)); exact BK386.out)) : gb395 ≠ gb386)); clear BK386; clear HB; have BK386 := n0_; have HB := n1_; have BK395 := n2_; have GW395 := n3_; have GE395 := n4_; have NB386_395 := n5_; have NB395_386 := n6_; clear n0_ n1_ n2_ n3_ n4_ n5_ n6_; clear hb hbox hg; have hnb25 := NB395_386.out; have hnc25 := NB386_395.out; have hcz26_0 : w24.cell? ⟨gb395, 0, none⟩ = some (.int .i64 0) := (blk_cell BK395.out 0).trans rfl; have hcz26_1 : w24.cell? ⟨gb395, 1, none⟩ = some (.int .u64 0) := (blk_cell BK395.out 1).trans rfl; have hcz26_2 : w24.cell? ⟨gb395, 2, none⟩ = some (.int .u64 0) := (blk_cell BK395.out 2).trans rfl; have hcz26_3 : w24.cell? ⟨gb395, 3, none⟩ = some (.int .u64 0) := (blk_cell BK395.out 3).trans rfl; have hcz26_4 : w24.cell? ⟨gb395, 4, none⟩ = some (.int .u64 0) := (blk_cell BK395.out 4).trans rfl; have hfz26_0 := blk_frozen BK395.out 0; have hfz26_1 := blk_frozen BK395.out 1; have hfz26_2 := blk_frozen BK395.out 2; have hfz26_3 := blk_frozen BK395.out 3; have hfz26_4 := blk_frozen BK395.out 4))
                go_roundg kj8
                case measure => have := HK1.out; have := HJ8.out; omega
                case rel => exact ⟨(wrap64 (x8_1 + 1)), (by first | rfl | (simp; done) | (simp [*]; done) | (simp; rfl) | (simp; decide +kernel)), H', ⟨by have := HK1.out; have := HJ8.out; omega⟩, ⟨by (with_reducible repeat (first | refine blk_drewN ?_ _ | refine blk_drew ?_ | refine blk_alloc ?_ _)); refine blk_far ?_ NB386_395.out _; (with_reducible repeat (first | refine blk_drewN ?_ _ | refine blk_drew ?_ | refine blk_alloc ?_ _)); refine blk_far ?_ NB386_395.out _; (with_reducible repeat (first | refine blk_drewN ?_ _ | refine blk_drew ?_ | refine blk_alloc ?_ _)); refine blk_far ?_ NB386_395.out _; (with_reducible repeat (first | refine blk_drewN ?_ _ | refine blk_drew ?_ | refine blk_alloc ?_ _)); refine blk_far ?_ NB386_395.out _; (with_reducible repeat (first | refine blk_drewN ?_ _ | refine blk_drew ?_ | refine blk_alloc ?_ _)); refine blk_far ?_ NB386_395.out _; (with_reducible repeat (first | refine blk_drewN ?_ _ | refine blk_drew ?_ | refine blk_alloc ?_ _)); exact BK386.out⟩, ⟨by repeat (first | (with_reducible first | exact HB.out | apply below_alloc | apply pw_below_drewN | apply below_drew1 | refine below_set ?_ GE386.out | refine below_set ?_ GE395.out) | exact HB.out)⟩⟩
            · replace c14 := Bool.eq_false_iff.mpr c14
              subst c14
              have H1 : (some (0, false)) = some (r1, r2) := by rw [if_neg (show ¬ (false = true) by decide)] at H; exact H
              clear H
              have H := H1
              clear H1
              simp only [Option.some.injEq, Prod.mk.injEq] at H
              obtain ⟨rfl, rfl⟩ := H
              go_wp2
              go_ret2
              exact ⟨by first | rfl | (simp [errW_none, errW_some] <;> rfl) | (simp [*, errW_none, errW_some] <;> rfl), by repeat (first | (with_reducible first | exact HB.out | apply below_alloc | apply pw_below_drewN | apply below_drew1 | refine below_set ?_ GE386.out) | exact HB.out)⟩
  · replace c5 := Bool.eq_false_iff.mpr c5
    subst c5
    have H1 : (some (0, false)) = some (r1, r2) := by rw [if_neg (show ¬ (false = true) by decide)] at H; exact H
    clear H
    have H := H1
    clear H1
    simp only [Option.some.injEq, Prod.mk.injEq] at H
    obtain ⟨rfl, rfl⟩ := H
    go_enter Tryd.func18, Tryd.ntmps18
    go_wp2_with (first | ((with_reducible refine gate_dst (N := 3) rfl ?_); refine box_event ?hg (N := 3) ?hd (cs := #[.int .i64 a0_0, .int .u64 a0_1, .int .u64 a0_2, .int .u64 a0_3, .int .u64 a0_4]) (t := 25) ?hr ?_; (case hd => rfl); (case hg => rfl); (case hr => first | (go_simp; done) | (go_simp; rfl)); intro gb386 hg w27 hbox hb; have n0_ := Aside0.mk (below_step (by repeat (first | (with_reducible first | exact HB.out | apply below_alloc | apply pw_below_drewN | apply below_drew1) | exact HB.out)) hb); have n1_ := Aside0.mk (hbox); have n2_ := Aside0.mk ((by rw [hg]; exact (below_size (by repeat (first | (with_reducible first | exact HB.out | apply below_alloc | apply pw_below_drewN | apply below_drew1) | exact HB.out))) : w.heap.size ≤ gb386)); have n3_ := Aside0.mk ((by rw [hg]; exact (below_size (by repeat (first | (with_reducible first | exact HB.out | apply below_alloc | apply pw_below_drewN | apply below_drew1) | exact HB.out))) : w.heap.size ≤ gb386)); clear HB; have HB := n0_; have BK386 := n1_; have GW386 := n2_; have GE386 := n3_; clear n0_ n1_ n2_ n3_; clear hb hbox hg; have hcz28_0 : w27.cell? ⟨gb386, 0, none⟩ = some (.int .i64 a0_0) := (blk_cell BK386.out 0).trans rfl; have hcz28_1 : w27.cell? ⟨gb386, 1, none⟩ = some (.int .u64 a0_1) := (blk_cell BK386.out 1).trans rfl; have hcz28_2 : w27.cell? ⟨gb386, 2, none⟩ = some (.int .u64 a0_2) := (blk_cell BK386.out 2).trans rfl; have hcz28_3 : w27.cell? ⟨gb386, 3, none⟩ = some (.int .u64 a0_3) := (blk_cell BK386.out 3).trans rfl; have hcz28_4 : w27.cell? ⟨gb386, 4, none⟩ = some (.int .u64 a0_4) := (blk_cell BK386.out 4).trans rfl; have hfz28_0 := blk_frozen BK386.out 0; have hfz28_1 := blk_frozen BK386.out 1; have hfz28_2 := blk_frozen BK386.out 2; have hfz28_3 := blk_frozen BK386.out 3; have hfz28_4 := blk_frozen BK386.out 4) | ((with_reducible refine gate_callee (f := 31) rfl ?_); refine goesL_ (some 13) rfl rfl Tryd.func31 (by kernel_rfl) rfl #[.agg #[.int .i64 a0_0, .int .u64 a0_1, .int .u64 a0_2, .int .u64 a0_3, .int .u64 a0_4], .int .i64 a1] rfl (by (try simp only [List.map_toArray, List.map_cons, List.map_nil]); first | done | rfl | (simp only [List.length_drop, List.length_take]; rfl) | (go_simp; done) | (go_simp; rw [Int.tmod_eq_emod_of_nonneg (by omega)]; omega)) ?_; (with_reducible refine (attestorref08_bounded.calls a0_0 a0_1 a0_2 a0_3 a0_4 a1 false _ A4.out).mono ?_); rintro e w29 ⟨rfl, hb⟩; refine ⟨_, rfl, ?_⟩; have n0_ := Aside0.mk (blk_below (g := gb386) (o := .cells #[.int .i64 a0_0, .int .u64 a0_1, .int .u64 a0_2, .int .u64 a0_3, .int .u64 a0_4] 25 (0, 0)) (by (with_reducible repeat (first | refine blk_drewN ?_ _ | refine blk_drew ?_ | refine blk_alloc ?_ _)); exact BK386.out) hb); have n1_ := Aside0.mk (below_step (by repeat (first | (with_reducible first | exact HB.out | apply below_alloc | apply pw_below_drewN | apply below_drew1 | refine below_set ?_ GE386.out) | exact HB.out)) hb); clear BK386; clear HB; have BK386 := n0_; have HB := n1_; clear n0_ n1_; (try clear hb); (try clear hb2); (try clear hk); (try clear hi)))
    go_ret2
    exact ⟨by first | rfl | (simp [errW_none, errW_some] <;> rfl) | (simp [*, errW_none, errW_some] <;> rfl), by repeat (first | (with_reducible first | exact HB.out | apply below_alloc | apply pw_below_drewN | apply below_drew1 | refine below_set ?_ GE386.out) | exact HB.out)⟩

end Go.Proofs.YtkailiemikjfbaaDoor.Q
end
section
namespace Go.Proofs.YtkailiemikjfbaaDoor.Q
open Go.RowKit Go.Proofs.YtkailiemikjfbaaDoorW.PrintWords Go.Proofs.YtkailiemikjfbaaDoorW.PrintLast Go.Proofs.YtkailiemikjfbaaDoorW.PrintMore
open Go.Proofs.YtkailiemikjfbaaDoor.Num
set_option linter.unusedVariables false
set_option linter.unusedSimpArgs false

theorem rab_l1 {f : Int} {p g e : Nat} (D : Fd f p g e) (L : List Nat) : ∀ (d i k : Nat) (s : S4), L.length - i = d → i ≤ L.length → 140 + d < k → L.length < 1000000 →
    attestorref08_Absorb.l1 k (L.map fun n : Nat => (n : Int)) i f s.a s.b s.c s.d = some (chO f ((L.drop i).foldl (fun t x => mx p g e x 1 t) s))
  | 0, i, k, s, hd, hi, hk, hL => by
    obtain ⟨k, rfl⟩ : ∃ j, k = j + 1 := ⟨k - 1, by omega⟩
    rw [attestorref08_Absorb.l1, if_neg (by rw [List.length_map]; omega), List.drop_eq_nil_of_le (by omega)]
    rfl
  | d + 1, i, k, s, hd, hi, hk, hL => by
    obtain ⟨k, rfl⟩ : ∃ j, k = j + 1 := ⟨k - 1, by omega⟩
    have hlt : i < L.length := by omega
    have hr : rd (L.map fun n : Nat => (n : Int)) (i : Int) = ((L[i] : Nat) : Int) := by simp [rd, hlt]
    rw [attestorref08_Absorb.l1, if_pos (by rw [List.length_map]; omega), if_pos (by omega), hr]
    refine bnd (radd_f D.F s.a _) (bnd (radd_f D.F s.b 1) (bnd (rPerm_f D k (by omega) ⟨(s.a + L[i]) % p, (s.b + 1) % p, s.c, s.d⟩) ?_))
    rw [wrapS (x := (i : Int) + 1) (by omega) (by omega), show ((i : Int) + 1) = ((i + 1 : Nat) : Int) from rfl]
    refine (rab_l1 D L d (i + 1) k _ (by omega) (by omega) (by omega) hL).trans ?_
    rw [List.drop_eq_getElem_cons hlt]
    simp only [red, Nat.mod_mod, List.foldl_cons, mx]
theorem radd0 {f : Int} {p g e : Nat} (D : Fd f p g e) (x : Nat) : attestorref01_Add.f f x 0 = some ((x % p : Nat) : Int) := radd_f D.F x 0
theorem rabsorb_f {f : Int} {p g e : Nat} (D : Fd f p g e) (L : List Nat) (k : Nat) (hk : 150 + L.length < k) (hL : L.length < 1000000) (s : S4) : attestorref08_Absorb.f k f s.a s.b s.c s.d (L.map fun n : Nat => (n : Int)) = some (chO f (absb p g e L s)) := by
  obtain ⟨k, rfl⟩ : ∃ j, k = j + 5 := ⟨k - 5, by omega⟩
  unfold attestorref08_Absorb.f
  refine bnd (rvalid_yes D.F) ?_
  rw [if_pos rfl]
  rw [attestorref08_Absorb.l0, if_pos (by decide), if_pos (by decide)]
  refine bnd (show attestorref01_Add.f f (rd ([(s.a : Int), (s.b : Int), (s.c : Int), (s.d : Int)] : List Int) 0) 0 = some ((s.a % p : Nat) : Int) from radd0 D s.a) ?_
  rw [v01]
  show attestorref08_Absorb.l0 _ _ 1 f ((s.a % p : Nat) : Int) (s.b : Int) (s.c : Int) (s.d : Int) = _
  rw [attestorref08_Absorb.l0, if_pos (by decide), if_pos (by decide)]
  refine bnd (show attestorref01_Add.f f (rd ([((s.a % p : Nat) : Int), (s.b : Int), (s.c : Int), (s.d : Int)] : List Int) 1) 0 = some ((s.b % p : Nat) : Int) from radd0 D s.b) ?_
  rw [v12]
  show attestorref08_Absorb.l0 _ _ 2 f ((s.a % p : Nat) : Int) ((s.b % p : Nat) : Int) (s.c : Int) (s.d : Int) = _
  rw [attestorref08_Absorb.l0, if_pos (by decide), if_pos (by decide)]
  refine bnd (show attestorref01_Add.f f (rd ([((s.a % p : Nat) : Int), ((s.b % p : Nat) : Int), (s.c : Int), (s.d : Int)] : List Int) 2) 0 = some ((s.c % p : Nat) : Int) from radd0 D s.c) ?_
  rw [v23]
  show attestorref08_Absorb.l0 _ _ 3 f ((s.a % p : Nat) : Int) ((s.b % p : Nat) : Int) ((s.c % p : Nat) : Int) (s.d : Int) = _
  rw [attestorref08_Absorb.l0, if_pos (by decide), if_pos (by decide)]
  refine bnd (show attestorref01_Add.f f (rd ([((s.a % p : Nat) : Int), ((s.b % p : Nat) : Int), ((s.c % p : Nat) : Int), (s.d : Int)] : List Int) 3) 0 = some ((s.d % p : Nat) : Int) from radd0 D s.d) ?_
  rw [v34]
  show attestorref08_Absorb.l0 _ _ 4 f ((s.a % p : Nat) : Int) ((s.b % p : Nat) : Int) ((s.c % p : Nat) : Int) ((s.d % p : Nat) : Int) = _
  rw [attestorref08_Absorb.l0, if_neg (by decide)]
  exact rab_l1 D L L.length 0 k (red p s) (by omega) (by omega) (by omega) hL
theorem rdraw_f {f : Int} {p g e : Nat} (D : Fd f p g e) (k : Nat) (hk : 130 < k) (s : S4) : attestorref08_Draw.f k f s.a s.b s.c s.d = some (f, ((mx p g e 0 2 s).a : Int), ((mx p g e 0 2 s).b : Int), ((mx p g e 0 2 s).c : Int), ((mx p g e 0 2 s).d : Int), ((mx p g e 0 2 s).a : Int)) := by
  unfold attestorref08_Draw.f
  refine bnd (rvalid_yes D.F) ?_
  rw [if_pos rfl]
  refine bnd (radd_f D.F s.b 2) (bnd (rPerm_f D k (by omega) ⟨s.a, (s.b + 2) % p, s.c, s.d⟩) ?_)
  simp only [red, Nat.mod_mod, S4.o, mx, Nat.add_zero]
theorem rdraw_no {f : Int} (h : ¬ (0 ≤ f ∧ f < 4)) (k : Nat) (a b c d : Int) : attestorref08_Draw.f k f a b c d = some (0, 0, 0, 0, 0, 0) := by
  unfold attestorref08_Draw.f
  refine bnd (rvalid_no h) ?_
  rw [if_neg (by decide)]
theorem rbounded_f (f a b c d n : Int) : attestorref08_bounded.f f a b c d n = some (decide ((0 ≤ f ∧ f < 4) ∧ 0 ≤ n ∧ n ≤ 24)) := by
  unfold attestorref08_bounded.f
  by_cases h : 0 ≤ f ∧ f < 4
  · obtain ⟨p, F⟩ := fld_of h.1 h.2
    refine bnd (rvalid_yes F) ?_
    rw [if_pos rfl]
    by_cases h1 : n ≥ 0
    · rw [if_pos h1]
      simp [h, h1]
    · rw [if_neg h1]
      simp [h1]
  · refine bnd (rvalid_no h) ?_
    simp [h]
theorem rpos_f {f : Int} {p g e : Nat} (D : Fd f p g e) (k b : Nat) (hk : 130 < k) (hb : b ≤ 24) (s : S4) : attestorref08_Position.f k f s.a s.b s.c s.d b = some (f, ((mx p g e 0 2 s).a : Int), ((mx p g e 0 2 s).b : Int), ((mx p g e 0 2 s).c : Int), ((mx p g e 0 2 s).d : Int), (((mx p g e 0 2 s).a % 2 ^ b : Nat) : Int)) := by
  have h2 := two24 b hb
  have hm : (mx p g e 0 2 s).a % 2 ^ b < 2 ^ b := Nat.mod_lt _ h2.1
  unfold attestorref08_Position.f
  refine bnd (rbounded_f _ _ _ _ _ _) ?_
  rw [if_pos (decide_eq_true ⟨⟨D.F.lo, D.F.hi⟩, by omega, by omega⟩)]
  refine bnd (rdraw_f D k hk s) ?_
  rw [if_pos (by omega), shl1 b hb, if_neg (by omega), tmodN, wrapS (by omega) (by omega)]
theorem rpos_no {f : Int} (n : Int) (h : ¬ ((0 ≤ f ∧ f < 4) ∧ 0 ≤ n ∧ n ≤ 24)) (k : Nat) (a b c d : Int) : attestorref08_Position.f k f a b c d n = some (0, 0, 0, 0, 0, 0) := by
  unfold attestorref08_Position.f
  refine bnd (rbounded_f _ _ _ _ _ _) ?_
  rw [if_neg (by simpa using h)]
theorem rgrind_f {f : Int} {p g e : Nat} (D : Fd f p g e) (k b n : Nat) (hk : 160 < k) (hb : b ≤ 24) (s : S4) : attestorref08_Grind.f k f s.a s.b s.c s.d n b = some (f, ((mx p g e 0 2 (absb p g e [n] s)).a : Int), ((mx p g e 0 2 (absb p g e [n] s)).b : Int), ((mx p g e 0 2 (absb p g e [n] s)).c : Int), ((mx p g e 0 2 (absb p g e [n] s)).d : Int), gd p g e b s n) := by
  have h2 := two24 b hb
  unfold attestorref08_Grind.f
  refine bnd (rbounded_f _ _ _ _ _ _) ?_
  rw [if_pos (decide_eq_true ⟨⟨D.F.lo, D.F.hi⟩, by omega, by omega⟩)]
  refine bnd (rabsorb_f D [n] k (by simp; omega) (by simp) s) (bnd (rdraw_f D k (by omega) _) ?_)
  rw [if_pos (by omega), shl1 b hb, if_neg (by omega), tmodN, cast0]
  rfl
theorem rgrind_no {f : Int} (n : Int) (h : ¬ ((0 ≤ f ∧ f < 4) ∧ 0 ≤ n ∧ n ≤ 24)) (k : Nat) (a b c d x : Int) : attestorref08_Grind.f k f a b c d x n = some (0, 0, 0, 0, 0, false) := by
  unfold attestorref08_Grind.f
  refine bnd (rbounded_f _ _ _ _ _ _) ?_
  rw [if_neg (by simpa using h)]
theorem rsearch_l0 {f : Int} {p g e : Nat} (D : Fd f p g e) (b : Nat) (hb : b ≤ 24) (s : S4) (most : Int) : ∀ (d n k : Nat), lim p most - n = d → 170 + 2 * d < k → n ≤ lim p most →
    attestorref08_Search.l0 k b most n f s.a s.b s.c s.d = some (sr (gd p g e b s) d n)
  | 0, n, k, hd, hk, hn => by
    obtain ⟨k, rfl⟩ : ∃ j, k = j + 1 + 1 := ⟨k - 2, by omega⟩
    have hl := lim_le p most
    have hno : ¬ ((n : Int) < mn (mn most 1048576) (p : Int)) := by rw [lim_lt]; omega
    have hj : attestorref08_Search.j1 (k + 1) b most n false f s.a s.b s.c s.d = some (0, false) := by rw [attestorref08_Search.j1, if_neg (by decide)]
    rw [attestorref08_Search.l0]
    by_cases h1 : (n : Int) < most
    · rw [if_pos h1]
      by_cases h2 : (n : Int) < 1048576
      · rw [if_pos h2]
        refine bnd (rp_eq f) ?_
        rw [D.F.eq, wrapU (by omega), decide_eq_false (fun h3 => hno (by unfold mn; repeat' split <;> omega)), hj]
        rfl
      · rw [if_neg h2, hj]
        rfl
    · rw [if_neg h1, hj]
      rfl
  | d + 1, n, k, hd, hk, hn => by
    obtain ⟨k, rfl⟩ : ∃ j, k = j + 1 + 1 := ⟨k - 2, by omega⟩
    have hl := lim_le p most
    have hyes : (n : Int) < mn (mn most 1048576) (p : Int) := by rw [lim_lt]; omega
    have h3 : (n : Int) < most ∧ (n : Int) < 1048576 ∧ (n : Int) < p := by
      unfold mn at hyes
      revert hyes
      repeat' split <;> omega
    rw [attestorref08_Search.l0, if_pos h3.1, if_pos h3.2.1]
    refine bnd (rp_eq f) ?_
    rw [D.F.eq, wrapU (by omega), decide_eq_true h3.2.2, attestorref08_Search.j1, if_pos rfl, wrapU (by omega)]
    refine bnd (rgrind_f D k b n (by omega) hb s) ?_
    unfold sr
    by_cases h : gd p g e b s n = true
    · rw [if_pos h, if_pos h]
    · rw [if_neg h, if_neg h, wrapS (x := (n : Int) + 1) (by omega) (by omega)]
      exact rsearch_l0 D b hb s most d (n + 1) k (by omega) (by omega) (by omega)
theorem rsearch_f {f : Int} {p g e : Nat} (D : Fd f p g e) (k b : Nat) (most : Int) (hk : 170 + 2 * lim p most < k) (hb : b ≤ 24) (s : S4) : attestorref08_Search.f k f s.a s.b s.c s.d b most = some (sr (gd p g e b s) (lim p most) 0) := by
  unfold attestorref08_Search.f
  refine bnd (rbounded_f _ _ _ _ _ _) ?_
  rw [if_pos (decide_eq_true ⟨⟨D.F.lo, D.F.hi⟩, by omega, by omega⟩)]
  exact rsearch_l0 D b hb s most (lim p most) 0 k (by omega) hk (by omega)
theorem rsearch_no {f : Int} (n : Int) (h : ¬ ((0 ≤ f ∧ f < 4) ∧ 0 ≤ n ∧ n ≤ 24)) (k : Nat) (a b c d most : Int) : attestorref08_Search.f k f a b c d n most = some (0, false) := by
  unfold attestorref08_Search.f
  refine bnd (rbounded_f _ _ _ _ _ _) ?_
  rw [if_neg (by simpa using h)]
end Go.Proofs.YtkailiemikjfbaaDoor.Q
end
