/- Several texts in one, in build order. What they prove, each by its own first remark:
Written by our own copy of a printing program (a twelfth state) out of the translation. Not trusted: Lean checks it.
Of PTreeA what this claim needs.
Of PChecks what this claim needs.
Of PTreeB what this claim needs.
The contract of slices.Clone for rows of rows: the headers themselves are copied into memory of its own.
Rows of rows told by their headers: what tree.Replace keeps of them.
tree.Replace by hand: what it computes, and its contract.
Of PRepl what this claim needs. -/
import Derived.Test.YtpnpmeogffodgaaDoorM2
import Derived.Test.YtpnpmeogffodgaaDoorM3
import Derived.Test.YtpnpmeogffodgaaDoorM4
import Derived.WalkSpells
section
namespace Go.Proofs.YtpnpmeogffodgaaDoor.Q
open Go.RowKit Go.Proofs.YtpnpmeogffodgaaDoorW.PrintWords Go.Proofs.YtpnpmeogffodgaaDoorW.PrintLast Go.Proofs.YtpnpmeogffodgaaDoorW.PrintMore
attribute [local go_sem] max2_int min2_int max_two min_two max_three min_three max_four min_four run_store_fnV run_store_fnc run_store_nfn   -- for this text's walks alone
set_option linter.unusedVariables false
set_option linter.unusedSimpArgs false

/-! ### tree_Climb: function 24 -/
def tree_Climb.f (a0 : Int) (a1 : Int) (a2_0 : Int) (a2_1 : Int) (l3 : List (S36)) : Option (Int × Int) := (tree_opens.f a0 a1 a2_0 a2_1 l3).bind fun t227 => (if t227 = true then ((tree_climb.f a0 a1 a2_0 a2_1 l3).bind fun bt228 => (some (bt228.1, bt228.2))) else (some (0, 0)))
set_option maxHeartbeats 8000000 in
set_option maxRecDepth 100000 in
theorem tree_Climb.calls (a0 : Int) (a1 : Int) (a2_0 : Int) (a2_1 : Int) (A3 : Option Addr) (c3 : Nat) (l3 : List (S36)) (r1 : Int) (r2 : Int) (w : World) (hr3 : Kd.C k36 w A3 l3.length l3) (hc3 : l3.length ≤ c3) (hrG : GL w) (h : tree_Climb.f a0 a1 a2_0 a2_1 l3 = some (r1, r2)) :
  Calls Tryd.prog 24 #[.int .i64 a0, .int .i64 a1, .agg #[.int .u64 a2_0, .int .u64 a2_1], .slice A3 l3.length c3] w fun e w' => e = .returned (.agg #[.int .u64 r1, .int .u64 r2]) ∧ Below w.heap.size w w' := by
 have hu36 := Tryd.underlying36
 have HRG := Aside0.mk hrG
 clear hrG
 have HR3 := Aside0.mk hr3
 have HC3 := Aside0.mk hc3
 clear hr3 hc3
 have HB := Aside0.mk (Below.refl w.heap.size w)
 have H : ((tree_opens.f a0 a1 a2_0 a2_1 l3).bind fun t227 => (if t227 = true then ((tree_climb.f a0 a1 a2_0 a2_1 l3).bind fun bt228 => (some (bt228.1, bt228.2))) else (some (0, 0)))) = some (r1, r2) := h
 clear h
 replace H := Option.bind_eq_some_iff.mp H
 obtain ⟨t227, A50, H⟩ := H
 have A5 := Aside0.mk A50
 clear A50
 by_cases c6 : t227 = true
 ·subst c6
  have H1 : ((tree_climb.f a0 a1 a2_0 a2_1 l3).bind fun bt228 => (some (bt228.1, bt228.2))) = some (r1, r2) := by rw [if_pos rfl] at H; exact H
  clear H
  have H := H1
  clear H1
  replace H := Option.bind_eq_some_iff.mp H
  obtain ⟨⟨t228, t229⟩, A70, H⟩ := H
  replace H : (some (t228, t229)) = some (r1, r2) := H
  have A7 := Aside0.mk A70
  clear A70
  simp only [Option.some.injEq, Prod.mk.injEq] at H
  obtain ⟨rfl, rfl⟩ := H
  go_enter Tryd.func24, Tryd.ntmps24
  go_wp2_with (first | ((with_reducible refine gate_dst (N := 6) rfl ?_); refine box_event ?hg (N := 6) ?hd (cs := #[.int .u64 a2_0, .int .u64 a2_1]) (t := 36) ?hr ?_; (case hd => rfl); (case hg => rfl); (case hr => first | (go_simp; done) | (go_simp; rfl)); intro g225 hg w8 hbox hb; have n0_ := Aside0.mk (below_step (by repeat (first | (with_reducible first | exact HB.out | apply below_alloc | apply pw_below_drewN | apply below_drew1) | exact HB.out)) hb); have n1_ := Aside0.mk (hbox); have n2_ := Aside0.mk ((by rw [hg]; exact (below_size (by repeat (first | (with_reducible first | exact HB.out | apply below_alloc | apply pw_below_drewN | apply below_drew1) | exact HB.out))) : w.heap.size ≤ g225)); have n3_ := Aside0.mk ((by rw [hg]; exact (below_size (by repeat (first | (with_reducible first | exact HB.out | apply below_alloc | apply pw_below_drewN | apply below_drew1) | exact HB.out))) : w.heap.size ≤ g225)); clear HB; have HB := n0_; have B225 := n1_; have GW225 := n2_; have GE225 := n3_; clear n0_ n1_ n2_ n3_; clear hb hbox hg) | ((with_reducible refine gate_dst (N := 8) rfl ?_); refine box_event ?hg (N := 8) ?hd (cs := #[.int .u64 0, .int .u64 0]) (t := 36) ?hr ?_; (case hd => rfl); (case hg => rfl); (case hr => first | (go_simp; done) | (go_simp; rfl)); intro g226 hg w9 hbox hb; have n0_ := Aside0.mk (blk_below (g := g225) (o := .cells #[.int .u64 a2_0, .int .u64 a2_1] 36 (0, 0)) (by exact B225.out) hb); have n1_ := Aside0.mk (below_step (by repeat (first | (with_reducible first | exact HB.out | apply below_alloc | apply pw_below_drewN | apply below_drew1 | refine below_set ?_ GE225.out) | exact HB.out)) hb); have n2_ := Aside0.mk (hbox); have n3_ := Aside0.mk ((by rw [hg]; exact (below_size (by repeat (first | (with_reducible first | exact HB.out | apply below_alloc | apply pw_below_drewN | apply below_drew1 | refine below_set ?_ GE225.out) | exact HB.out))) : w.heap.size ≤ g226)); have n4_ := Aside0.mk ((by rw [hg]; exact (below_size (by repeat (first | (with_reducible first | exact HB.out | apply below_alloc | apply pw_below_drewN | apply below_drew1 | refine below_set ?_ GE225.out) | exact HB.out))) : w.heap.size ≤ g226)); have n5_ := Aside0.mk ((by rw [hg]; exact Nat.ne_of_lt (blk_lt (g := g225) (o := .cells #[.int .u64 a2_0, .int .u64 a2_1] 36 (0, 0)) (by exact B225.out)) : g225 ≠ g226)); have n6_ := Aside0.mk ((by rw [hg]; exact Nat.ne_of_gt (blk_lt (g := g225) (o := .cells #[.int .u64 a2_0, .int .u64 a2_1] 36 (0, 0)) (by exact B225.out)) : g226 ≠ g225)); clear B225; clear HB; have B225 := n0_; have HB := n1_; have B226 := n2_; have GW226 := n3_; have GE226 := n4_; have NB225_226 := n5_; have NB226_225 := n6_; clear n0_ n1_ n2_ n3_ n4_ n5_ n6_; clear hb hbox hg; have hnb10 := NB225_226.out; have hnc10 := NB226_225.out; have hcz11_0 : w9.cell? ⟨g225, 0, none⟩ = some (.int .u64 a2_0) := bq_ B225 0; have hcz11_1 : w9.cell? ⟨g225, 1, none⟩ = some (.int .u64 a2_1) := bq_ B225 1; have hfz11_0 := blk_frozen B225.out 0; have hfz11_1 := blk_frozen B225.out 1) | ((with_reducible refine gate_callee (f := 47) rfl ?_); refine goesL_ (some 13) rfl rfl Tryd.func47 (by kernel_rfl) rfl #[.int .i64 a0, .int .i64 a1, .agg #[.int .u64 a2_0, .int .u64 a2_1], .slice A3 l3.length c3] rfl (by (try simp only [List.map_toArray, List.map_cons, List.map_nil]); first | done | rfl | (go_simp; done)) ?_; (with_reducible refine (tree_opens.calls a0 a1 a2_0 a2_1 _ _ l3 true _ ?side1 ?side2 ?side3 A5.out).mono ?_); (case side1 => repeat (first | exact (Kd.C_below HR3.out HB.out) | (with_reducible refine Kd.C_alloc ?_ _) | (with_reducible refine Kd.C_drewN ?_ _) | (with_reducible refine Kd.C_drew ?_))); (case side2 => exact HC3.out); (case side3 => repeat (first | exact (GL.below HRG.out HB.out) | (with_reducible refine GL.alloc ?_ _) | (with_reducible refine GL.drewN ?_ _) | (with_reducible refine GL.drew ?_))); rintro e w12 ⟨rfl, hb⟩; refine ⟨_, rfl, ?_⟩; have n0_ := Aside0.mk (blk_below (g := g225) (o := .cells #[.int .u64 a2_0, .int .u64 a2_1] 36 (0, 0)) (by exact B225.out) hb); have n1_ := Aside0.mk (blk_below (g := g226) (o := .cells #[.int .u64 0, .int .u64 0] 36 (0, 0)) (by exact B226.out) hb); have n2_ := Aside0.mk (below_step (by repeat (first | (with_reducible first | exact HB.out | apply below_alloc | apply pw_below_drewN | apply below_drew1 | refine below_set ?_ GE225.out | refine below_set ?_ GE226.out) | exact HB.out)) hb); clear B225; clear B226; clear HB; have B225 := n0_; have B226 := n1_; have HB := n2_; clear n0_ n1_ n2_; (try clear hb); (try clear hb2); (try clear hk); (try clear hi); have hcz13_0 : w12.cell? ⟨g225, 0, none⟩ = some (.int .u64 a2_0) := bq_ B225 0; have hcz13_1 : w12.cell? ⟨g225, 1, none⟩ = some (.int .u64 a2_1) := bq_ B225 1; have hfz13_0 := blk_frozen B225.out 0; have hfz13_1 := blk_frozen B225.out 1) | ((with_reducible refine gate_callee (f := 48) rfl ?_); refine goesL_ (some 20) rfl rfl Tryd.func48 (by kernel_rfl) rfl #[.int .i64 a0, .int .i64 a1, .agg #[.int .u64 a2_0, .int .u64 a2_1], .slice A3 l3.length c3] rfl (by (try simp only [List.map_toArray, List.map_cons, List.map_nil]); first | done | rfl | (go_simp; done)) ?_; (with_reducible refine (tree_climb.calls a0 a1 a2_0 a2_1 _ _ l3 t228 t229 _ ?side1 ?side2 ?side3 A7.out).mono ?_); (case side1 => repeat (first | exact (Kd.C_below HR3.out HB.out) | (with_reducible refine Kd.C_alloc ?_ _) | (with_reducible refine Kd.C_drewN ?_ _) | (with_reducible refine Kd.C_drew ?_))); (case side2 => exact HC3.out); (case side3 => repeat (first | exact (GL.below HRG.out HB.out) | (with_reducible refine GL.alloc ?_ _) | (with_reducible refine GL.drewN ?_ _) | (with_reducible refine GL.drew ?_))); rintro e w14 ⟨rfl, hb⟩; refine ⟨_, rfl, ?_⟩; have n0_ := Aside0.mk (blk_below (g := g225) (o := .cells #[.int .u64 a2_0, .int .u64 a2_1] 36 (0, 0)) (by exact B225.out) hb); have n1_ := Aside0.mk (blk_below (g := g226) (o := .cells #[.int .u64 0, .int .u64 0] 36 (0, 0)) (by exact B226.out) hb); have n2_ := Aside0.mk (below_step (by repeat (first | (with_reducible first | exact HB.out | apply below_alloc | apply pw_below_drewN | apply below_drew1 | refine below_set ?_ GE225.out | refine below_set ?_ GE226.out) | exact HB.out)) hb); clear B225; clear B226; clear HB; have B225 := n0_; have B226 := n1_; have HB := n2_; clear n0_ n1_ n2_; (try clear hb); (try clear hb2); (try clear hk); (try clear hi); have hcz15_0 : w14.cell? ⟨g226, 0, none⟩ = some (.int .u64 0) := bq_ B226 0; have hcz15_1 : w14.cell? ⟨g226, 1, none⟩ = some (.int .u64 0) := bq_ B226 1; have hfz15_0 := blk_frozen B226.out 0; have hfz15_1 := blk_frozen B226.out 1))
  refine bodyPost_ret (results_cell_row rfl _ _ g226 36 #[.int .u64 t228, .int .u64 t229] (0, 0) _ rfl (by refine blk_put (cs := #[.int .u64 t228, .int .u64 0]) ?_ 1 _ rfl; refine blk_put (cs := #[.int .u64 0, .int .u64 0]) ?_ 0 _ rfl; exact B226.out) Tryd.underlying36 rfl (by kernel_rfl)) rfl ?_
  exact ⟨by first | rfl | (simp [errW_none, errW_some] <;> rfl) | (simp [*, errW_none, errW_some] <;> rfl), by repeat (first | (with_reducible first | exact HB.out | apply below_alloc | apply pw_below_drewN | apply below_drew1 | refine below_set ?_ GE225.out | refine below_set ?_ GE226.out) | exact HB.out)⟩
 ·replace c6 := Bool.eq_false_iff.mpr c6
  subst c6
  have H1 : (some (0, 0)) = some (r1, r2) := by rw [if_neg (show ¬ (false = true) by decide)] at H; exact H
  clear H
  have H := H1
  clear H1
  simp only [Option.some.injEq, Prod.mk.injEq] at H
  obtain ⟨rfl, rfl⟩ := H
  go_enter Tryd.func24, Tryd.ntmps24
  go_wp2_with (first | ((with_reducible refine gate_dst (N := 6) rfl ?_); refine box_event ?hg (N := 6) ?hd (cs := #[.int .u64 a2_0, .int .u64 a2_1]) (t := 36) ?hr ?_; (case hd => rfl); (case hg => rfl); (case hr => first | (go_simp; done) | (go_simp; rfl)); intro g225 hg w16 hbox hb; have n0_ := Aside0.mk (below_step (by repeat (first | (with_reducible first | exact HB.out | apply below_alloc | apply pw_below_drewN | apply below_drew1) | exact HB.out)) hb); have n1_ := Aside0.mk (hbox); have n2_ := Aside0.mk ((by rw [hg]; exact (below_size (by repeat (first | (with_reducible first | exact HB.out | apply below_alloc | apply pw_below_drewN | apply below_drew1) | exact HB.out))) : w.heap.size ≤ g225)); have n3_ := Aside0.mk ((by rw [hg]; exact (below_size (by repeat (first | (with_reducible first | exact HB.out | apply below_alloc | apply pw_below_drewN | apply below_drew1) | exact HB.out))) : w.heap.size ≤ g225)); clear HB; have HB := n0_; have B225 := n1_; have GW225 := n2_; have GE225 := n3_; clear n0_ n1_ n2_ n3_; clear hb hbox hg) | ((with_reducible refine gate_dst (N := 8) rfl ?_); refine box_event ?hg (N := 8) ?hd (cs := #[.int .u64 0, .int .u64 0]) (t := 36) ?hr ?_; (case hd => rfl); (case hg => rfl); (case hr => first | (go_simp; done) | (go_simp; rfl)); intro g226 hg w17 hbox hb; have n0_ := Aside0.mk (blk_below (g := g225) (o := .cells #[.int .u64 a2_0, .int .u64 a2_1] 36 (0, 0)) (by exact B225.out) hb); have n1_ := Aside0.mk (below_step (by repeat (first | (with_reducible first | exact HB.out | apply below_alloc | apply pw_below_drewN | apply below_drew1 | refine below_set ?_ GE225.out) | exact HB.out)) hb); have n2_ := Aside0.mk (hbox); have n3_ := Aside0.mk ((by rw [hg]; exact (below_size (by repeat (first | (with_reducible first | exact HB.out | apply below_alloc | apply pw_below_drewN | apply below_drew1 | refine below_set ?_ GE225.out) | exact HB.out))) : w.heap.size ≤ g226)); have n4_ := Aside0.mk ((by rw [hg]; exact (below_size (by repeat (first | (with_reducible first | exact HB.out | apply below_alloc | apply pw_below_drewN | apply below_drew1 | refine below_set ?_ GE225.out) | exact HB.out))) : w.heap.size ≤ g226)); have n5_ := Aside0.mk ((by rw [hg]; exact Nat.ne_of_lt (blk_lt (g := g225) (o := .cells #[.int .u64 a2_0, .int .u64 a2_1] 36 (0, 0)) (by exact B225.out)) : g225 ≠ g226)); have n6_ := Aside0.mk ((by rw [hg]; exact Nat.ne_of_gt (blk_lt (g := g225) (o := .cells #[.int .u64 a2_0, .int .u64 a2_1] 36 (0, 0)) (by exact B225.out)) : g226 ≠ g225)); clear B225; clear HB; have B225 := n0_; have HB := n1_; have B226 := n2_; have GW226 := n3_; have GE226 := n4_; have NB225_226 := n5_; have NB226_225 := n6_; clear n0_ n1_ n2_ n3_ n4_ n5_ n6_; clear hb hbox hg; have hnb18 := NB225_226.out; have hnc18 := NB226_225.out; have hcz19_0 : w17.cell? ⟨g225, 0, none⟩ = some (.int .u64 a2_0) := bq_ B225 0; have hcz19_1 : w17.cell? ⟨g225, 1, none⟩ = some (.int .u64 a2_1) := bq_ B225 1; have hfz19_0 := blk_frozen B225.out 0; have hfz19_1 := blk_frozen B225.out 1) | ((with_reducible refine gate_callee (f := 47) rfl ?_); refine goesL_ (some 13) rfl rfl Tryd.func47 (by kernel_rfl) rfl #[.int .i64 a0, .int .i64 a1, .agg #[.int .u64 a2_0, .int .u64 a2_1], .slice A3 l3.length c3] rfl (by (try simp only [List.map_toArray, List.map_cons, List.map_nil]); first | done | rfl | (go_simp; done)) ?_; (with_reducible refine (tree_opens.calls a0 a1 a2_0 a2_1 _ _ l3 false _ ?side1 ?side2 ?side3 A5.out).mono ?_); (case side1 => repeat (first | exact (Kd.C_below HR3.out HB.out) | (with_reducible refine Kd.C_alloc ?_ _) | (with_reducible refine Kd.C_drewN ?_ _) | (with_reducible refine Kd.C_drew ?_))); (case side2 => exact HC3.out); (case side3 => repeat (first | exact (GL.below HRG.out HB.out) | (with_reducible refine GL.alloc ?_ _) | (with_reducible refine GL.drewN ?_ _) | (with_reducible refine GL.drew ?_))); rintro e w20 ⟨rfl, hb⟩; refine ⟨_, rfl, ?_⟩; have n0_ := Aside0.mk (blk_below (g := g225) (o := .cells #[.int .u64 a2_0, .int .u64 a2_1] 36 (0, 0)) (by exact B225.out) hb); have n1_ := Aside0.mk (blk_below (g := g226) (o := .cells #[.int .u64 0, .int .u64 0] 36 (0, 0)) (by exact B226.out) hb); have n2_ := Aside0.mk (below_step (by repeat (first | (with_reducible first | exact HB.out | apply below_alloc | apply pw_below_drewN | apply below_drew1 | refine below_set ?_ GE225.out | refine below_set ?_ GE226.out) | exact HB.out)) hb); clear B225; clear B226; clear HB; have B225 := n0_; have B226 := n1_; have HB := n2_; clear n0_ n1_ n2_; (try clear hb); (try clear hb2); (try clear hk); (try clear hi); have hcz21_0 : w20.cell? ⟨g226, 0, none⟩ = some (.int .u64 0) := bq_ B226 0; have hcz21_1 : w20.cell? ⟨g226, 1, none⟩ = some (.int .u64 0) := bq_ B226 1; have hfz21_0 := blk_frozen B226.out 0; have hfz21_1 := blk_frozen B226.out 1))
  refine bodyPost_ret (results_cell_row rfl _ _ g226 36 #[.int .u64 0, .int .u64 0] (0, 0) _ rfl (by refine blk_put (cs := #[.int .u64 0, .int .u64 0]) ?_ 1 _ rfl; refine blk_put (cs := #[.int .u64 0, .int .u64 0]) ?_ 0 _ rfl; exact B226.out) Tryd.underlying36 rfl (by kernel_rfl)) rfl ?_
  exact ⟨by first | rfl | (simp [errW_none, errW_some] <;> rfl) | (simp [*, errW_none, errW_some] <;> rfl), by repeat (first | (with_reducible first | exact HB.out | apply below_alloc | apply pw_below_drewN | apply below_drew1 | refine below_set ?_ GE225.out | refine below_set ?_ GE226.out) | exact HB.out)⟩

/-! ### attestorref01_Valid: function 42 -/
def attestorref01_Valid.f (a0 : Int) : Option (Bool) := if a0 ≥ 0 then (some (decide (a0 ≤ 3))) else (some false)
set_option maxHeartbeats 8000000 in
set_option maxRecDepth 100000 in
theorem attestorref01_Valid.calls (a0 : Int) (r : Bool) (w : World) (h : attestorref01_Valid.f a0 = some r) :
  Calls Tryd.prog 42 #[.int .i64 a0] w fun e w' => e = .returned (.bool r) ∧ Drawn0 w w' := by
 have H : (if a0 ≥ 0 then (some (decide (a0 ≤ 3))) else (some false)) = some r := h
 clear h
 by_cases c2 : a0 ≥ 0
 ·rw [if_pos c2] at H
  have c2b0 : decide (0 ≤ a0) = true := decide_eq_true c2
  clear c2
  obtain rfl := Option.some.inj H
  go_enter Tryd.func42, Tryd.ntmps42
  go_wp2
  go_ret
  exact ⟨by first | rfl | (simp; done) | (simp [*]; done), by repeat (first | exact Drawn0.refl _ | apply Drawn0.step)⟩
 ·rw [if_neg c2] at H
  have c2b0 : decide (0 ≤ a0) = false := decide_eq_false c2
  clear c2
  obtain rfl := Option.some.inj H
  go_enter Tryd.func42, Tryd.ntmps42
  go_wp2
  go_ret
  exact ⟨by first | rfl | (simp; done) | (simp [*]; done), by repeat (first | exact Drawn0.refl _ | apply Drawn0.step)⟩

/-! ### attestorref01_P: function 34 -/
def attestorref01_P.f (a0 : Int) : Option (Int) := if a0 = 0 then (some 97) else (if a0 = 1 then (some 257) else (if a0 = 2 then (some 12289) else (if a0 = 3 then (some 998244353) else (some 0))))
set_option maxHeartbeats 8000000 in
set_option maxRecDepth 100000 in
theorem attestorref01_P.calls (a0 : Int) (r : Int) (w : World) (h : attestorref01_P.f a0 = some r) :
  Calls Tryd.prog 34 #[.int .i64 a0] w fun e w' => e = .returned (.int .u64 r) ∧ Drawn0 w w' := by
 have H : (if a0 = 0 then (some 97) else (if a0 = 1 then (some 257) else (if a0 = 2 then (some 12289) else (if a0 = 3 then (some 998244353) else (some 0))))) = some r := h
 clear h
 by_cases c2 : a0 = 0
 ·rw [if_pos c2] at H
  have c2b0 : (a0 == 0) = true := beq_iff_eq.mpr c2
  have c2b1 : (a0 != 0) = false := bne_eq_false_iff_eq.mpr c2
  clear c2
  obtain rfl := Option.some.inj H
  go_enter Tryd.func34, Tryd.ntmps34
  go_wp2
  go_ret
  exact ⟨by first | rfl | (simp; done) | (simp [*]; done), by repeat (first | exact Drawn0.refl _ | apply Drawn0.step)⟩
 ·rw [if_neg c2] at H
  have c2b0 : (a0 == 0) = false := beq_eq_false_iff_ne.mpr c2
  have c2b1 : (a0 != 0) = true := bne_iff_ne.mpr c2
  by_cases c3 : a0 = 1
  ·rw [if_pos c3] at H
   have c3b0 : (a0 == 1) = true := beq_iff_eq.mpr c3
   have c3b1 : (a0 != 1) = false := bne_eq_false_iff_eq.mpr c3
   clear c3
   obtain rfl := Option.some.inj H
   go_enter Tryd.func34, Tryd.ntmps34
   go_wp2
   go_ret
   exact ⟨by first | rfl | (simp; done) | (simp [*]; done), by repeat (first | exact Drawn0.refl _ | apply Drawn0.step)⟩
  ·rw [if_neg c3] at H
   have c3b0 : (a0 == 1) = false := beq_eq_false_iff_ne.mpr c3
   have c3b1 : (a0 != 1) = true := bne_iff_ne.mpr c3
   by_cases c4 : a0 = 2
   ·rw [if_pos c4] at H
    have c4b0 : (a0 == 2) = true := beq_iff_eq.mpr c4
    have c4b1 : (a0 != 2) = false := bne_eq_false_iff_eq.mpr c4
    clear c4
    obtain rfl := Option.some.inj H
    go_enter Tryd.func34, Tryd.ntmps34
    go_wp2
    go_ret
    exact ⟨by first | rfl | (simp; done) | (simp [*]; done), by repeat (first | exact Drawn0.refl _ | apply Drawn0.step)⟩
   ·rw [if_neg c4] at H
    have c4b0 : (a0 == 2) = false := beq_eq_false_iff_ne.mpr c4
    have c4b1 : (a0 != 2) = true := bne_iff_ne.mpr c4
    by_cases c5 : a0 = 3
    ·rw [if_pos c5] at H
     have c5b0 : (a0 == 3) = true := beq_iff_eq.mpr c5
     have c5b1 : (a0 != 3) = false := bne_eq_false_iff_eq.mpr c5
     clear c5
     obtain rfl := Option.some.inj H
     go_enter Tryd.func34, Tryd.ntmps34
     go_wp2
     go_ret
     exact ⟨by first | rfl | (simp; done) | (simp [*]; done), by repeat (first | exact Drawn0.refl _ | apply Drawn0.step)⟩
    ·rw [if_neg c5] at H
     have c5b0 : (a0 == 3) = false := beq_eq_false_iff_ne.mpr c5
     have c5b1 : (a0 != 3) = true := bne_iff_ne.mpr c5
     obtain rfl := Option.some.inj H
     go_enter Tryd.func34, Tryd.ntmps34
     go_wp2
     go_ret
     exact ⟨by first | rfl | (simp; done) | (simp [*]; done), by repeat (first | exact Drawn0.refl _ | apply Drawn0.step)⟩

end Go.Proofs.YtpnpmeogffodgaaDoor.Q
end
section
namespace Go.Proofs.YtpnpmeogffodgaaDoor.Q
open Go.RowKit Go.Proofs.YtpnpmeogffodgaaDoorW.PrintWords Go.Proofs.YtpnpmeogffodgaaDoorW.PrintLast Go.Proofs.YtpnpmeogffodgaaDoorW.PrintMore
open Go.Proofs.YtpnpmeogffodgaaDoor.Num
set_option linter.unusedVariables false
set_option linter.unusedSimpArgs false
def okD (p : Int) (d : S36) : Bool := decide (d.f0 < p) && decide (d.f1 < p)
theorem bad_ok (p : Int) (d : S36) : badD p d = !(okD p d) := by
  unfold badD okD
  by_cases h0 : d.f0 < p
  · by_cases h1 : d.f1 < p
    · simp [h0, h1, Int.not_le.mpr h0, Int.not_le.mpr h1]
    · simp [h0, h1, Int.not_le.mpr h0, Int.not_lt.mp h1]
  · simp [h0, Int.not_lt.mp h0]
theorem proper_f (f : Int) (l : List S36) : tree_proper.f f l = some (l.all (okD (fp f))) := by
  have h : ∀ l : List S36, (!(l.any (badD (fp f)))) = l.all (okD (fp f)) := by
    intro l
    induction l with
    | nil => rfl
    | cons d l ih => rw [List.any_cons, List.all_cons, Bool.not_or, ih, bad_ok, Bool.not_not]
  unfold tree_proper.f
  rw [show field_P.f f = some (fp f) from rfl, Option.bind_some, h]
theorem P_f (f : Int) : attestorref01_P.f f = some (fp f) := by
  unfold attestorref01_P.f fp
  repeat' split
  all_goals rfl
theorem lgI_neg (n : Int) (h : n < 1) : lgI n = -1 := lgI_none n fun k hk e => by have := Nat.pow_pos (n := k) (show 0 < 2 by decide); omega
theorem height_f (n : Int) : tree_height.f n = some (lgI n) := by
  unfold tree_height.f
  by_cases h : n < 1
  · rw [if_pos h, lgI_neg n h]
  · rw [if_neg h]
def nnD (d : S36) : Prop := 0 ≤ d.f0 ∧ 0 ≤ d.f1
set_option maxRecDepth 100000 in
theorem lives_true (k : Nat) (hk : 80 ≤ k) : attestorlaw07_lives.f k = some true :=
  at_rounds (g := fun k => attestorlaw07_lives.f k) attestorlaw07_lives.mono hk (by decide +kernel)
end Go.Proofs.YtpnpmeogffodgaaDoor.Q
end
section
namespace Go.Proofs.YtpnpmeogffodgaaDoor.Q
open Go.RowKit Go.Proofs.YtpnpmeogffodgaaDoorW.PrintWords Go.Proofs.YtpnpmeogffodgaaDoorW.PrintLast Go.Proofs.YtpnpmeogffodgaaDoorW.PrintMore
open Go.Proofs.YtpnpmeogffodgaaDoor.Num
set_option linter.unusedVariables false
set_option linter.unusedSimpArgs false
theorem valid_f (f : Int) : field_Valid.f f = some (decide (0 ≤ f ∧ f < 4)) := by
  by_cases h : 0 ≤ f ∧ f < 4
  · obtain ⟨p, g, e, D⟩ := fd_of h.1 h.2
    rw [valid_yes D.F, decide_eq_true h]
  · rw [valid_no h, decide_eq_false h]
def OpD (f i a b : Int) (l : List S36) : Prop := (0 ≤ f ∧ f < 4) ∧ 0 ≤ i ∧ l.length ≤ 18 ∧ okD (fp f) ⟨a, b⟩ = true ∧ l.all (okD (fp f)) = true
instance (f i a b : Int) (l : List S36) : Decidable (OpD f i a b l) := by unfold OpD; infer_instance
theorem shl_pow : ∀ j : Fin 40, shl .i64 1 ((j : Nat) : Int) = ((2 ^ (j : Nat) : Nat) : Int) := by decide +kernel
theorem shl_of (d : Nat) (h : d < 40) : shl .i64 1 (d : Int) = ((2 ^ d : Nat) : Int) := shl_pow ⟨d, h⟩
end Go.Proofs.YtpnpmeogffodgaaDoor.Q
end
section
namespace Go.Proofs.YtpnpmeogffodgaaDoor.Q
open Go.RowKit Go.Proofs.YtpnpmeogffodgaaDoorW.PrintWords Go.Proofs.YtpnpmeogffodgaaDoorW.PrintLast Go.Proofs.YtpnpmeogffodgaaDoorW.PrintMore
attribute [local go_sem] max2_int min2_int max_two min_two max_three min_three max_four min_four run_store_fnV run_store_fnc run_store_nfn   -- for this text's walks alone
set_option linter.unusedVariables false
set_option linter.unusedSimpArgs false

abbrev z22_0_ : Array Bool := #[false, false, false, false, false, false, false, false, false, false, false]
abbrev z22_1_ : Array Bool := #[true, false, false, false, false, false, false, false, false, false, false]
abbrev z22_2_ : Array Bool := #[true, true, false, false, false, false, false, false, false, false, false]
abbrev z22_3_ : Array Bool := #[true, true, true, false, false, false, false, false, false, false, false]
abbrev z22_4_ : Array Bool := #[true, true, true, false, true, false, false, false, false, false, false]
abbrev z22_5_ : Array Bool := #[true, true, true, false, true, true, false, false, false, false, false]
abbrev z22_6_ : Array Bool := #[true, true, true, false, true, true, true, false, false, false, false]
abbrev z22_7_ : Array Bool := #[true, true, true, true, true, true, true, false, false, false, false]
abbrev z22_8_ : Array Bool := #[true, true, true, true, true, true, true, true, false, false, false]
abbrev z22_9_ : Array Bool := #[true, true, true, true, true, true, true, true, true, false, false]
abbrev z22_10_ : Array Bool := #[true, true, true, true, true, true, true, true, true, true, false]
abbrev z22_11_ : Array Bool := #[true, true, true, true, true, true, true, true, true, true, true]
abbrev z22_12_ : Array Bool := #[false, false, false, false, false, false, false, false, false, false, false, false, false, false, false]
abbrev z22_13_ : Array Bool := #[true, false, false, false, false, false, false, false, false, false, false, false, false, false, false]
abbrev z22_14_ : Array Bool := #[true, true, false, false, false, false, false, false, false, false, false, false, false, false, false]
abbrev z22_15_ : Array Bool := #[true, true, false, true, false, false, false, false, false, false, false, false, false, false, false]
abbrev z22_16_ : Array Bool := #[true, true, false, true, false, false, true, false, false, false, false, false, false, false, false]
abbrev z22_17_ : Array Bool := #[true, true, false, true, false, false, true, false, true, false, false, false, false, false, false]
abbrev z22_18_ : Array Bool := #[true, true, true, true, false, false, true, false, true, false, false, false, false, false, false]
abbrev z22_19_ : Array Bool := #[true, true, true, true, false, false, true, true, true, false, false, false, false, false, false]
abbrev z22_20_ : Array Bool := #[true, true, true, true, true, false, true, true, true, false, false, false, false, false, false]
abbrev z22_21_ : Array Bool := #[true, true, true, true, true, true, true, true, true, false, false, false, false, false, false]
abbrev z22_22_ : Array Bool := #[true, true, true, true, true, true, true, true, true, true, false, false, false, false, false]
abbrev z22_23_ : Array Bool := #[true, true, true, true, true, true, true, true, true, true, true, false, false, false, false]
abbrev z22_24_ : Array Bool := #[true, true, true, true, true, true, true, true, true, true, true, true, false, false, false]
abbrev z22_25_ : Array Bool := #[true, true, true, true, true, true, true, true, true, true, true, true, true, false, false]
abbrev z22_26_ : Array Bool := #[true, true, true, true, true, true, true, true, true, true, true, true, true, true, false]
abbrev z22_27_ : Array Bool := #[true, true, true, true, true, true, true, true, true, true, true, true, true, true, true]
/-! ### attestorlaw07_leaves: function 22 -/
def attestorlaw07_leaves.l0 : Nat → Int → Int → List Int → List (S36) → Int → Option ((List (S36)))
  | 0, _, _, _, _, _ => none
  | k + 1, x0, x1, x2, x7, x8 => if 0 ≤ x1 then (if x8 < (shl .i64 1 x1) then (if x8 < (x2.length : Int) then (if 0 ≤ x8 then ((attestorref01_P.f x0).bind fun t628 => (if t628 = 0 then (none) else ((attestorref01_P.f x0).bind fun t629 => (if t629 = 0 then (none) else (if x7.length < 8796093022208 then (attestorlaw07_leaves.l0 k x0 x1 x2 (x7 ++ [(⟨Int.tmod (rd x2 x8) t628, Int.tmod (IntKind.u64.wrap (Int.tdiv (rd x2 x8) 3)) t629⟩ : S36)]) (wrap64 (x8 + 1))) else (none)))))) else (none)) else ((attestorref01_P.f x0).bind fun t633 => (if t633 = 0 then (none) else ((attestorref01_P.f x0).bind fun t634 => (if t634 = 0 then (none) else (if x7.length < 8796093022208 then (attestorlaw07_leaves.l0 k x0 x1 x2 (x7 ++ [(⟨Int.tmod (IntKind.u64.wrap (x8)) t633, Int.tmod (IntKind.u64.wrap (wrap64 ((wrap64 (2 * x8)) + 1))) t634⟩ : S36)]) (wrap64 (x8 + 1))) else (none))))))) else (some x7)) else (none)
def attestorlaw07_leaves.f (k : Nat) (a0 : Int) (a1 : Int) (l2 : List Int) : Option ((List (S36))) := attestorlaw07_leaves.l0 k a0 a1 l2 ([] : List (S36)) 0
theorem attestorlaw07_leaves.mono_l : ∀ k, (∀ y0 y1 y2 y3 y4, LeO (attestorlaw07_leaves.l0 k y0 y1 y2 y3 y4) (attestorlaw07_leaves.l0 (k + 1) y0 y1 y2 y3 y4))
  | 0 => fun _ _ _ _ _ r h => by simp [attestorlaw07_leaves.l0] at h
  | k + 1 => by
    have ih0 := attestorlaw07_leaves.mono_l k
    · intro y0 y1 y2 y3 y4
      unfold attestorlaw07_leaves.l0
      repeat' first
      | (with_reducible exact ih0 _ _ _ _ _)
      | (with_reducible exact LeO.refl _)
      | (with_reducible exact LeO.none _)
      | (with_reducible refine LeO.ite ?_ ?_)
      | (with_reducible refine LeO.bind ?_ (fun _ => ?_))
      | exact ih0 _ _ _ _ _
      | exact LeO.none _
      | refine LeO.ite ?_ ?_
      | refine LeO.bind ?_ (fun _ => ?_)
theorem attestorlaw07_leaves.mono : ∀ a0 a1 a2 k, LeO (attestorlaw07_leaves.f k a0 a1 a2) (attestorlaw07_leaves.f (k + 1) a0 a1 a2) := by
  intro a0 a1 a2 k
  have ih0 := attestorlaw07_leaves.mono_l k
  unfold attestorlaw07_leaves.f
  repeat' first
      | (with_reducible exact ih0 _ _ _ _ _)
      | (with_reducible exact LeO.refl _)
      | (with_reducible exact LeO.none _)
      | (with_reducible refine LeO.ite ?_ ?_)
      | (with_reducible refine LeO.bind ?_ (fun _ => ?_))
      | exact ih0 _ _ _ _ _
      | exact LeO.none _
      | refine LeO.ite ?_ ?_
      | refine LeO.bind ?_ (fun _ => ?_)
def attestorlaw07_leaves.T7 : Bool × List (List Nat × List Nat) := (true, [([], []), ([], []), ([0, 1], [0, 1]), ([2], [2]), ([], []), ([], []), ([4, 5], [4, 5]), ([6], [6]), ([7], [7]), ([3, 8], [3, 8]), ([9, 0, 1, 2, 3, 4, 5, 6, 7, 8, 9], [9])])
def attestorlaw07_leaves.B7 : List Nat := [0, 0, 3, 7, 0, 0, 48, 112, 240, 511, 1023]
theorem attestorlaw07_leaves.tab7 : rtab .any (opsOf Tryd.f22 7) = attestorlaw07_leaves.T7 := by kernel_rfl
theorem attestorlaw07_leaves.bits7 : waitsOk attestorlaw07_leaves.T7.2 attestorlaw07_leaves.B7 = true := by kernel_rfl
def attestorlaw07_leaves.T8 : Bool × List (List Nat × List Nat) := (true, [([], []), ([], []), ([1], [1]), ([], []), ([3], [3]), ([2, 4], [2, 4]), ([], []), ([6], [6]), ([], []), ([8, 4], [8]), ([7, 9], [7, 9]), ([5, 10], [5, 10]), ([11], [11]), ([0, 12, 9], [0, 12]), ([13, 13, 0, 1, 2, 3, 4, 5, 6, 7, 8, 9, 10, 11, 12, 13], [0, 13])])
def attestorlaw07_leaves.B8 : List Nat := [0, 0, 2, 0, 8, 30, 0, 64, 0, 280, 984, 2046, 4094, 8191, 16383]
theorem attestorlaw07_leaves.tab8 : rtab .any (opsOf Tryd.f22 8) = attestorlaw07_leaves.T8 := by kernel_rfl
theorem attestorlaw07_leaves.bits8 : waitsOk attestorlaw07_leaves.T8.2 attestorlaw07_leaves.B8 = true := by kernel_rfl
set_option maxHeartbeats 8000000 in
set_option maxRecDepth 100000 in
theorem attestorlaw07_leaves.calls (k : Nat) (a0 : Int) (a1 : Int) (A2 : Option Addr) (c2 : Nat) (l2 : List Int) (r : List (S36)) (w : World) (hr2 : Kd.C (Kd.int .u64) w A2 l2.length l2) (hc2 : l2.length ≤ c2) (h : attestorlaw07_leaves.f k a0 a1 l2 = some r) :
  Calls Tryd.prog 22 #[.int .i64 a0, .int .i64 a1, .slice A2 l2.length c2] w fun e w' => ∃ v0_ : Value, e = .returned (v0_) ∧ Kd.R k36 36 w' w.heap.size (fun _ => True) v0_ r ∧ Below w.heap.size w w' := by
 have hu36 := Tryd.underlying36
 have HR2 := Aside0.mk hr2
 have HC2 := Aside0.mk hc2
 clear hr2 hc2
 have HB := Aside0.mk (Below.refl w.heap.size w)
 have H : (attestorlaw07_leaves.l0 k a0 a1 l2 ([] : List (S36)) 0) = some r := h
 clear h
 have H' := Aside0.mk H
 clear H
 go_enter Tryd.func22, Tryd.ntmps22
 go_wp2
 go_loopg [7, 8] k (fun kq v7 v8 w' => ∃ (x7_1 : List (S36)) (x8_1 : Int), v8 = .int .i64 x8_1 ∧ Aside0 (attestorlaw07_leaves.l0 kq a0 a1 l2 x7_1 x8_1 = some r) ∧ Aside0 (kq ≤ k) ∧ Aside0 (Kd.R k36 36 w' w.heap.size (fun _ => True) v7 x7_1) ∧ Aside0 (Below w.heap.size w w'))
 case atStart => exact ⟨(([] : List (S36))), (0), (by first | rfl | (simp; done) | (simp [*]; done) | (simp; rfl) | (simp; decide +kernel)), H', ⟨Nat.le_refl _⟩, ⟨by first | exact Kd.R_nil _ _ _ _ _ | exact Kd.N_nil _ _ _ _ _ | exact Kd.V_nil _ _ _ _ _ | exact Kd.Q_nil _ _ _ _ _ | exact Kd.S_nil _ _ _ _ _⟩, ⟨by repeat (first | (with_reducible first | exact HB.out | apply below_alloc | apply pw_below_drewN | apply below_drew1) | exact HB.out)⟩⟩
 case round =>
  clear H'
  try clear c2
  try clear p2
  obtain ⟨x7_1, x8_1, rfl, HA, HK1, HO_7, HB⟩ := hrel
  cases gk with
  | zero => exact absurd HA.out (by simp [attestorlaw07_leaves.l0])
  | succ k1 =>
   have H := HA.out
   clear HA
   simp only [attestorlaw07_leaves.l0] at H
   by_cases c4 : 0 ≤ a1
   ·rw [if_pos c4] at H
    have c4b0 := eq_true c4
    have c4b1 : decide (0 ≤ a1) = true := decide_eq_true c4
    clear c4
    obtain ⟨ji5, hji5⟩ : ∃ j_ : Int, (shl .i64 1 a1) = j_ := ⟨_, rfl⟩
    replace H : (if x8_1 < (ji5) then (if x8_1 < (l2.length : Int) then (if 0 ≤ x8_1 then ((attestorref01_P.f a0).bind fun t628 => (if t628 = 0 then (none) else ((attestorref01_P.f a0).bind fun t629 => (if t629 = 0 then (none) else (if x7_1.length < 8796093022208 then (attestorlaw07_leaves.l0 k1 a0 a1 l2 (x7_1 ++ [(⟨Int.tmod (rd l2 x8_1) t628, Int.tmod (IntKind.u64.wrap (Int.tdiv (rd l2 x8_1) 3)) t629⟩ : S36)]) (wrap64 (x8_1 + 1))) else (none)))))) else (none)) else ((attestorref01_P.f a0).bind fun t633 => (if t633 = 0 then (none) else ((attestorref01_P.f a0).bind fun t634 => (if t634 = 0 then (none) else (if x7_1.length < 8796093022208 then (attestorlaw07_leaves.l0 k1 a0 a1 l2 (x7_1 ++ [(⟨Int.tmod (IntKind.u64.wrap (x8_1)) t633, Int.tmod (IntKind.u64.wrap (wrap64 ((wrap64 (2 * x8_1)) + 1))) t634⟩ : S36)]) (wrap64 (x8_1 + 1))) else (none))))))) else (some x7_1)) = some r := by first | (rw [hji5] at H; exact H) | (simp only [hji5] at H ⊢; exact H)
    have hji5_ : (IntKind.i64.wrap (1 * 2 ^ min a1.toNat 64)) = ji5 := hji5
    have hji5z : a1 ≤ 64 → (IntKind.i64.wrap (1 * 2 ^ a1.toNat)) = ji5 := shl_small hji5
    have hji5u : (IntKind.i64.wrap (2 ^ min a1.toNat 64)) = ji5 := by have h_ := hji5_; rw [Int.one_mul] at h_; exact h_
    have hji5v : a1 ≤ 64 → (IntKind.i64.wrap (2 ^ a1.toNat)) = ji5 := fun hle_ => by have h_ := hji5z hle_; rw [Int.one_mul] at h_; exact h_
    have hji5y : (wrap64 (1 * 2 ^ min a1.toNat 64)) = ji5 := (i64_w _).symm.trans hji5_
    have hji5x : a1 ≤ 64 → (wrap64 (1 * 2 ^ a1.toNat)) = ji5 := fun h_ => (i64_w _).symm.trans (hji5z h_)
    by_cases c6 : x8_1 < (ji5)
    ·rw [if_pos c6] at H
     have c6b0 : decide (x8_1 < (ji5)) = true := decide_eq_true c6
     clear c6
     by_cases c7 : x8_1 < (l2.length : Int)
     ·rw [if_pos c7] at H
      have c7b0 : decide (x8_1 < (l2.length : Int)) = true := decide_eq_true c7
      clear c7
      by_cases c8 : 0 ≤ x8_1
      ·rw [if_pos c8] at H
       have c8b0 : decide (0 ≤ x8_1) = true := decide_eq_true c8
       clear c8
       replace H := Option.bind_eq_some_iff.mp H
       obtain ⟨t628, A90, H⟩ := H
       have A9 := Aside0.mk A90
       clear A90
       by_cases c10 : t628 = 0
       ·rw [if_pos c10] at H
        exact absurd H (by simp)
       ·rw [if_neg c10] at H
        have c10b0 : (t628 == 0) = false := beq_eq_false_iff_ne.mpr c10
        have c10b1 : (t628 != 0) = true := bne_iff_ne.mpr c10
        replace H := Option.bind_eq_some_iff.mp H
        obtain ⟨t629, A110, H⟩ := H
        have A11 := Aside0.mk A110
        clear A110
        by_cases c12 : t629 = 0
        ·rw [if_pos c12] at H
         exact absurd H (by simp)
        ·rw [if_neg c12] at H
         have c12b0 : (t629 == 0) = false := beq_eq_false_iff_ne.mpr c12
         have c12b1 : (t629 != 0) = true := bne_iff_ne.mpr c12
         by_cases c13 : x7_1.length < 8796093022208
         ·rw [if_pos c13] at H
          have LMc13 := Aside0.mk c13
          clear c13
          obtain ⟨y630, hy630⟩ : ∃ y_ : List (S36), y_ = (x7_1 ++ [(⟨Int.tmod (rd l2 x8_1) t628, Int.tmod (IntKind.u64.wrap (Int.tdiv (rd l2 x8_1) 3)) t629⟩ : S36)]) := ⟨_, rfl⟩
          replace H : (attestorlaw07_leaves.l0 k1 a0 a1 l2 y630 (wrap64 (x8_1 + 1))) = some r := by first | (rw [hy630]; with_reducible exact H) | (have H2_ := (Option.bind_some _ _).symm.trans H; rw [hy630]; with_reducible exact H2_) | (have H2_ := (Option.bind_some _ _).symm.trans H; with_reducible exact H2_) | with_reducible exact H | (rw [hy630]; exact H) | exact H
          have Ny630 := Aside0.mk hy630
          clear hy630
          have H' := Aside0.mk H
          clear H
          try go_wp2_with (first | ((with_reducible refine gate_dst (N := 9) rfl ?_); refine box_event ?hg (N := 9) ?hd (cs := #[.int .u64 0, .int .u64 0]) (t := 36) ?hr ?_; (case hd => rfl); (case hg => rfl); (case hr => first | (go_simp; done) | (go_simp; rfl)); intro g625 hg w14 hbox hb; have n0_ := Aside0.mk (Kd.R_below (Kd.R_elderB (by (with_reducible repeat (first | apply Kd.R_alloc | apply Kd.R_drewN | apply Kd.R_drew)); exact HO_7.out) g625 (Nat.le_of_eq hg.symm)) hb); have n1_ := Aside0.mk (below_step (by repeat (first | (with_reducible first | exact HB.out | apply below_alloc | apply pw_below_drewN | apply below_drew1) | exact HB.out)) hb); have n2_ := Aside0.mk (hbox); have n3_ := Aside0.mk ((by rw [hg]; exact (below_size (by repeat (first | (with_reducible first | exact HB.out | apply below_alloc | apply pw_below_drewN | apply below_drew1) | exact HB.out))) : w.heap.size ≤ g625)); have n4_ := Aside0.mk ((by rw [hg]; exact (below_size (by repeat (first | (with_reducible first | exact HB.out | apply below_alloc | apply pw_below_drewN | apply below_drew1) | exact HB.out))) : w.heap.size ≤ g625)); clear HO_7; clear HB; have HO_7 := n0_; have HB := n1_; have B625 := n2_; have GW625 := n3_; have GE625 := n4_; clear n0_ n1_ n2_ n3_ n4_; clear hb hbox hg; have hcz15_0 : w14.cell? ⟨g625, 0, none⟩ = some (.int .u64 0) := bq_ B625 0; have hcz15_1 : w14.cell? ⟨g625, 1, none⟩ = some (.int .u64 0) := bq_ B625 1; have hfz15_0 := blk_frozen B625.out 0; have hfz15_1 := blk_frozen B625.out 1))
          have n0_ : Aside0 (Kd.R k36 36 ((w14.setCell ⟨g625, 0, none⟩ (.int .u64 (IntKind.u64.wrap (x8_1)))).setCell ⟨g625, 1, none⟩ (.int .u64 (IntKind.u64.wrap (wrap64 ((wrap64 (2 * x8_1)) + 1))))) w.heap.size (fun k_ => k_ ≠ g625) u7 x7_1) := ⟨by (with_reducible repeat (first | apply Kd.R_alloc | apply Kd.R_drewN | apply Kd.R_drew)); exact Kd.R_mono (Kd.R_far (p := ⟨g625, 1, none⟩) (Kd.R_far (p := ⟨g625, 0, none⟩) (Kd.R_mono HO_7.out (fun k_ hk => (⟨hk, hk.2⟩ : _ ∧ k_ ≠ g625))) (fun _ hk => hk.2) (.int .u64 (IntKind.u64.wrap (x8_1)))) (fun _ hk => hk.2) (.int .u64 (IntKind.u64.wrap (wrap64 ((wrap64 (2 * x8_1)) + 1))))) (fun _ hk => hk.1.2)⟩
          have n1_ : Aside0 (((w14.setCell ⟨g625, 0, none⟩ (.int .u64 (IntKind.u64.wrap (x8_1)))).setCell ⟨g625, 1, none⟩ (.int .u64 (IntKind.u64.wrap (wrap64 ((wrap64 (2 * x8_1)) + 1))))).heap[g625]? = some (.cells #[.int .u64 (IntKind.u64.wrap (x8_1)), .int .u64 (IntKind.u64.wrap (wrap64 ((wrap64 (2 * x8_1)) + 1)))] 36 (0, 0))) := ⟨by refine blk_put (cs := #[.int .u64 (IntKind.u64.wrap (x8_1)), .int .u64 0]) ?_ 1 _ rfl; refine blk_put (cs := #[.int .u64 0, .int .u64 0]) ?_ 0 _ rfl; exact B625.out⟩
          have n2_ : Aside0 (Below w.heap.size w ((w14.setCell ⟨g625, 0, none⟩ (.int .u64 (IntKind.u64.wrap (x8_1)))).setCell ⟨g625, 1, none⟩ (.int .u64 (IntKind.u64.wrap (wrap64 ((wrap64 (2 * x8_1)) + 1)))))) := ⟨by repeat (first | (with_reducible first | exact HB.out | apply below_alloc | apply pw_below_drewN | apply below_drew1 | refine below_set ?_ GE625.out) | exact HB.out)⟩
          (try clear HO_7)
          (try clear B625)
          (try clear HB)
          generalize ((w14.setCell ⟨g625, 0, none⟩ (.int .u64 (IntKind.u64.wrap (x8_1)))).setCell ⟨g625, 1, none⟩ (.int .u64 (IntKind.u64.wrap (wrap64 ((wrap64 (2 * x8_1)) + 1))))) = w16 at n0_ n1_ n2_ ⊢
          have HO_7 := n0_
          have B625 := n1_
          have HB := n2_
          clear n0_ n1_ n2_
          have n0_ := Aside0.mk (Kd.R_drew HO_7.out)
          have n1_ := Aside0.mk (blk_drew B625.out)
          have n2_ := Aside0.mk (below_drew1 HB.out)
          clear HO_7
          clear B625
          clear HB
          have HO_7 := n0_
          have B625 := n1_
          have HB := n2_
          clear n0_ n1_ n2_
          have p626 : 0 ≤ (x8_1 : Int) := of_decide_eq_true (by first | (with_reducible assumption) | assumption)
          have q626 : x8_1 < (l2.length : Int) := of_decide_eq_true (by first | (with_reducible assumption) | assumption)
          obtain ⟨ad626, e626, hx626_0⟩ := Kd.at_int HR2.out x8_1 p626 q626
          have hw626_0 := hx626_0
          cases e626
          replace hx626_0 := (HB.out.cell (World.block_lt_of_cell? w _ hx626_0)).trans hx626_0
          replace p626 := eq_true p626
          replace q626 := eq_true q626
          have p627 : 0 ≤ (x8_1 : Int) := of_decide_eq_true (by first | (with_reducible assumption) | assumption)
          have q627 : x8_1 < (l2.length : Int) := of_decide_eq_true (by first | (with_reducible assumption) | assumption)
          obtain ⟨ad627, e627, hx627_0⟩ := Kd.at_int HR2.out x8_1 p627 q627
          have hw627_0 := hx627_0
          obtain rfl : ad626 = ad627 := (by injection e627)
          replace hx627_0 := (HB.out.cell (World.block_lt_of_cell? w _ hx627_0)).trans hx627_0
          replace p627 := eq_true p627
          replace q627 := eq_true q627
          refine start_ (n := 11) (S := fun w' => w'.cell? (ad626.add (x8_1).toNat) = some (.int .u64 (rd l2 x8_1)) ∧ w'.cell? (ad626.add (x8_1).toNat) = some (.int .u64 (rd l2 x8_1))) (ds := []) z22_0_ (by kernel_rfl) rfl rfl ⟨((HB.out.cell (World.block_lt_of_cell? w _ hw626_0)).trans hw626_0), ((HB.out.cell (World.block_lt_of_cell? w _ hw627_0)).trans hw627_0)⟩ (fun hL => ?_); refine with_tabW attestorlaw07_leaves.tab7 attestorlaw07_leaves.bits7 (fun T_ W_ => ?_)
          generalize w16.drew = w17 at HO_7 B625 HB hx626_0 hx627_0 hL ⊢
          refine pure_ (i := 0) (N := some 27) (v := ?_) (a' := ?_) z22_1_ rfl rfl (an_ T_) (fun _ _ _ h => h) (Or.inl ⟨by rfl, ?_⟩) ?_ ?_
          rotate_left; · intro w'; go_simp; with_reducible rfl
          rotate_left; · simp only [Act.put, sa_, sb_, sc_, i64_w, i32_w]; rfl
          refine pure_ (i := 1) (N := some 28) (v := ?_) (a' := ?_) z22_2_ rfl rfl (an_ T_) (fun _ _ _ h => h) (Or.inl ⟨by rfl, ?_⟩) ?_ ?_
          rotate_left; · intro w'; go_simp; with_reducible rfl
          rotate_left; · simp only [Act.put, sa_, sb_, sc_, i64_w, i32_w]; rfl
          refine pure_ (i := 2) (N := some 29) (v := ?_) (a' := ?_) z22_3_ rfl rfl (an_ T_) (fun _ _ _ h => h) (Or.inl ⟨by rfl, ?_⟩) ?_ ?_
          rotate_left; · intro w'; go_simp; with_reducible rfl
          rotate_left; · simp only [Act.put, sa_, sb_, sc_, i64_w, i32_w]; rfl
          refine pure_ (i := 4) (N := some 31) (v := ?_) (a' := ?_) z22_4_ rfl rfl (an_ T_) (fun _ _ _ h => h) (Or.inl ⟨by rfl, ?_⟩) ?_ ?_
          rotate_left; · intro w'; go_simp; with_reducible rfl
          rotate_left; · simp only [Act.put, sa_, sb_, sc_, i64_w, i32_w]; rfl
          refine pure_ (i := 5) (N := some 32) (v := ?_) (a' := ?_) z22_5_ rfl rfl (an_ T_) (fun _ _ _ h => h) (Or.inl ⟨by rfl, ?_⟩) ?_ ?_
          rotate_left; · intro w'; go_simp; with_reducible rfl
          rotate_left; · simp only [Act.put, sa_, sb_, sc_, i64_w, i32_w]; rfl
          refine pure_ (i := 6) (N := some 33) (v := ?_) (a' := ?_) z22_6_ rfl rfl (an_ T_) (fun _ _ _ h => h) (Or.inl ⟨by rfl, ?_⟩) ?_ ?_
          rotate_left; · intro w'; go_simp; with_reducible rfl
          rotate_left; · simp only [Act.put, sa_, sb_, sc_, i64_w, i32_w]; rfl
          refine take_ (i := 3) (N := some 30) (v := ?_) (a' := ?_) z22_7_ rfl rfl (tk_ T_ W_) (fun _ _ _ h => h) (Or.inl ⟨by rfl, ?_⟩) hL ?_ ?_
          rotate_left
          ·rintro w' ⟨s0, s1⟩
           go_simp
           with_reducible rfl
          rotate_left
          ·simp only [Act.put, sa_, sb_, sc_, i64_w, i32_w]
           rfl
          refine take_ (i := 7) (N := some 34) (v := ?_) (a' := ?_) z22_8_ rfl rfl (tk_ T_ W_) (fun _ _ _ h => h) (Or.inl ⟨by rfl, ?_⟩) hL ?_ ?_
          rotate_left
          ·rintro w' ⟨s0, s1⟩
           go_simp
           with_reducible rfl
          rotate_left
          ·simp only [Act.put, sa_, sb_, sc_, i64_w, i32_w]
           rfl
          refine pure_ (i := 8) (N := some 35) (v := ?_) (a' := ?_) z22_9_ rfl rfl (an_ T_) (fun _ _ _ h => h) (Or.inl ⟨by rfl, ?_⟩) ?_ ?_
          rotate_left; · intro w'; go_simp; with_reducible rfl
          rotate_left; · simp only [Act.put, sa_, sb_, sc_, i64_w, i32_w]; rfl
          refine pure_ (i := 9) (N := some 36) (v := ?_) (a' := ?_) z22_10_ rfl rfl (an_ T_) (fun _ _ _ h => h) (Or.inl ⟨by rfl, ?_⟩) ?_ ?_
          rotate_left; · intro w'; go_simp; with_reducible rfl
          rotate_left; · simp only [Act.put, sa_, sb_, sc_, i64_w, i32_w]; rfl
          refine one_ (i := 10) (N := none) z22_11_ rfl rfl (on_ T_) (by decide) (fun K hK => ?_)
          have hs18 : w17.cell? ⟨g625, 0, none⟩ = some (.int .u64 (IntKind.u64.wrap (x8_1))) := bq_ B625 0
          have hfs18 := blk_frozen B625.out 0
          have hs19 : w17.cell? ⟨g625, 1, none⟩ = some (.int .u64 (IntKind.u64.wrap (wrap64 ((wrap64 (2 * x8_1)) + 1)))) := bq_ B625 1
          have hfs19 := blk_frozen B625.out 1
          refine skip_ (w1 := ?_) (by rfl) rfl ?_ ?_
          rotate_left
          ·go_simp
           rfl
          refine hK.out _ _ ⟨((cell_far (p := ⟨g625, _, none⟩) (by first | exact Nat.ne_of_lt (Nat.lt_of_lt_of_le (by have := World.block_lt_of_cell? _ _ hw626_0; first | rwa [add_block] at this | exact this) GW625.out) | (rw [add_block]; exact Nat.ne_of_lt (Nat.lt_of_lt_of_le (by have := World.block_lt_of_cell? _ _ hw626_0; first | rwa [add_block] at this | exact this) GW625.out)) | (show (Addr.add _ _).block ≠ _; rw [add_block]; exact Nat.ne_of_lt (Nat.lt_of_lt_of_le (by have := World.block_lt_of_cell? _ _ hw626_0; first | rwa [add_block] at this | exact this) GW625.out)) | (dsimp only; exact Nat.ne_of_lt (Nat.lt_of_lt_of_le (by have := World.block_lt_of_cell? _ _ hw626_0; first | rwa [add_block] at this | exact this) GW625.out))) _).trans (((cell_far (p := ⟨g625, _, none⟩) (by first | exact Nat.ne_of_lt (Nat.lt_of_lt_of_le (by have := World.block_lt_of_cell? _ _ hw626_0; first | rwa [add_block] at this | exact this) GW625.out) | (rw [add_block]; exact Nat.ne_of_lt (Nat.lt_of_lt_of_le (by have := World.block_lt_of_cell? _ _ hw626_0; first | rwa [add_block] at this | exact this) GW625.out)) | (show (Addr.add _ _).block ≠ _; rw [add_block]; exact Nat.ne_of_lt (Nat.lt_of_lt_of_le (by have := World.block_lt_of_cell? _ _ hw626_0; first | rwa [add_block] at this | exact this) GW625.out)) | (dsimp only; exact Nat.ne_of_lt (Nat.lt_of_lt_of_le (by have := World.block_lt_of_cell? _ _ hw626_0; first | rwa [add_block] at this | exact this) GW625.out))) _).trans (hL.1)))), ((cell_far (p := ⟨g625, _, none⟩) (by first | exact Nat.ne_of_lt (Nat.lt_of_lt_of_le (by have := World.block_lt_of_cell? _ _ hw627_0; first | rwa [add_block] at this | exact this) GW625.out) | (rw [add_block]; exact Nat.ne_of_lt (Nat.lt_of_lt_of_le (by have := World.block_lt_of_cell? _ _ hw627_0; first | rwa [add_block] at this | exact this) GW625.out)) | (show (Addr.add _ _).block ≠ _; rw [add_block]; exact Nat.ne_of_lt (Nat.lt_of_lt_of_le (by have := World.block_lt_of_cell? _ _ hw627_0; first | rwa [add_block] at this | exact this) GW625.out)) | (dsimp only; exact Nat.ne_of_lt (Nat.lt_of_lt_of_le (by have := World.block_lt_of_cell? _ _ hw627_0; first | rwa [add_block] at this | exact this) GW625.out))) _).trans (((cell_far (p := ⟨g625, _, none⟩) (by first | exact Nat.ne_of_lt (Nat.lt_of_lt_of_le (by have := World.block_lt_of_cell? _ _ hw627_0; first | rwa [add_block] at this | exact this) GW625.out) | (rw [add_block]; exact Nat.ne_of_lt (Nat.lt_of_lt_of_le (by have := World.block_lt_of_cell? _ _ hw627_0; first | rwa [add_block] at this | exact this) GW625.out)) | (show (Addr.add _ _).block ≠ _; rw [add_block]; exact Nat.ne_of_lt (Nat.lt_of_lt_of_le (by have := World.block_lt_of_cell? _ _ hw627_0; first | rwa [add_block] at this | exact this) GW625.out)) | (dsimp only; exact Nat.ne_of_lt (Nat.lt_of_lt_of_le (by have := World.block_lt_of_cell? _ _ hw627_0; first | rwa [add_block] at this | exact this) GW625.out))) _).trans (hL.2))))⟩ (fun hL => ?_)
          clear hK K
          refine done_ (done_of T_.out (by kernel_rfl)) ?_
          try go_wp2
          have n0_ : Aside0 (Kd.R k36 36 ((w17.setCell ⟨g625, 0, none⟩ (.int .u64 (rd l2 x8_1))).setCell ⟨g625, 1, none⟩ (.int .u64 (IntKind.u64.wrap (Int.tdiv (rd l2 x8_1) 3)))) w.heap.size (fun k_ => k_ ≠ g625) u7 x7_1) := ⟨by (with_reducible repeat (first | apply Kd.R_alloc | apply Kd.R_drewN | apply Kd.R_drew)); exact Kd.R_mono (Kd.R_far (p := ⟨g625, 1, none⟩) (Kd.R_far (p := ⟨g625, 0, none⟩) (Kd.R_mono HO_7.out (fun k_ hk => (⟨hk, hk⟩ : _ ∧ k_ ≠ g625))) (fun _ hk => hk.2) (.int .u64 (rd l2 x8_1))) (fun _ hk => hk.2) (.int .u64 (IntKind.u64.wrap (Int.tdiv (rd l2 x8_1) 3)))) (fun _ hk => hk.1)⟩
          have n1_ : Aside0 (((w17.setCell ⟨g625, 0, none⟩ (.int .u64 (rd l2 x8_1))).setCell ⟨g625, 1, none⟩ (.int .u64 (IntKind.u64.wrap (Int.tdiv (rd l2 x8_1) 3)))).heap[g625]? = some (.cells #[.int .u64 (rd l2 x8_1), .int .u64 (IntKind.u64.wrap (Int.tdiv (rd l2 x8_1) 3))] 36 (0, 0))) := ⟨by refine blk_put (cs := #[.int .u64 (rd l2 x8_1), .int .u64 (IntKind.u64.wrap (wrap64 ((wrap64 (2 * x8_1)) + 1)))]) ?_ 1 _ rfl; refine blk_put (cs := #[.int .u64 (IntKind.u64.wrap (x8_1)), .int .u64 (IntKind.u64.wrap (wrap64 ((wrap64 (2 * x8_1)) + 1)))]) ?_ 0 _ rfl; exact B625.out⟩
          have n2_ : Aside0 (Below w.heap.size w ((w17.setCell ⟨g625, 0, none⟩ (.int .u64 (rd l2 x8_1))).setCell ⟨g625, 1, none⟩ (.int .u64 (IntKind.u64.wrap (Int.tdiv (rd l2 x8_1) 3))))) := ⟨by repeat (first | (with_reducible first | exact HB.out | apply below_alloc | apply pw_below_drewN | apply below_drew1 | refine below_set ?_ GE625.out) | exact HB.out)⟩
          (try clear HO_7)
          (try clear B625)
          (try clear HB)
          generalize ((w17.setCell ⟨g625, 0, none⟩ (.int .u64 (rd l2 x8_1))).setCell ⟨g625, 1, none⟩ (.int .u64 (IntKind.u64.wrap (Int.tdiv (rd l2 x8_1) 3)))) = w20 at n0_ n1_ n2_ ⊢
          have HO_7 := n0_
          have B625 := n1_
          have HB := n2_
          clear n0_ n1_ n2_
          have n0_ := Aside0.mk (Kd.R_drew HO_7.out)
          have n1_ := Aside0.mk (blk_drew B625.out)
          have n2_ := Aside0.mk (below_drew1 HB.out)
          clear HO_7
          clear B625
          clear HB
          have HO_7 := n0_
          have B625 := n1_
          have HB := n2_
          clear n0_ n1_ n2_
          refine start_ (n := 15) (S := fun w' => w'.cell? ⟨g625, 0, none⟩ = some (.int .u64 (rd l2 x8_1)) ∧ w'.cell? ⟨g625, 1, none⟩ = some (.int .u64 (IntKind.u64.wrap (Int.tdiv (rd l2 x8_1) 3)))) (ds := []) z22_12_ (by kernel_rfl) rfl rfl ⟨bq_ B625 0, bq_ B625 1⟩ (fun hL => ?_); refine with_tabW attestorlaw07_leaves.tab8 attestorlaw07_leaves.bits8 (fun T_ W_ => ?_)
          generalize w20.drew = w21 at HO_7 B625 HB hL ⊢
          refine pure_ (i := 0) (N := some 37) (v := ?_) (a' := ?_) z22_13_ rfl rfl (an_ T_) (fun _ _ _ h => h) (Or.inl ⟨by rfl, ?_⟩) ?_ ?_
          rotate_left; · intro w'; go_simp; with_reducible rfl
          rotate_left; · simp only [Act.put, sa_, sb_, sc_, i64_w, i32_w]; rfl
          refine pure_ (i := 1) (N := some 38) (v := ?_) (a' := ?_) z22_14_ rfl rfl (an_ T_) (fun _ _ _ h => h) (Or.inl ⟨by rfl, ?_⟩) ?_ ?_
          rotate_left; · intro w'; go_simp; with_reducible rfl
          rotate_left; · simp only [Act.put, sa_, sb_, sc_, i64_w, i32_w]; rfl
          refine pure_ (i := 3) (N := some 40) (v := ?_) (a' := ?_) z22_15_ rfl rfl (an_ T_) (fun _ _ _ h => h) (Or.inl ⟨by rfl, ?_⟩) ?_ ?_
          rotate_left; · intro w'; go_simp; with_reducible rfl
          rotate_left; · simp only [Act.put, sa_, sb_, sc_, i64_w, i32_w]; rfl
          refine pure_ (i := 6) (N := some 43) (v := ?_) (a' := ?_) z22_16_ rfl rfl (an_ T_) (fun _ _ _ h => h) (Or.inl ⟨by rfl, ?_⟩) ?_ ?_
          rotate_left; · intro w'; go_simp; with_reducible rfl
          rotate_left; · simp only [Act.put, sa_, sb_, sc_, i64_w, i32_w]; rfl
          refine pure_ (i := 8) (N := some 45) (v := ?_) (a' := ?_) z22_17_ rfl rfl (an_ T_) (fun _ _ _ h => h) (Or.inl ⟨by rfl, ?_⟩) ?_ ?_
          rotate_left; · intro w'; go_simp; with_reducible rfl
          rotate_left; · simp only [Act.put, sa_, sb_, sc_, i64_w, i32_w]; rfl
          refine take_ (i := 2) (N := some 39) (v := ?_) (a' := ?_) z22_18_ rfl rfl (tk_ T_ W_) (fun _ _ _ h => h) (Or.inl ⟨by rfl, ?_⟩) hL ?_ ?_
          rotate_left
          ·rintro w' ⟨s0, s1⟩
           go_simp
           with_reducible rfl
          rotate_left
          ·simp only [Act.put, sa_, sb_, sc_, i64_w, i32_w]
           rfl
          refine take_ (i := 7) (N := some 44) (v := ?_) (a' := ?_) z22_19_ rfl rfl (tk_ T_ W_) (fun _ _ _ h => h) (Or.inl ⟨by rfl, ?_⟩) hL ?_ ?_
          rotate_left
          ·rintro w' ⟨s0, s1⟩
           go_simp
           with_reducible rfl
          rotate_left
          ·simp only [Act.put, sa_, sb_, sc_, i64_w, i32_w]
           rfl
          refine one_ (i := 4) (N := some 41) z22_20_ rfl rfl (on_ T_) (by decide) (fun K hK => ?_)
          refine goes_ Tryd.func34 (by kernel_rfl) rfl #[.int .i64 a0] (by rfl) rfl rfl (by (try simp only [List.map_toArray, List.map_cons, List.map_nil]); first | done | rfl | (go_simp; done)) ?_
          with_reducible refine (attestorref01_P.calls a0 t628 _ A9.out).mono ?_
          rintro e w' ⟨rfl, ⟨nd, rfl⟩⟩
          refine ⟨_, rfl, ?_⟩
          refine hK.out _ _ ⟨bq_ B625 0, bq_ B625 1⟩ (fun hL => ?_)
          clear hK K
          refine norm_ (a' := ?_) ?_ ?_
          rotate_left
          ·show Act.put _ (some 41) _ = _
           simp only [Act.put, sa_, sb_, sc_, i64_w, i32_w]
           rfl
          refine pure_ (i := 5) (N := some 42) (v := ?_) (a' := ?_) z22_21_ rfl rfl (an_ T_) (fun _ _ _ h => h) (Or.inl ⟨by rfl, ?_⟩) ?_ ?_
          rotate_left; · intro w'; go_simp; with_reducible rfl
          rotate_left; · simp only [Act.put, sa_, sb_, sc_, i64_w, i32_w]; rfl
          refine one_ (i := 9) (N := some 46) z22_22_ rfl rfl (on_ T_) (by decide) (fun K hK => ?_)
          refine goes_ Tryd.func34 (by kernel_rfl) rfl #[.int .i64 a0] (by rfl) rfl rfl (by (try simp only [List.map_toArray, List.map_cons, List.map_nil]); first | done | rfl | (go_simp; done)) ?_
          with_reducible refine (attestorref01_P.calls a0 t629 _ A11.out).mono ?_
          rintro e w' ⟨rfl, ⟨nd, rfl⟩⟩
          refine ⟨_, rfl, ?_⟩
          refine hK.out _ _ ⟨bq_ B625 0, bq_ B625 1⟩ (fun hL => ?_)
          clear hK K
          refine norm_ (a' := ?_) ?_ ?_
          rotate_left
          ·show Act.put _ (some 46) _ = _
           simp only [Act.put, sa_, sb_, sc_, i64_w, i32_w]
           rfl
          refine pure_ (i := 10) (N := some 47) (v := ?_) (a' := ?_) z22_23_ rfl rfl (an_ T_) (fun _ _ _ h => h) (Or.inl ⟨by rfl, ?_⟩) ?_ ?_
          rotate_left; · intro w'; go_simp; with_reducible rfl
          rotate_left; · simp only [Act.put, sa_, sb_, sc_, i64_w, i32_w]; rfl
          refine pure_ (i := 11) (N := some 48) (v := ?_) (a' := ?_) z22_24_ rfl rfl (an_ T_) (fun _ _ _ h => h) (Or.inl ⟨by rfl, ?_⟩) ?_ ?_
          rotate_left; · intro w'; go_simp; with_reducible rfl
          rotate_left; · simp only [Act.put, sa_, sb_, sc_, i64_w, i32_w]; rfl
          refine one_ (i := 12) (N := some 49) z22_25_ rfl rfl (on_ T_) (by decide) (fun K hK => ?_)
          refine value_ (w1 := ?_) (v := ?_) (by rfl) rfl ?_ ?_
          rotate_left 2
          ·go_simp
           constructor
           ·rfl
           ·rfl
          refine hK.out _ _ ⟨(blk_cell (blk_alloc B625.out _) 0).trans rfl, (blk_cell (blk_alloc B625.out _) 1).trans rfl⟩ (fun hL => ?_)
          clear hK K
          refine norm_ (a' := ?_) ?_ ?_
          rotate_left
          ·show Act.put _ (some 49) _ = _
           simp only [Act.put, sa_, sb_, sc_, i64_w, i32_w]
           rfl
          refine one_ (i := 13) (N := some 50) z22_26_ rfl rfl (on_ T_) (by decide) (fun K hK => ?_)
          refine Kd.R_append_step k36 (w0 := w) w.heap.size (by rfl) (.tmp 37) (.tmp 49) 22 36 (.agg #[(.int .u64 0), (.int .u64 0)]) 16 rfl Tryd.underlying22 info36 rfl (by decide) (by omega) u7 x7_1 (⟨Int.tmod (rd l2 x8_1) t628, Int.tmod (IntKind.u64.wrap (Int.tdiv (rd l2 x8_1) 3)) t629⟩ : S36) [.int .u64 (Int.tmod (rd l2 x8_1) t628), .int .u64 (Int.tmod (IntKind.u64.wrap (Int.tdiv (rd l2 x8_1) 3)) t629)] (fun k_ => k_ ≠ g625) (fun _ => False) rfl rfl ?aP (fun _ hk => hk.elim) ?aF ?aO ?aB ?aS ?aL ?_
          (case aP => exact k36_mkM _ _ _ (⟨Int.tmod (rd l2 x8_1) t628, Int.tmod (IntKind.u64.wrap (Int.tdiv (rd l2 x8_1) 3)) t629⟩ : S36))
          (case aB => exact (by repeat (first | (with_reducible first | exact HB.out | apply below_alloc | apply pw_below_drewN | apply below_drew1 | refine below_set ?_ GE625.out) | exact HB.out)))
          (case aF => exact (fun k_ hk => Kd.freshB (g := g625) (o := .cells #[.int .u64 (rd l2 x8_1), .int .u64 (IntKind.u64.wrap (Int.tdiv (rd l2 x8_1) 3))] 36 (0, 0)) (by exact B625.out) k_ hk))
          (case aO => exact (by (with_reducible repeat (first | apply Kd.R_alloc | apply Kd.R_drewN | apply Kd.R_drew)); exact HO_7.out))
          (case aS => exact (below_size (by repeat (first | (with_reducible first | exact HB.out | apply below_alloc | apply pw_below_drewN | apply below_drew1 | refine below_set ?_ GE625.out) | exact HB.out))))
          (case aL => have := LMc13.out; omega)
          intro v631 w22 ho hb hg hat
          rw [← Ny630.out] at ho
          have n0_ := Aside0.mk (blk_grown (g := g625) (o := .cells #[.int .u64 (rd l2 x8_1), .int .u64 (IntKind.u64.wrap (Int.tdiv (rd l2 x8_1) 3))] 36 (0, 0)) (by exact B625.out) hg (Kd.R_away HO_7.out (fun _ hk => hk)))
          have n1_ := Aside0.mk (hb)
          have n2_ := Aside0.mk (ho)
          clear B625
          clear HB
          clear HO_7
          have B625 := n0_
          have HB := n1_
          have HO632 := n2_
          clear n0_ n1_ n2_
          clear ho hb hg hat
          refine hK.out _ _ ⟨bq_ B625 0, bq_ B625 1⟩ (fun hL => ?_)
          clear hK K
          refine norm_ (a' := ?_) ?_ ?_
          rotate_left
          ·show Act.put _ (some 50) _ = _
           simp only [Act.put, sa_, sb_, sc_, i64_w, i32_w]
           rfl
          refine pure_ (i := 14) (N := some 7) (v := ?_) (a' := ?_) z22_27_ rfl rfl (an_ T_) (fun _ _ _ h => h) (Or.inl ⟨by rfl, ?_⟩) ?_ ?_
          rotate_left; · intro w'; go_simp; with_reducible rfl
          rotate_left; · simp only [Act.put, sa_, sb_, sc_, i64_w, i32_w]; rfl
          refine done_ (done_of T_.out (by kernel_rfl)) ?_
          try go_wp2
          go_roundg k1
          case measure => have := HK1.out; omega
          case rel => exact ⟨(y630), (wrap64 (x8_1 + 1)), (by first | rfl | (simp; done) | (simp [*]; done) | (simp; rfl) | (simp; decide +kernel)), H', ⟨by have := HK1.out; omega⟩, ⟨by (with_reducible repeat (first | apply Kd.R_alloc | apply Kd.R_drewN | apply Kd.R_drew)); exact Kd.R_mono HO632.out (fun _ hk => trivial)⟩, ⟨by repeat (first | (with_reducible first | exact HB.out | apply below_alloc | apply pw_below_drewN | apply below_drew1 | refine below_set ?_ GE625.out) | exact HB.out)⟩⟩
         ·rw [if_neg c13] at H
          exact absurd H (by simp)
      ·rw [if_neg c8] at H
       exact absurd H (by simp)
     ·rw [if_neg c7] at H
      have c7b0 : decide (x8_1 < (l2.length : Int)) = false := decide_eq_false c7
      clear c7
      replace H := Option.bind_eq_some_iff.mp H
      obtain ⟨t633, A230, H⟩ := H
      have A23 := Aside0.mk A230
      clear A230
      by_cases c24 : t633 = 0
      ·rw [if_pos c24] at H
       exact absurd H (by simp)
      ·rw [if_neg c24] at H
       have c24b0 : (t633 == 0) = false := beq_eq_false_iff_ne.mpr c24
       have c24b1 : (t633 != 0) = true := bne_iff_ne.mpr c24
       replace H := Option.bind_eq_some_iff.mp H
       obtain ⟨t634, A250, H⟩ := H
       have A25 := Aside0.mk A250
       clear A250
       by_cases c26 : t634 = 0
       ·rw [if_pos c26] at H
        exact absurd H (by simp)
       ·rw [if_neg c26] at H
        have c26b0 : (t634 == 0) = false := beq_eq_false_iff_ne.mpr c26
        have c26b1 : (t634 != 0) = true := bne_iff_ne.mpr c26
        by_cases c27 : x7_1.length < 8796093022208
        ·rw [if_pos c27] at H
         have LMc27 := Aside0.mk c27
         clear c27
         obtain ⟨y635, hy635⟩ : ∃ y_ : List (S36), y_ = (x7_1 ++ [(⟨Int.tmod (IntKind.u64.wrap (x8_1)) t633, Int.tmod (IntKind.u64.wrap (wrap64 ((wrap64 (2 * x8_1)) + 1))) t634⟩ : S36)]) := ⟨_, rfl⟩
         replace H : (attestorlaw07_leaves.l0 k1 a0 a1 l2 y635 (wrap64 (x8_1 + 1))) = some r := by first | (rw [hy635]; with_reducible exact H) | (have H2_ := (Option.bind_some _ _).symm.trans H; rw [hy635]; with_reducible exact H2_) | (have H2_ := (Option.bind_some _ _).symm.trans H; with_reducible exact H2_) | with_reducible exact H | (rw [hy635]; exact H) | exact H
         have Ny635 := Aside0.mk hy635
         clear hy635
         have H' := Aside0.mk H
         clear H
         try go_wp2_with (first | ((with_reducible refine gate_dst (N := 9) rfl ?_); refine box_event ?hg (N := 9) ?hd (cs := #[.int .u64 0, .int .u64 0]) (t := 36) ?hr ?_; (case hd => rfl); (case hg => rfl); (case hr => first | (go_simp; done) | (go_simp; rfl)); intro g625 hg w28 hbox hb; have n0_ := Aside0.mk (Kd.R_below (Kd.R_elderB (by (with_reducible repeat (first | apply Kd.R_alloc | apply Kd.R_drewN | apply Kd.R_drew)); exact HO_7.out) g625 (Nat.le_of_eq hg.symm)) hb); have n1_ := Aside0.mk (below_step (by repeat (first | (with_reducible first | exact HB.out | apply below_alloc | apply pw_below_drewN | apply below_drew1) | exact HB.out)) hb); have n2_ := Aside0.mk (hbox); have n3_ := Aside0.mk ((by rw [hg]; exact (below_size (by repeat (first | (with_reducible first | exact HB.out | apply below_alloc | apply pw_below_drewN | apply below_drew1) | exact HB.out))) : w.heap.size ≤ g625)); have n4_ := Aside0.mk ((by rw [hg]; exact (below_size (by repeat (first | (with_reducible first | exact HB.out | apply below_alloc | apply pw_below_drewN | apply below_drew1) | exact HB.out))) : w.heap.size ≤ g625)); clear HO_7; clear HB; have HO_7 := n0_; have HB := n1_; have B625 := n2_; have GW625 := n3_; have GE625 := n4_; clear n0_ n1_ n2_ n3_ n4_; clear hb hbox hg; have hcz29_0 : w28.cell? ⟨g625, 0, none⟩ = some (.int .u64 0) := bq_ B625 0; have hcz29_1 : w28.cell? ⟨g625, 1, none⟩ = some (.int .u64 0) := bq_ B625 1; have hfz29_0 := blk_frozen B625.out 0; have hfz29_1 := blk_frozen B625.out 1))
         have n0_ : Aside0 (Kd.R k36 36 ((w28.setCell ⟨g625, 0, none⟩ (.int .u64 (IntKind.u64.wrap (x8_1)))).setCell ⟨g625, 1, none⟩ (.int .u64 (IntKind.u64.wrap (wrap64 ((wrap64 (2 * x8_1)) + 1))))) w.heap.size (fun k_ => k_ ≠ g625) u7 x7_1) := ⟨by (with_reducible repeat (first | apply Kd.R_alloc | apply Kd.R_drewN | apply Kd.R_drew)); exact Kd.R_mono (Kd.R_far (p := ⟨g625, 1, none⟩) (Kd.R_far (p := ⟨g625, 0, none⟩) (Kd.R_mono HO_7.out (fun k_ hk => (⟨hk, hk.2⟩ : _ ∧ k_ ≠ g625))) (fun _ hk => hk.2) (.int .u64 (IntKind.u64.wrap (x8_1)))) (fun _ hk => hk.2) (.int .u64 (IntKind.u64.wrap (wrap64 ((wrap64 (2 * x8_1)) + 1))))) (fun _ hk => hk.1.2)⟩
         have n1_ : Aside0 (((w28.setCell ⟨g625, 0, none⟩ (.int .u64 (IntKind.u64.wrap (x8_1)))).setCell ⟨g625, 1, none⟩ (.int .u64 (IntKind.u64.wrap (wrap64 ((wrap64 (2 * x8_1)) + 1))))).heap[g625]? = some (.cells #[.int .u64 (IntKind.u64.wrap (x8_1)), .int .u64 (IntKind.u64.wrap (wrap64 ((wrap64 (2 * x8_1)) + 1)))] 36 (0, 0))) := ⟨by refine blk_put (cs := #[.int .u64 (IntKind.u64.wrap (x8_1)), .int .u64 0]) ?_ 1 _ rfl; refine blk_put (cs := #[.int .u64 0, .int .u64 0]) ?_ 0 _ rfl; exact B625.out⟩
         have n2_ : Aside0 (Below w.heap.size w ((w28.setCell ⟨g625, 0, none⟩ (.int .u64 (IntKind.u64.wrap (x8_1)))).setCell ⟨g625, 1, none⟩ (.int .u64 (IntKind.u64.wrap (wrap64 ((wrap64 (2 * x8_1)) + 1)))))) := ⟨by repeat (first | (with_reducible first | exact HB.out | apply below_alloc | apply pw_below_drewN | apply below_drew1 | refine below_set ?_ GE625.out) | exact HB.out)⟩
         (try clear HO_7)
         (try clear B625)
         (try clear HB)
         generalize ((w28.setCell ⟨g625, 0, none⟩ (.int .u64 (IntKind.u64.wrap (x8_1)))).setCell ⟨g625, 1, none⟩ (.int .u64 (IntKind.u64.wrap (wrap64 ((wrap64 (2 * x8_1)) + 1))))) = w30 at n0_ n1_ n2_ ⊢
         have HO_7 := n0_
         have B625 := n1_
         have HB := n2_
         clear n0_ n1_ n2_
         have n0_ := Aside0.mk (Kd.R_drew HO_7.out)
         have n1_ := Aside0.mk (blk_drew B625.out)
         have n2_ := Aside0.mk (below_drew1 HB.out)
         clear HO_7
         clear B625
         clear HB
         have HO_7 := n0_
         have B625 := n1_
         have HB := n2_
         clear n0_ n1_ n2_
         refine start_ (n := 15) (S := fun w' => w'.cell? ⟨g625, 0, none⟩ = some (.int .u64 (IntKind.u64.wrap (x8_1))) ∧ w'.cell? ⟨g625, 1, none⟩ = some (.int .u64 (IntKind.u64.wrap (wrap64 ((wrap64 (2 * x8_1)) + 1))))) (ds := []) z22_12_ (by kernel_rfl) rfl rfl ⟨bq_ B625 0, bq_ B625 1⟩ (fun hL => ?_); refine with_tabW attestorlaw07_leaves.tab8 attestorlaw07_leaves.bits8 (fun T_ W_ => ?_)
         generalize w30.drew = w31 at HO_7 B625 HB hL ⊢
         refine pure_ (i := 0) (N := some 37) (v := ?_) (a' := ?_) z22_13_ rfl rfl (an_ T_) (fun _ _ _ h => h) (Or.inl ⟨by rfl, ?_⟩) ?_ ?_
         rotate_left; · intro w'; go_simp; with_reducible rfl
         rotate_left; · simp only [Act.put, sa_, sb_, sc_, i64_w, i32_w]; rfl
         refine pure_ (i := 1) (N := some 38) (v := ?_) (a' := ?_) z22_14_ rfl rfl (an_ T_) (fun _ _ _ h => h) (Or.inl ⟨by rfl, ?_⟩) ?_ ?_
         rotate_left; · intro w'; go_simp; with_reducible rfl
         rotate_left; · simp only [Act.put, sa_, sb_, sc_, i64_w, i32_w]; rfl
         refine pure_ (i := 3) (N := some 40) (v := ?_) (a' := ?_) z22_15_ rfl rfl (an_ T_) (fun _ _ _ h => h) (Or.inl ⟨by rfl, ?_⟩) ?_ ?_
         rotate_left; · intro w'; go_simp; with_reducible rfl
         rotate_left; · simp only [Act.put, sa_, sb_, sc_, i64_w, i32_w]; rfl
         refine pure_ (i := 6) (N := some 43) (v := ?_) (a' := ?_) z22_16_ rfl rfl (an_ T_) (fun _ _ _ h => h) (Or.inl ⟨by rfl, ?_⟩) ?_ ?_
         rotate_left; · intro w'; go_simp; with_reducible rfl
         rotate_left; · simp only [Act.put, sa_, sb_, sc_, i64_w, i32_w]; rfl
         refine pure_ (i := 8) (N := some 45) (v := ?_) (a' := ?_) z22_17_ rfl rfl (an_ T_) (fun _ _ _ h => h) (Or.inl ⟨by rfl, ?_⟩) ?_ ?_
         rotate_left; · intro w'; go_simp; with_reducible rfl
         rotate_left; · simp only [Act.put, sa_, sb_, sc_, i64_w, i32_w]; rfl
         refine take_ (i := 2) (N := some 39) (v := ?_) (a' := ?_) z22_18_ rfl rfl (tk_ T_ W_) (fun _ _ _ h => h) (Or.inl ⟨by rfl, ?_⟩) hL ?_ ?_
         rotate_left
         ·rintro w' ⟨s0, s1⟩
          go_simp
          with_reducible rfl
         rotate_left
         ·simp only [Act.put, sa_, sb_, sc_, i64_w, i32_w]
          rfl
         refine take_ (i := 7) (N := some 44) (v := ?_) (a' := ?_) z22_19_ rfl rfl (tk_ T_ W_) (fun _ _ _ h => h) (Or.inl ⟨by rfl, ?_⟩) hL ?_ ?_
         rotate_left
         ·rintro w' ⟨s0, s1⟩
          go_simp
          with_reducible rfl
         rotate_left
         ·simp only [Act.put, sa_, sb_, sc_, i64_w, i32_w]
          rfl
         refine one_ (i := 4) (N := some 41) z22_20_ rfl rfl (on_ T_) (by decide) (fun K hK => ?_)
         refine goes_ Tryd.func34 (by kernel_rfl) rfl #[.int .i64 a0] (by rfl) rfl rfl (by (try simp only [List.map_toArray, List.map_cons, List.map_nil]); first | done | rfl | (go_simp; done)) ?_
         with_reducible refine (attestorref01_P.calls a0 t633 _ A23.out).mono ?_
         rintro e w' ⟨rfl, ⟨nd, rfl⟩⟩
         refine ⟨_, rfl, ?_⟩
         refine hK.out _ _ ⟨bq_ B625 0, bq_ B625 1⟩ (fun hL => ?_)
         clear hK K
         refine norm_ (a' := ?_) ?_ ?_
         rotate_left
         ·show Act.put _ (some 41) _ = _
          simp only [Act.put, sa_, sb_, sc_, i64_w, i32_w]
          rfl
         refine pure_ (i := 5) (N := some 42) (v := ?_) (a' := ?_) z22_21_ rfl rfl (an_ T_) (fun _ _ _ h => h) (Or.inl ⟨by rfl, ?_⟩) ?_ ?_
         rotate_left; · intro w'; go_simp; with_reducible rfl
         rotate_left; · simp only [Act.put, sa_, sb_, sc_, i64_w, i32_w]; rfl
         refine one_ (i := 9) (N := some 46) z22_22_ rfl rfl (on_ T_) (by decide) (fun K hK => ?_)
         refine goes_ Tryd.func34 (by kernel_rfl) rfl #[.int .i64 a0] (by rfl) rfl rfl (by (try simp only [List.map_toArray, List.map_cons, List.map_nil]); first | done | rfl | (go_simp; done)) ?_
         with_reducible refine (attestorref01_P.calls a0 t634 _ A25.out).mono ?_
         rintro e w' ⟨rfl, ⟨nd, rfl⟩⟩
         refine ⟨_, rfl, ?_⟩
         refine hK.out _ _ ⟨bq_ B625 0, bq_ B625 1⟩ (fun hL => ?_)
         clear hK K
         refine norm_ (a' := ?_) ?_ ?_
         rotate_left
         ·show Act.put _ (some 46) _ = _
          simp only [Act.put, sa_, sb_, sc_, i64_w, i32_w]
          rfl
         refine pure_ (i := 10) (N := some 47) (v := ?_) (a' := ?_) z22_23_ rfl rfl (an_ T_) (fun _ _ _ h => h) (Or.inl ⟨by rfl, ?_⟩) ?_ ?_
         rotate_left; · intro w'; go_simp; with_reducible rfl
         rotate_left; · simp only [Act.put, sa_, sb_, sc_, i64_w, i32_w]; rfl
         refine pure_ (i := 11) (N := some 48) (v := ?_) (a' := ?_) z22_24_ rfl rfl (an_ T_) (fun _ _ _ h => h) (Or.inl ⟨by rfl, ?_⟩) ?_ ?_
         rotate_left; · intro w'; go_simp; with_reducible rfl
         rotate_left; · simp only [Act.put, sa_, sb_, sc_, i64_w, i32_w]; rfl
         refine one_ (i := 12) (N := some 49) z22_25_ rfl rfl (on_ T_) (by decide) (fun K hK => ?_)
         refine value_ (w1 := ?_) (v := ?_) (by rfl) rfl ?_ ?_
         rotate_left 2
         ·go_simp
          constructor
          ·rfl
          ·rfl
         refine hK.out _ _ ⟨(blk_cell (blk_alloc B625.out _) 0).trans rfl, (blk_cell (blk_alloc B625.out _) 1).trans rfl⟩ (fun hL => ?_)
         clear hK K
         refine norm_ (a' := ?_) ?_ ?_
         rotate_left
         ·show Act.put _ (some 49) _ = _
          simp only [Act.put, sa_, sb_, sc_, i64_w, i32_w]
          rfl
         refine one_ (i := 13) (N := some 50) z22_26_ rfl rfl (on_ T_) (by decide) (fun K hK => ?_)
         refine Kd.R_append_step k36 (w0 := w) w.heap.size (by rfl) (.tmp 37) (.tmp 49) 22 36 (.agg #[(.int .u64 0), (.int .u64 0)]) 16 rfl Tryd.underlying22 info36 rfl (by decide) (by omega) u7 x7_1 (⟨Int.tmod (IntKind.u64.wrap (x8_1)) t633, Int.tmod (IntKind.u64.wrap (wrap64 ((wrap64 (2 * x8_1)) + 1))) t634⟩ : S36) [.int .u64 (Int.tmod (IntKind.u64.wrap (x8_1)) t633), .int .u64 (Int.tmod (IntKind.u64.wrap (wrap64 ((wrap64 (2 * x8_1)) + 1))) t634)] (fun k_ => k_ ≠ g625) (fun _ => False) rfl rfl ?aP (fun _ hk => hk.elim) ?aF ?aO ?aB ?aS ?aL ?_
         (case aP => exact k36_mkM _ _ _ (⟨Int.tmod (IntKind.u64.wrap (x8_1)) t633, Int.tmod (IntKind.u64.wrap (wrap64 ((wrap64 (2 * x8_1)) + 1))) t634⟩ : S36))
         (case aB => exact (by repeat (first | (with_reducible first | exact HB.out | apply below_alloc | apply pw_below_drewN | apply below_drew1 | refine below_set ?_ GE625.out) | exact HB.out)))
         (case aF => exact (fun k_ hk => Kd.freshB (g := g625) (o := .cells #[.int .u64 (IntKind.u64.wrap (x8_1)), .int .u64 (IntKind.u64.wrap (wrap64 ((wrap64 (2 * x8_1)) + 1)))] 36 (0, 0)) (by exact B625.out) k_ hk))
         (case aO => exact (by (with_reducible repeat (first | apply Kd.R_alloc | apply Kd.R_drewN | apply Kd.R_drew)); exact HO_7.out))
         (case aS => exact (below_size (by repeat (first | (with_reducible first | exact HB.out | apply below_alloc | apply pw_below_drewN | apply below_drew1 | refine below_set ?_ GE625.out) | exact HB.out))))
         (case aL => have := LMc27.out; omega)
         intro v636 w32 ho hb hg hat
         rw [← Ny635.out] at ho
         have n0_ := Aside0.mk (blk_grown (g := g625) (o := .cells #[.int .u64 (IntKind.u64.wrap (x8_1)), .int .u64 (IntKind.u64.wrap (wrap64 ((wrap64 (2 * x8_1)) + 1)))] 36 (0, 0)) (by exact B625.out) hg (Kd.R_away HO_7.out (fun _ hk => hk)))
         have n1_ := Aside0.mk (hb)
         have n2_ := Aside0.mk (ho)
         clear B625
         clear HB
         clear HO_7
         have B625 := n0_
         have HB := n1_
         have HO637 := n2_
         clear n0_ n1_ n2_
         clear ho hb hg hat
         refine hK.out _ _ ⟨bq_ B625 0, bq_ B625 1⟩ (fun hL => ?_)
         clear hK K
         refine norm_ (a' := ?_) ?_ ?_
         rotate_left
         ·show Act.put _ (some 50) _ = _
          simp only [Act.put, sa_, sb_, sc_, i64_w, i32_w]
          rfl
         refine pure_ (i := 14) (N := some 7) (v := ?_) (a' := ?_) z22_27_ rfl rfl (an_ T_) (fun _ _ _ h => h) (Or.inl ⟨by rfl, ?_⟩) ?_ ?_
         rotate_left; · intro w'; go_simp; with_reducible rfl
         rotate_left; · simp only [Act.put, sa_, sb_, sc_, i64_w, i32_w]; rfl
         refine done_ (done_of T_.out (by kernel_rfl)) ?_
         try go_wp2
         go_roundg k1
         case measure => have := HK1.out; omega
         case rel => exact ⟨(y635), (wrap64 (x8_1 + 1)), (by first | rfl | (simp; done) | (simp [*]; done) | (simp; rfl) | (simp; decide +kernel)), H', ⟨by have := HK1.out; omega⟩, ⟨by (with_reducible repeat (first | apply Kd.R_alloc | apply Kd.R_drewN | apply Kd.R_drew)); exact Kd.R_mono HO637.out (fun _ hk => trivial)⟩, ⟨by repeat (first | (with_reducible first | exact HB.out | apply below_alloc | apply pw_below_drewN | apply below_drew1 | refine below_set ?_ GE625.out) | exact HB.out)⟩⟩
        ·rw [if_neg c27] at H
         exact absurd H (by simp)
    ·rw [if_neg c6] at H
     have c6b0 : decide (x8_1 < (ji5)) = false := decide_eq_false c6
     clear c6
     obtain rfl := Option.some.inj H
     go_wp2
     go_ret
     exact ⟨_, by first | rfl | (simp [errW_none, errW_some] <;> rfl) | (simp only [← hji5]; first | rfl | (simp [errW_none, errW_some] <;> rfl)) | (simp [*, errW_none, errW_some] <;> rfl), by (with_reducible repeat (first | apply Kd.R_alloc | apply Kd.R_drewN | apply Kd.R_drew)); exact HO_7.out, by repeat (first | (with_reducible first | exact HB.out | apply below_alloc | apply pw_below_drewN | apply below_drew1) | exact HB.out)⟩
   ·rw [if_neg c4] at H
    exact absurd H (by simp)

end Go.Proofs.YtpnpmeogffodgaaDoor.Q
end
section
namespace Go.Proofs.YtpnpmeogffodgaaDoor.Q
open Go.RowKit Go.Proofs.YtpnpmeogffodgaaDoorW.PrintWords Go.Proofs.YtpnpmeogffodgaaDoorW.PrintLast Go.Proofs.YtpnpmeogffodgaaDoorW.PrintMore
open Go.Proofs.YtpnpmeogffodgaaDoor.Num
set_option linter.unusedVariables false
set_option linter.unusedSimpArgs false
def pD (f : Int) (d : S36) : Prop := (0 ≤ d.f0 ∧ d.f0 < fp f) ∧ 0 ≤ d.f1 ∧ d.f1 < fp f
theorem pD.nn {f : Int} {d : S36} (h : pD f d) : nnD d := ⟨h.1.1, h.2.1⟩
theorem pD_ok {f : Int} {d : S36} (h : pD f d) : okD (fp f) d = true := by
  unfold okD
  rw [decide_eq_true h.1.2, decide_eq_true h.2.2]
  rfl
theorem all_ok {f : Int} {l : List S36} (h : ∀ d ∈ l, pD f d) : l.all (okD (fp f)) = true := List.all_eq_true.mpr fun d hd => pD_ok (h d hd)
def nodeS (f : Int) (a b : S36) : S36 := ((sponge_Node.f 200 f a.f0 a.f1 b.f0 b.f1).map fun n => (⟨n.1, n.2⟩ : S36)).getD z36
theorem node_s {f : Int} (hv : 0 ≤ f ∧ f < 4) (a b : S36) (ha : nnD a) (hb : nnD b) : sponge_Node.f 200 f a.f0 a.f1 b.f0 b.f1 = some ((nodeS f a b).f0, (nodeS f a b).f1) ∧ pD f (nodeS f a b) := by
  obtain ⟨p, g, e, D⟩ := fd_of hv.1 hv.2
  obtain ⟨a0, h0⟩ := Int.eq_ofNat_of_zero_le ha.1
  obtain ⟨a1, h1⟩ := Int.eq_ofNat_of_zero_le ha.2
  obtain ⟨b0, h2⟩ := Int.eq_ofNat_of_zero_le hb.1
  obtain ⟨b1, h3⟩ := Int.eq_ofNat_of_zero_le hb.2
  have hp : 0 < p := by have := D.p96; omega
  obtain ⟨n0, n1, h, l0, l1⟩ : ∃ n0 n1 : Nat, sponge_Node.f 200 f a0 a1 b0 b1 = some ((n0 : Int), (n1 : Int)) ∧ n0 < p ∧ n1 < p := ⟨_, _, Node_f D 200 (by omega) ⟨a0, a1, b0, b1⟩, Nat.mod_lt _ hp, Nat.mod_lt _ hp⟩
  have hq : nodeS f a b = ⟨(n0 : Int), (n1 : Int)⟩ := by
    unfold nodeS
    rw [h0, h1, h2, h3, h]
    rfl
  rw [h0, h1, h2, h3, hq]
  refine ⟨h, ⟨Int.natCast_nonneg _, ?_⟩, Int.natCast_nonneg _, ?_⟩
  · rw [D.F.eq]; exact Int.ofNat_lt.mpr l0
  · rw [D.F.eq]; exact Int.ofNat_lt.mpr l1
def upS (f : Int) : List S36 → List S36
  | a :: b :: l => nodeS f a b :: upS f l
  | _ => []
theorem upL_s {f : Int} (hv : 0 ≤ f ∧ f < 4) : ∀ (n : Nat) (l : List S36), l.length ≤ n → (∀ d ∈ l, nnD d) → upL f l = some (upS f l) ∧ ∀ d ∈ upS f l, pD f d
  | n, [], _, _ => ⟨rfl, fun d hd => by simp [upS] at hd⟩
  | n, [a], _, _ => ⟨rfl, fun d hd => by simp [upS] at hd⟩
  | 0, a :: b :: l, hn, _ => by simp at hn
  | n + 1, a :: b :: l, hn, h => by
    obtain ⟨hq, hp⟩ := node_s hv a b (h a (by simp)) (h b (by simp))
    obtain ⟨hl, hm⟩ := upL_s hv n l (by simp at hn; omega) (fun d hd => h d (by simp [hd]))
    refine ⟨?_, fun d hd => ?_⟩
    · rw [upL, upS]
      refine bnd hq (bnd hl ?_)
      rfl
    · rw [upS] at hd
      rcases List.mem_cons.mp hd with rfl | hd
      · exact hp
      · exact hm d hd
theorem upS_len (f : Int) : ∀ (n : Nat) (l : List S36), l.length ≤ n → (upS f l).length = l.length / 2
  | n, [], _ => rfl
  | n, [a], _ => by simp [upS]
  | 0, a :: b :: l, hn => by simp at hn
  | n + 1, a :: b :: l, hn => by
    have := upS_len f n l (by simp at hn; omega)
    rw [upS, List.length_cons, this, List.length_cons, List.length_cons]
    omega
def lvl (f : Int) : Nat → List S36 → List (List S36)
  | 0, l => [l]
  | n + 1, l => l :: lvl f n (upS f l)
def top (f : Int) : Nat → List S36 → List S36
  | 0, l => l
  | n + 1, l => top f n (upS f l)
theorem top_p {f : Int} (hv : 0 ≤ f ∧ f < 4) : ∀ (n : Nat) (l : List S36), (∀ d ∈ l, pD f d) → ∀ d ∈ top f n l, pD f d
  | 0, l, h => h
  | n + 1, l, h => top_p hv n (upS f l) (upL_s hv _ l (Nat.le_refl _) fun d hd => (h d hd).nn).2
theorem top_len (f : Int) : ∀ (n m : Nat) (l : List S36), l.length = 2 ^ (n + m) → (top f n l).length = 2 ^ m
  | 0, m, l, h => by rw [Nat.zero_add] at h; exact h
  | n + 1, m, l, h => top_len f n m (upS f l) (by rw [upS_len f _ l (Nat.le_refl _), h, show n + 1 + m = (n + m) + 1 by omega, Nat.pow_succ]; omega)
theorem lvl_len (f : Int) : ∀ (n : Nat) (l : List S36), (lvl f n l).length = n + 1
  | 0, l => rfl
  | n + 1, l => by rw [lvl, List.length_cons, lvl_len f n (upS f l)]
theorem lvl_get (f : Int) : ∀ (n j : Nat) (l : List S36), j ≤ n → (lvl f n l).getD j [] = top f j l
  | 0, 0, l, _ => rfl
  | n + 1, 0, l, _ => rfl
  | n + 1, j + 1, l, h => by
    have := lvl_get f n j (upS f l) (by omega)
    rw [lvl, top, ← this]
    rfl
theorem getD_mem {l : List S36} {i : Nat} (h : i < l.length) : l.getD i z36 ∈ l := by
  have e : l.getD i z36 = l[i] := by simp [List.getD, h]
  rw [e]; exact List.getElem_mem h
theorem riseL_s {f : Int} (hv : 0 ≤ f ∧ f < 4) (c : Nat) : ∀ (n k : Nat) (l : List S36), n < k → l.length = 2 ^ (n + c) → (∀ d ∈ l, nnD d) → riseL f ((2 ^ c : Nat) : Int) k l = some (lvl f n l)
  | _, 0, _, hk, _, _ => by omega
  | 0, k + 1, l, _, hl, _ => by
    rw [riseL, if_neg (by rw [Nat.zero_add] at hl; omega), lvl]
  | n + 1, k + 1, l, hk, hl, h => by
    have hp : 2 ^ c < 2 ^ (n + 1 + c) := Nat.pow_lt_pow_right (by omega) (by omega)
    obtain ⟨hu, hn⟩ := upL_s hv _ l (Nat.le_refl _) h
    rw [riseL, if_pos (by omega), lvl]
    refine bnd hu (bnd (riseL_s hv c n k (upS f l) (by omega) ?_ fun d hd => (hn d hd).nn) rfl)
    rw [upS_len f _ l (Nat.le_refl _), hl, show n + 1 + c = (n + c) + 1 by omega, Nat.pow_succ]; omega
theorem rd_top (f : Int) (n j : Nat) (l : List S36) (h : j ≤ n) : rd_L3 (lvl f n l) (j : Int) = top f j l := by
  unfold rd_L3
  rw [Int.toNat_natCast, lvl_get f n j l h]
theorem build_f {f : Int} (hv : 0 ≤ f ∧ f < 4) (n c k : Nat) (l : List S36) (hk : n < k) (hn : n + c ≤ 18) (hl : l.length = 2 ^ (n + c)) (h : ∀ d ∈ l, pD f d) : tree_Build.f k f l (c : Int) = some (f, ((n + c : Nat) : Int), (c : Int), lvl f n l, 0) := by
  have hh : tree_height.f (l.length : Int) = some ((n + c : Nat) : Int) := by rw [hl, height_f, (keys ⟨n + c, by omega⟩).2.2.2]
  unfold tree_Build.f
  refine bnd hh (bnd (valid_f f) ?_)
  rw [decide_eq_true hv, if_pos rfl, if_neg (by omega), if_neg (by omega), if_neg (by omega)]
  refine bnd (proper_f f l) ?_
  rw [all_ok h, if_pos rfl, shl_of c (by omega)]
  exact bnd (riseL_s hv c n k l hk hl fun d hd => (h d hd).nn) rfl
theorem valid_l {f : Int} (hv : 0 ≤ f ∧ f < 4) (n c : Nat) (l : List S36) (hn : n + c ≤ 18) (hl : l.length = 2 ^ (n + c)) (h : ∀ d ∈ l, pD f d) : ∀ m j k, m + j = n + 1 → m < k → tree_Valid.l0 k (lvl f n l) ((n + 1 : Nat) : Int) (j : Int) f ((n + c : Nat) : Int) (c : Int) (lvl f n l) = some true
  | _, _, 0, _, hk => by omega
  | 0, j, k + 1, hj, _ => by rw [tree_Valid.l0, if_neg (by omega)]
  | m + 1, j, k + 1, hj, hk => by
    have w : wrap64 (((n + c : Nat) : Int) - (j : Int)) = ((n + c - j : Nat) : Int) := by unfold wrap64; omega
    have ht : (top f j l).length = 2 ^ (n + c - j) := top_len f j (n + c - j) l (by rw [hl]; congr 1; omega)
    rw [tree_Valid.l0, if_pos (by omega), if_pos (by omega), if_pos (by rw [lvl_len]; omega), w, if_pos (by omega), rd_top f n j l (by omega), shl_of _ (by omega), if_pos (by rw [ht])]
    refine bnd (proper_f f _) ?_
    rw [all_ok (top_p hv j l h), if_pos rfl, show wrap64 ((j : Int) + 1) = ((j + 1 : Nat) : Int) by unfold wrap64; omega]
    exact valid_l hv n c l hn hl h m (j + 1) k (by omega) (by omega)
theorem tvalid_f {f : Int} (hv : 0 ≤ f ∧ f < 4) (n c k : Nat) (l : List S36) (hk : n + 2 < k) (hn : n + c ≤ 18) (hl : l.length = 2 ^ (n + c)) (h : ∀ d ∈ l, pD f d) : tree_Valid.f k f ((n + c : Nat) : Int) (c : Int) (lvl f n l) = some true := by
  unfold tree_Valid.f
  refine bnd (valid_f f) ?_
  obtain ⟨k, rfl⟩ : ∃ q, k = q + 1 := ⟨k - 1, by omega⟩
  have w : wrap64 (wrap64 (((n + c : Nat) : Int) - (c : Int)) + 1) = ((n + 1 : Nat) : Int) := by
    rw [show wrap64 (((n + c : Nat) : Int) - (c : Int)) = (n : Int) by unfold wrap64; omega]
    unfold wrap64; omega
  rw [decide_eq_true hv, if_pos rfl, if_neg (by omega), if_neg (by omega), if_neg (by omega), if_neg (by omega), w, lvl_len, bne_self_eq_false, tree_Valid.j0, if_neg (by decide), lvl_len]
  exact valid_l hv n c l hn hl h (n + 1) 0 k (by omega) (by omega)
theorem tplace_f {f : Int} (hv : 0 ≤ f ∧ f < 4) (n c k i : Nat) (l : List S36) (hk : n + 2 < k) (hn : n + c ≤ 18) (hl : l.length = 2 ^ (n + c)) (h : ∀ d ∈ l, pD f d) : tree_place.f k f ((n + c : Nat) : Int) (c : Int) (lvl f n l) (i : Int) = some (if i < l.length then 0 else 2) := by
  unfold tree_place.f
  refine bnd (tvalid_f hv n c k l hk hn hl h) ?_
  rw [if_pos rfl, if_neg (by omega), lvl_len, if_pos (by omega), show rd_L3 (lvl f n l) 0 = l from rd_top f n 0 l (Nat.zero_le _)]
  by_cases hi : i < l.length
  · rw [if_neg (by omega), if_pos hi]
  · rw [if_pos (by omega), if_neg hi]
theorem equal_self (p : List S36) (hb : p.length ≤ 1000) (k : Nat) (hk : 1000 < k) : attestorref07_Equal.f k p p = some true := by
  have hl : ∀ n j k, n + j = p.length → n < k → attestorref07_Equal.l0 k p p (j : Int) = some true := by
    intro n
    induction n with
    | zero => intro j k hj hk; obtain ⟨k, rfl⟩ : ∃ q, k = q + 1 := ⟨k - 1, by omega⟩; rw [attestorref07_Equal.l0, if_neg (by omega)]
    | succ n ih =>
      intro j k hj hk
      obtain ⟨k, rfl⟩ : ∃ q, k = q + 1 := ⟨k - 1, by omega⟩
      rw [attestorref07_Equal.l0, if_pos (by omega), if_pos (by omega), if_pos (by omega), show wrap64 ((j : Int) + 1) = ((j + 1 : Nat) : Int) by unfold wrap64; omega, ih (j + 1) k (by omega) (by omega)]
      simp
  unfold attestorref07_Equal.f
  rw [if_pos rfl]
  exact hl p.length 0 k rfl (by omega)
theorem rd_nn {l : List Int} (h : ∀ x ∈ l, 0 ≤ x) (i : Int) : 0 ≤ rd l i := by
  unfold rd
  by_cases hi : i.toNat < l.length
  · have e : l.getD i.toNat 0 = l[i.toNat] := by simp [List.getD, hi]
    rw [e]; exact h _ (List.getElem_mem hi)
  · have e : l.getD i.toNat 0 = 0 := by simp [List.getD, Nat.not_lt.mp hi]
    rw [e]; omega
theorem leaves_l {f : Int} (hv : 0 ≤ f ∧ f < 4) (x : Nat) (hx : x ≤ 18) (s : List Int) (hs : ∀ y ∈ s, 0 ≤ y) : ∀ m j k (acc : List S36), m + j = 2 ^ x → m < k → acc.length = j → (∀ d ∈ acc, pD f d) → ∃ L, attestorlaw07_leaves.l0 k f (x : Int) s acc (j : Int) = some L ∧ L.length = 2 ^ x ∧ ∀ d ∈ L, pD f d
  | _, _, 0, _, _, hk, _, _ => by omega
  | 0, j, k + 1, acc, hj, _, ha, hp => ⟨acc, by rw [attestorlaw07_leaves.l0, if_pos (by omega), shl_of x (by omega), if_neg (by omega)], by omega, hp⟩
  | m + 1, j, k + 1, acc, hj, hk, ha, hp => by
    have hb : 2 ^ x ≤ 2 ^ 18 := Nat.pow_le_pow_right (by omega) hx
    have hf : 0 < fp f := by
      obtain ⟨p, g, e, D⟩ := fd_of hv.1 hv.2
      rw [D.F.eq]; have := D.p96; omega
    have next : ∀ u v : Int, 0 ≤ u → 0 ≤ v → ∃ L, attestorlaw07_leaves.l0 k f (x : Int) s (acc ++ [(⟨Int.tmod u (fp f), Int.tmod v (fp f)⟩ : S36)]) (wrap64 ((j : Int) + 1)) = some L ∧ L.length = 2 ^ x ∧ ∀ d ∈ L, pD f d := by
      intro u v hu hw
      rw [show wrap64 ((j : Int) + 1) = ((j + 1 : Nat) : Int) by unfold wrap64; omega]
      refine leaves_l hv x hx s hs m (j + 1) k _ (by omega) (by omega) (by rw [List.length_append, ha]; rfl) fun d hd => ?_
      rcases List.mem_append.mp hd with hd | hd
      · exact hp d hd
      · obtain rfl := List.mem_singleton.mp hd
        exact ⟨⟨Int.tmod_nonneg _ hu, Int.tmod_lt_of_pos _ hf⟩, Int.tmod_nonneg _ hw, Int.tmod_lt_of_pos _ hf⟩
    have un : ∀ y : Int, 0 ≤ IntKind.u64.wrap y := fun y => by rw [IntKind.wrap_u64]; omega
    rw [attestorlaw07_leaves.l0, if_pos (by omega), shl_of x (by omega), if_pos (by omega), P_f]
    by_cases hjs : (j : Int) < (s.length : Int)
    · rw [if_pos hjs, if_pos (by omega), Option.bind_some, if_neg (by omega), Option.bind_some, if_neg (by omega), if_pos (by omega)]
      exact next _ _ (rd_nn hs _) (un _)
    · rw [if_neg hjs, Option.bind_some, if_neg (by omega), Option.bind_some, if_neg (by omega), if_pos (by omega)]
      exact next _ _ (un _) (un _)
theorem leaves_f {f : Int} (hv : 0 ≤ f ∧ f < 4) (x k : Nat) (hx : x ≤ 18) (hk : 2 ^ x < k) (s : List Int) (hs : ∀ y ∈ s, 0 ≤ y) : ∃ L, attestorlaw07_leaves.f k f (x : Int) s = some L ∧ L.length = 2 ^ x ∧ ∀ d ∈ L, pD f d :=
  leaves_l hv x hx s hs (2 ^ x) 0 k [] (by omega) hk rfl fun d hd => by simp at hd
end Go.Proofs.YtpnpmeogffodgaaDoor.Q
end
section
namespace Go.Proofs.YtpnpmeogffodgaaDoor.Q
open Go.RowKit Go.Proofs.YtpnpmeogffodgaaDoorW.PrintWords Go.Proofs.YtpnpmeogffodgaaDoorW.PrintLast Go.Proofs.YtpnpmeogffodgaaDoorW.PrintMore
attribute [local go_sem] max2_int min2_int max_two min_two max_three min_three max_four min_four   -- for this text's walks alone
set_option linter.unusedVariables false
set_option linter.unusedSimpArgs false

/-! ### rows_Clone: function 53 -/
def rows_Clone.f (l0 : List (List Value)) : Option ((List (List Value))) := (some (([] : List (List Value)) : List (List Value))).bind fun y101 => (if y101.length + l0.length < 5864062014805 then (some (y101 ++ l0)) else (none))
set_option maxHeartbeats 8000000 in
set_option maxRecDepth 100000 in
theorem rows_Clone.calls_some (a0_ : Addr) (c0 : Nat) (l0 : List (List Value)) (r : List (List Value)) (w : World) (hr0 : Kd.C (Kd.raw 1) w (some a0_) l0.length l0) (hc0 : l0.length ≤ c0) (h : rows_Clone.f l0 = some r) :
    Calls Tryd.prog 53 #[.slice (some a0_) l0.length c0] w fun e w' => ∃ v0_ : Value, e = .returned (v0_) ∧ Kd.R (Kd.raw 1) 22 w' w.heap.size (fun _ => True) v0_ r ∧ Below w.heap.size w w' := by
  have HR0 := Aside0.mk hr0
  have HC0 := Aside0.mk hc0
  clear hr0 hc0
  have HB := Aside0.mk (Below.refl w.heap.size w)
  have H : ((some (([] : List (List Value)) : List (List Value))).bind fun y101 => (if y101.length + l0.length < 5864062014805 then (some (y101 ++ l0)) else (none))) = some r := h
  clear h
  obtain ⟨y101, hy101⟩ : ∃ y_ : List (List Value), y_ = (([] : List (List Value))) := ⟨_, rfl⟩
  replace H : (if y101.length + l0.length < 5864062014805 then (some (y101 ++ l0)) else (none)) = some r := by first | (rw [hy101]; with_reducible exact H) | (have H2_ := (Option.bind_some _ _).symm.trans H; rw [hy101]; with_reducible exact H2_) | (have H2_ := (Option.bind_some _ _).symm.trans H; with_reducible exact H2_) | with_reducible exact H | (rw [hy101]; exact H) | exact H
  have Ny101 := Aside0.mk hy101
  clear hy101
  by_cases c2 : y101.length + l0.length < 5864062014805
  · rw [if_pos c2] at H
    have LMc2 := Aside0.mk c2
    clear c2
    obtain ⟨y104, hy104⟩ : ∃ y_ : List (List Value), y_ = (y101 ++ l0) := ⟨_, rfl⟩
    replace H : (some y104) = some r := by first | (rw [hy104]; with_reducible exact H) | (have H2_ := (Option.bind_some _ _).symm.trans H; rw [hy104]; with_reducible exact H2_) | (have H2_ := (Option.bind_some _ _).symm.trans H; with_reducible exact H2_) | with_reducible exact H | (rw [hy104]; exact H) | exact H
    have Ny104 := Aside0.mk hy104
    clear hy104
    obtain rfl := Option.some.inj H
    have hnil := fun (W : World) => Lib.run_eql_slice_nil (P := Tryd.prog) W 24 22 (some a0_) l0.length c0 0 0 Tryd.underlying24
    go_enter Tryd.func53, Tryd.ntmps53
    go_wp2_with (first | ((with_reducible refine gate_dst (N := 5) rfl ?_); refine Kd.R_lit (Kd.raw 1) _ 22 ?hg (N := 5) ?hd (xs := ([] : List (List Value))) (inner := []) (ok := fun _ => True) (okp := fun _ => True) ?hr ?hp (fun _ hk => hk) trivial (Below.refl _ _) (Nat.le_refl _) (by simp) ?_; (case hd => rfl); (case hg => rfl); (case hr => first | (go_simp; done) | (go_simp; rfl)); (case hp => exact (Reps.none _ _)); intro v102 w3 ho4 hb hg_ hnew_; clear hg_ hnew_; (first | rw [← Ny101.out] at ho4 | (simp only [Int.reduceToNat] at ho4; rw [← Ny101.out] at ho4)); have n0_ := Aside0.mk (Kd.R_lower ho4 (below_size (by repeat (first | (with_reducible first | exact HB.out | apply below_alloc | apply pw_below_drewN | apply below_drew1) | exact HB.out)))); have n1_ := Aside0.mk (below_step (by repeat (first | (with_reducible first | exact HB.out | apply below_alloc | apply pw_below_drewN | apply below_drew1) | exact HB.out)) hb); clear HB; have HO103 := n0_; have HB := n1_; clear n0_ n1_; clear hb ho4) | ((with_reducible refine gate_builtin (b := .append) (xs := #[.tmp 5, .tmp 6]) rfl ?_); at_builtin; refine Kd.R_append_rows (Kd.raw 1) (w0 := w) w.heap.size rfl (.tmp 5) (.tmp 6) 24 22 (.slice none 0 0) 24 rfl Tryd.underlying24 info22 rfl (by decide) (by omega) v102 y101 l0 _ _ _ (fun _ => True) (fun _ => False) rfl rfl ?aO ?aR (fun _ _ h => h) (fun _ h => h.elim) ?aF ?aB ?aS ?aL ?_; (case aR => repeat (first | exact (Kd.C_below HR0.out HB.out) | (with_reducible refine Kd.C_alloc ?_ _) | (with_reducible refine Kd.C_drewN ?_ _) | (with_reducible refine Kd.C_drew ?_))); (case aB => exact (by repeat (first | (with_reducible first | exact HB.out | apply below_alloc | apply pw_below_drewN | apply below_drew1) | exact HB.out))); (case aF => exact (fun _ _ => trivial)); (case aO => exact (by (with_reducible repeat (first | apply Kd.R_alloc | apply Kd.R_drewN | apply Kd.R_drew)); exact HO103.out)); (case aS => exact (below_size (by repeat (first | (with_reducible first | exact HB.out | apply below_alloc | apply pw_below_drewN | apply below_drew1) | exact HB.out)))); (case aL => have := LMc2.out; omega); intro v105 w5 ho hb hg hat; rw [← Ny104.out] at ho; have n0_ := Aside0.mk (hb); have n1_ := Aside0.mk (ho); clear HB; clear HO103; have HB := n0_; have HO106 := n1_; clear n0_ n1_; clear ho hb hg hat))
    go_ret
    exact ⟨_, by first | rfl | (simp [errW_none, errW_some] <;> rfl) | (simp [*, errW_none, errW_some] <;> rfl), by (with_reducible repeat (first | apply Kd.R_alloc | apply Kd.R_drewN | apply Kd.R_drew)); exact HO106.out, by repeat (first | (with_reducible first | exact HB.out | apply below_alloc | apply pw_below_drewN | apply below_drew1) | exact HB.out)⟩
  · rw [if_neg c2] at H
    exact absurd H (by simp)
set_option maxHeartbeats 1000000 in
theorem rows_Clone.calls_none (c0 : Nat) (l0 : List (List Value)) (r : List (List Value)) (w : World) (hr0 : Kd.C (Kd.raw 1) w none l0.length l0) (hc0 : l0.length ≤ c0) (h : rows_Clone.f l0 = some r) :
    Calls Tryd.prog 53 #[.slice none l0.length c0] w fun e w' => ∃ v0_ : Value, e = .returned (v0_) ∧ Kd.R (Kd.raw 1) 22 w' w.heap.size (fun _ => True) v0_ r ∧ Below w.heap.size w w' := by
  have hl0 : l0 = [] := by
    by_cases hz : l0.length = 0
    · exact List.eq_nil_of_length_eq_zero hz
    · obtain ⟨ad, c, e, _⟩ := Kd.C_get hr0 [] 0 (by omega) (by omega)
      cases e
  subst hl0
  unfold rows_Clone.f at h
  have hr : r = [] := by simp at h; first | exact h | exact h.symm
  subst hr
  clear h hr0 hc0
  have hnil := fun (W : World) => Lib.run_eql_slice_nil (P := Tryd.prog) W 24 22 none 0 c0 0 0 Tryd.underlying24
  go_enter Tryd.func53, Tryd.ntmps53
  go_wp2
  go_ret
  exact ⟨_, rfl, by first | exact Kd.R_nil _ _ _ _ _ | exact Kd.S_nil _ _ _ _ _ | exact Kd.N_nil _ _ _ _ _ | exact Kd.V_nil _ _ _ _ _ | exact Kd.Q_nil _ _ _ _ _, Below.refl _ _⟩
theorem rows_Clone.calls (A0 : Option Addr) (c0 : Nat) (l0 : List (List Value)) (r : List (List Value)) (w : World) (hr0 : Kd.C (Kd.raw 1) w A0 l0.length l0) (hc0 : l0.length ≤ c0) (h : rows_Clone.f l0 = some r) :
    Calls Tryd.prog 53 #[.slice A0 l0.length c0] w fun e w' => ∃ v0_ : Value, e = .returned (v0_) ∧ Kd.R (Kd.raw 1) 22 w' w.heap.size (fun _ => True) v0_ r ∧ Below w.heap.size w w' := by
  cases A0 with
  | none => exact rows_Clone.calls_none c0 l0 r w hr0 hc0 h
  | some a => exact rows_Clone.calls_some a c0 l0 r w hr0 hc0 h
end Go.Proofs.YtpnpmeogffodgaaDoor.Q
end
section
namespace Go.Proofs.YtpnpmeogffodgaaDoor.Q
open Go.RowKit Go.Proofs.YtpnpmeogffodgaaDoorW.PrintWords Go.Proofs.YtpnpmeogffodgaaDoorW.PrintLast Go.Proofs.YtpnpmeogffodgaaDoorW.PrintMore
set_option linter.unusedVariables false
set_option linter.unusedSimpArgs false
/-- Headers, each as an element of one cell. -/
def hd1 (H : List Value) : List (List Value) := H.map fun v => [v]
theorem hd1_len (H : List Value) : (hd1 H).length = H.length := by simp [hd1]
theorem hd1_get {H : List Value} {j : Nat} {u : Value} (h : H[j]? = some u) : (hd1 H)[j]? = some [u] := by simp [hd1, h]
theorem hd1_set (H : List Value) (j : Nat) (u : Value) : (hd1 H).set j [u] = hd1 (H.set j u) := by simp [hd1, List.map_set]
/-- The headers of rows that are read. -/
theorem C_hdrs {w : World} {A : Option Addr} {ls : List (List S36)} (h : Kd.C (Kd.slice 36 k36) w A ls.length ls) : ∃ H : List Value, H.length = ls.length ∧ Kd.C (Kd.raw 1) w A ls.length (hd1 H) ∧ ∀ (j : Nat) (l : List S36), ls[j]? = some l → ∃ (A : Option Addr) (c : Nat), H[j]? = some (Value.slice A l.length c) ∧ l.length ≤ c ∧ Kd.C k36 w A l.length l := by
  have hle := h.2.1
  by_cases hn : 0 < ls.length
  · obtain ⟨ad, hA, hcc⟩ := h.2.2 hn
    subst hA
    have hx : ∀ j : Nat, ∃ v : Value, ∀ l : List S36, ls[j]? = some l → (∃ (A : Option Addr) (c : Nat), v = Value.slice A l.length c ∧ l.length ≤ c ∧ Kd.C k36 w A l.length l) ∧ w.cell? (ad.add j) = some v := by
      intro j
      cases hj : ls[j]? with
      | none => exact ⟨undef, fun l hl => by cases hl⟩
      | some l0 =>
        obtain ⟨c, hcl, ⟨A, c0, rfl, h1, h2⟩, hcell⟩ := hcc j l0 hj
        refine ⟨Value.slice A l0.length c0, fun l hl => ?_⟩
        obtain rfl := Option.some.inj hl
        have h0 := hcell 0 _ rfl
        simp only [show (Kd.slice 36 k36).sz = 1 from rfl, Nat.mul_one, Nat.add_zero] at h0
        exact ⟨⟨A, c0, rfl, h1, h2⟩, h0⟩
    obtain ⟨F, hF⟩ := Classical.axiomOfChoice hx
    have hget : ∀ (j : Nat) (l : List S36), ls[j]? = some l → ((List.range ls.length).map F)[j]? = some (F j) := by
      intro j l hl
      have := (List.getElem?_eq_some_iff.mp hl).1
      simp [this]
    refine ⟨(List.range ls.length).map F, by simp, ⟨by rw [hd1_len]; simp, hle, fun _ => ⟨ad, rfl, fun j p hp => ?_⟩⟩, fun j l hl => ?_⟩
    · have hlt : j < ls.length := by
        have := (List.getElem?_eq_some_iff.mp hp).1
        rw [hd1_len] at this
        simpa using this
      have hl := List.getElem?_eq_getElem hlt
      have e := hd1_get (hget j _ hl)
      rw [e] at hp
      obtain rfl := Option.some.inj hp
      obtain ⟨⟨A, c, hv, _, _⟩, hcell⟩ := hF j _ hl
      refine ⟨[F j], rfl, ⟨rfl, rfl, fun u hu => ?_⟩, fun i u hi => ?_⟩
      · rw [List.mem_singleton.mp hu, hv]; rfl
      · cases i with
        | zero =>
          obtain rfl := Option.some.inj hi
          simp only [show (Kd.raw 1).sz = 1 from rfl, Nat.mul_one, Nat.add_zero]
          exact hcell
        | succ i => simp at hi
    · obtain ⟨⟨A, c, hv, h1, h2⟩, _⟩ := hF j l hl
      exact ⟨A, c, by rw [hget j l hl, hv], h1, h2⟩
  · have h0 : ls = [] := List.eq_nil_of_length_eq_zero (by omega)
    subst h0
    exact ⟨[], rfl, ⟨rfl, Nat.zero_le _, fun h => absurd h (Nat.lt_irrefl 0)⟩, fun j l hl => by simp at hl⟩
/-- A header cell of an own row of headers. -/
theorem hd_cell {W : World} {base gO n c : Nat} {ok : Nat → Prop} {H : List Value} (h : Kd.R (Kd.raw 1) 22 W base ok (.slice (some ⟨gO, 0, none⟩) n c) (hd1 H)) (j : Nat) (u : Value) (hj : H[j]? = some u) : W.cell? ⟨gO, j, none⟩ = some u := by
  obtain ⟨hn, _, hC⟩ := Kd.R_reads' h
  have hlt := (List.getElem?_eq_some_iff.mp hj).1
  obtain ⟨ad, e, hc⟩ := hC.2.2 (by rw [hd1_len]; omega)
  injection e with e
  subst e
  obtain ⟨cs, hl, ⟨rfl, _, _⟩, hcell⟩ := hc j _ (hd1_get hj)
  have := hcell 0 u rfl
  simp only [show (Kd.raw 1).sz = 1 from rfl, Nat.mul_one, Nat.add_zero] at this
  rw [add_plain] at this
  exact this
/-- Own rows, told by headers, each of its own block. -/
structure RwI (b : Nat) (H : List Value) (pre : List (List S36)) (W : World) : Prop where
  row : ∀ (j : Nat) (l : List S36), pre[j]? = some l → ∃ u : Value, H[j]? = some u ∧ Kd.R k36 36 W b (fun k => some k = u.ownBlock) u l
  ne : ∀ (j j' : Nat) (u u' : Value) (k : Nat), j < pre.length → j' < pre.length → H[j]? = some u → H[j']? = some u' → u.ownBlock = some k → u'.ownBlock = some k → j = j'
theorem RwI.move {b : Nat} {H : List Value} {pre : List (List S36)} {W W1 : World} (h : RwI b H pre W) (hm : ∀ k, b ≤ k → k < W.heap.size → (∃ cs, W.heap[k]? = some (Obj.cells cs 36 (0, 0))) → W1.heap[k]? = W.heap[k]?) : RwI b H pre W1 := by
  refine ⟨fun j l hl => ?_, h.ne⟩
  obtain ⟨u, hu, hr⟩ := h.row j l hl
  refine ⟨u, hu, Kd.R_mono (Kd.R_step (Kd.R_bound hr) fun k hk _ => ?_) fun k hk => hk.1⟩
  obtain ⟨_, h1, h2, q, hq, cs, hc⟩ := hk
  obtain rfl : q = 36 := by simpa [k36, Kd.iso, Kd.pair, Kd.int, Kd.scalar] using hq
  exact hm k h1 h2 ⟨cs, hc⟩
theorem RwI.below {b : Nat} {H : List Value} {pre : List (List S36)} {W W1 : World} (h : RwI b H pre W) (hb : Below W.heap.size W W1) : RwI b H pre W1 := h.move fun k _ hk _ => hb.block k hk
theorem RwI.setLow {b : Nat} {H : List Value} {pre : List (List S36)} {W : World} (h : RwI b H pre W) {g : Nat} (hg : g < b) (j : Nat) (u : Value) : RwI b H pre (W.setCell ⟨g, j, none⟩ u) := h.move fun k hk _ _ => Below.heap_setCell W ⟨g, j, none⟩ u k (by show k ≠ g; omega)
theorem RwI.setOther {b : Nat} {H : List Value} {pre : List (List S36)} {W : World} (h : RwI b H pre W) {g t : Nat} {cells : Array Value} (hg : W.heap[g]? = some (.cells cells t (0, 0))) (ht : t ≠ 36) (j : Nat) (u : Value) : RwI b H pre (W.setCell ⟨g, j, none⟩ u) := h.move fun k _ _ hc => Below.heap_setCell W ⟨g, j, none⟩ u k (fun e : k = g => by
  obtain ⟨cs, hc⟩ := hc
  subst e
  rw [hc] at hg
  injection hg with e1
  injection e1 with _ e2
  exact ht e2.symm)
/-- The header at a place is put anew. -/
theorem hd_put {W : World} {base gO n c : Nat} {H : List Value} (h : Kd.R (Kd.raw 1) 22 W base (fun _ => True) (.slice (some ⟨gO, 0, none⟩) n c) (hd1 H)) (j : Nat) (hj : j < n) (u : Value) (hu : u.oneCell' = true) : Kd.R (Kd.raw 1) 22 (W.setCell ⟨gO, j, none⟩ u) base (fun _ => True) (.slice (some ⟨gO, 0, none⟩) n c) (hd1 (H.set j u)) := by
  obtain ⟨ce, hcl, hMe, hcc, hfr⟩ := Kd.R_elem h [] (j : Int) (by omega) (by omega)
  have hce : ce.length = 1 := hcl
  obtain ⟨x, rfl⟩ : ∃ x, ce = [x] := by
    match ce, hce with
    | [x], _ => exact ⟨x, rfl⟩
  have hP := (Kd.R_seg h (j : Int) (by omega) (by omega) (seg := [u]) (j := 0) hcl hcc (show 1 ≤ 1 from Nat.le_refl _) (x' := [u]) (okp := fun k => True ∧ k ≠ gO) (show Kd.M (Kd.raw 1) W base _ [u] [u] from ⟨rfl, rfl, fun y hy => by rw [List.mem_singleton.mp hy]; exact hu⟩) (fun _ hk => hk)).1
  simp only [show (Kd.raw 1).sz = 1 from rfl, Nat.mul_one, Nat.add_zero, Int.toNat_natCast] at hP
  rw [hd1_set] at hP
  exact hP
theorem hd_far {W : World} {base gO n c : Nat} {H : List Value} (h : Kd.R (Kd.raw 1) 22 W base (fun _ => True) (.slice (some ⟨gO, 0, none⟩) n c) (hd1 H)) {g : Nat} (hne : gO ≠ g) (j : Nat) (u : Value) : Kd.R (Kd.raw 1) 22 (W.setCell ⟨g, j, none⟩ u) base (fun _ => True) (.slice (some ⟨gO, 0, none⟩) n c) (hd1 H) :=
  Kd.R_mono (Kd.R_far (p := ⟨g, j, none⟩) (Kd.R_tight rfl h) (fun k hk => by
    have e : k = gO := Option.some.inj hk
    subst e
    exact hne) u) (fun _ _ => trivial)
/-- A digest of an own row is put anew. -/
theorem dg_put {W : World} {base g n c : Nat} {ok : Nat → Prop} {l : List S36} (h : Kd.R k36 36 W base ok (.slice (some ⟨g, 0, none⟩) n c) l) (i : Nat) (hi : i < n) (d : S36) : Kd.R k36 36 ((W.setCell ⟨g, i * 2, none⟩ (.int .u64 d.f0)).setCell ⟨g, i * 2 + 1, none⟩ (.int .u64 d.f1)) base ok (.slice (some ⟨g, 0, none⟩) n c) (l.set i d) := by
  obtain ⟨ce, hcl, hMe, hcc, hfr⟩ := Kd.R_elem h z36 (i : Int) (by omega) (by omega)
  obtain rfl := k36_openM hMe
  have hP := (Kd.R_seg h (i : Int) (by omega) (by omega) (seg := [.int .u64 d.f0, .int .u64 d.f1]) (j := 0) hcl hcc (show 2 ≤ 2 from by decide) (x' := d) (k36_mkM _ _ _ d) (fun _ hk => hk)).1
  simp only [show (k36).sz = 2 from rfl, Nat.mul_one, Nat.add_zero, Int.toNat_natCast] at hP
  exact hP
/-- A new row comes behind the own rows. -/
theorem RwI.snoc {b : Nat} {H : List Value} {pre : List (List S36)} {W : World} {u : Value} {l : List S36} {N : Nat} (h : RwI b H pre W) (hr : Kd.R k36 36 W N (fun _ => True) u l) (hN : b ≤ N) (hold : ∀ j v k, j < pre.length → H[j]? = some v → v.ownBlock = some k → k < N) (hl : pre.length < H.length) : RwI b (H.set pre.length u) (pre ++ [l]) W := by
  have hun : ∀ k, u.ownBlock = some k → N ≤ k := Kd.R_base hr
  have get : ∀ j v, j < (pre ++ [l]).length → (H.set pre.length u)[j]? = some v → (j < pre.length ∧ H[j]? = some v) ∨ (j = pre.length ∧ v = u) := by
    intro j v hj hv
    rw [List.getElem?_set] at hv
    split at hv
    · rename_i e
      subst e
      (try rw [if_pos hl] at hv)
      exact Or.inr ⟨rfl, (Option.some.inj hv).symm⟩
    · rename_i e
      rw [List.length_append, List.length_singleton] at hj
      exact Or.inl ⟨by omega, hv⟩
  refine ⟨fun j m hm => ?_, fun j j' v v' k hj hj' hv hv' hk hk' => ?_⟩
  · have hlt := (List.getElem?_eq_some_iff.mp hm).1
    rw [List.length_append, List.length_singleton] at hlt
    by_cases hj : j < pre.length
    · rw [List.getElem?_append_left hj] at hm
      obtain ⟨v, hv, hr0⟩ := h.row j m hm
      exact ⟨v, by rw [List.getElem?_set, if_neg (by omega)]; exact hv, hr0⟩
    · obtain rfl : j = pre.length := by omega
      rw [List.getElem?_append_right (Nat.le_refl _), Nat.sub_self] at hm
      obtain rfl := Option.some.inj hm
      exact ⟨u, by rw [List.getElem?_set, if_pos rfl, if_pos hl], Kd.R_lower (Kd.R_tight rfl hr) hN⟩
  · rcases get j v hj hv with ⟨h1, h2⟩ | ⟨h1, rfl⟩
    · rcases get j' v' hj' hv' with ⟨h3, h4⟩ | ⟨h3, rfl⟩
      · exact h.ne j j' v v' k h1 h3 h2 h4 hk hk'
      · have := hold j v k h1 h2 hk
        have := hun k hk'
        omega
    · rcases get j' v' hj' hv' with ⟨h3, h4⟩ | ⟨h3, rfl⟩
      · have := hold j' v' k h3 h4 hk'
        have := hun k hk
        omega
      · rw [h1, h3]
theorem RwI.old {b : Nat} {H : List Value} {pre : List (List S36)} {W : World} (h : RwI b H pre W) (j : Nat) (v : Value) (k : Nat) (hj : j < pre.length) (hv : H[j]? = some v) (hk : v.ownBlock = some k) : b ≤ k ∧ k < W.heap.size := by
  obtain ⟨u, hu, hr⟩ := h.row j _ (List.getElem?_eq_getElem hj)
  rw [hv] at hu
  obtain rfl := Option.some.inj hu
  exact ⟨Kd.R_base hr k hk, Kd.R_lt hr k hk⟩
/-- The last row is written into. -/
theorem RwI.put {b g n c : Nat} {H : List Value} {pre : List (List S36)} {l : List S36} {W : World} (h : RwI b H (pre ++ [l]) W) (hg : H[pre.length]? = some (.slice (some ⟨g, 0, none⟩) n c)) (i : Nat) (hi : i < n) (d : S36) : RwI b H (pre ++ [l.set i d]) ((W.setCell ⟨g, i * 2, none⟩ (.int .u64 d.f0)).setCell ⟨g, i * 2 + 1, none⟩ (.int .u64 d.f1)) := by
  refine ⟨fun j m hm => ?_, fun j j' v v' k hj hj' => h.ne j j' v v' k (by simpa using hj) (by simpa using hj')⟩
  have hlt := (List.getElem?_eq_some_iff.mp hm).1
  rw [List.length_append, List.length_singleton] at hlt
  by_cases hj : j < pre.length
  · rw [List.getElem?_append_left hj] at hm
    obtain ⟨v, hv, hr0⟩ := h.row j m (by rw [List.getElem?_append_left hj]; exact hm)
    have hne : ∀ k, some k = v.ownBlock → k ≠ g := fun k hk e => by
      subst e
      have := h.ne j pre.length v _ k (by simp; omega) (by simp) hv hg hk.symm rfl
      omega
    exact ⟨v, hv, Kd.R_far (p := ⟨g, _, none⟩) (Kd.R_far (p := ⟨g, _, none⟩) hr0 hne _) hne _⟩
  · obtain rfl : j = pre.length := by omega
    rw [List.getElem?_append_right (Nat.le_refl _), Nat.sub_self] at hm
    obtain rfl := Option.some.inj hm
    obtain ⟨v, hv, hr0⟩ := h.row pre.length l (by rw [List.getElem?_append_right (Nat.le_refl _), Nat.sub_self]; rfl)
    rw [hg] at hv
    obtain rfl := Option.some.inj hv
    exact ⟨_, hg, dg_put hr0 i hi d⟩
/-- Rows of rows out of their headers. -/
theorem S_rows {W : World} {base : Nat} {v : Value} {H : List Value} {xs : List (List S36)} (h : Kd.R (Kd.raw 1) 22 W base (fun _ => True) v (hd1 H)) (hl : H.length = xs.length) (hr : RwI base H xs W) : Kd.S (Kd.slice 36 k36) 22 W base (fun _ => True) v xs := by
  have hf : ∀ k : Nat, ∃ j : Nat, ∀ j' u, j' < xs.length → H[j']? = some u → u.ownBlock = some k → j = j' := by
    intro k
    by_cases hx : ∃ (j : Nat) (u : Value), j < xs.length ∧ H[j]? = some u ∧ u.ownBlock = some k
    · obtain ⟨j, u, h1, h2, h3⟩ := hx
      exact ⟨j, fun j' u' g1 g2 g3 => hr.ne j j' u u' k h1 g1 h2 g2 h3 g3⟩
    · exact ⟨0, fun j' u' g1 g2 g3 => absurd ⟨j', u', g1, g2, g3⟩ hx⟩
  obtain ⟨F, hF⟩ := Classical.axiomOfChoice hf
  have hty := Kd.R_typed h
  obtain ⟨_, inner, ho, hi⟩ := h
  refine ⟨F, fun _ _ => trivial, inner, ?_, ?_, fun j p hp => ?_⟩
  · rw [List.length_zipIdx, ← hl, ← hd1_len]; exact ho
  · have := hi.1
    rw [hd1_len, hl] at this
    rw [List.length_zipIdx]
    exact this
  · rw [List.getElem?_zipIdx, Nat.zero_add] at hp
    obtain ⟨l, hj, rfl⟩ := Option.map_eq_some_iff.1 hp
    obtain ⟨u, hu, hru⟩ := hr.row j l hj
    have hM := hi.2 j [u] (hd1_get hu)
    refine ⟨u, hM.1, Kd.R_mono hru fun k hk => ⟨⟨trivial, fun e => ?_⟩, hF k j u (List.getElem?_eq_some_iff.mp hj).1 hu hk.symm⟩⟩
    obtain ⟨c1, h1⟩ := hty k e.symm
    obtain ⟨c2, h2⟩ := Kd.R_typed hru k hk.symm
    rw [h1] at h2
    injection h2 with e1
    injection e1 with _ e2
    exact absurd e2 (by decide)
end Go.Proofs.YtpnpmeogffodgaaDoor.Q
end
section
namespace Go.Proofs.YtpnpmeogffodgaaDoor.Q
open Go.RowKit Go.Proofs.YtpnpmeogffodgaaDoorW.PrintWords Go.Proofs.YtpnpmeogffodgaaDoorW.PrintLast Go.Proofs.YtpnpmeogffodgaaDoorW.PrintMore
set_option linter.unusedVariables false
set_option linter.unusedSimpArgs false
/-- The leaf of a level: the one that came in, or the node of the pair below. -/
def leafL (f : Int) : Option (List S36) → Nat → S36 → Option S36
  | none, _, d => some d
  | some p, i, _ => if 2 * i + 1 < p.length then (sponge_Node.f 200 f (p.getD (2 * i) z36).f0 (p.getD (2 * i) z36).f1 (p.getD (2 * i + 1) z36).f0 (p.getD (2 * i + 1) z36).f1).bind fun n => some ⟨n.1, n.2⟩ else none
/-- The levels with another leaf. -/
def replL (f : Int) : Option (List S36) → List (List S36) → Nat → S36 → Option (List (List S36))
  | _, [], _, _ => some []
  | p, row :: rest, i, d => (leafL f p i d).bind fun x => if i < row.length ∧ row.length ≤ 1048576 then (replL f (some (row.set i x)) rest (i / 2) x).bind fun r => some (row.set i x :: r) else none
def tree_Replace.f (k : Nat) (a0_0 a0_1 a0_2 : Int) (l0_3 : List (List S36)) (a1 d0 d1 : Int) : Option (Int × Int × Int × List (List S36) × Int) :=
  (tree_place.f k a0_0 a0_1 a0_2 l0_3 a1).bind fun e => if e = 0 then ((tree_proper.f a0_0 [⟨d0, d1⟩]).bind fun p => if p = true then (if 0 ≤ a1 ∧ 0 < l0_3.length ∧ l0_3.length ≤ 1000 then (replL a0_0 none l0_3 a1.toNat ⟨d0, d1⟩).bind fun r => some (a0_0, a0_1, a0_2, r, 0) else none) else some (0, 0, 0, [], 2)) else some (0, 0, 0, [], e)
theorem tree_Replace.mono : ∀ a0 a1 a2 a3 a4 a5 a6 k, LeO (tree_Replace.f k a0 a1 a2 a3 a4 a5 a6) (tree_Replace.f (k + 1) a0 a1 a2 a3 a4 a5 a6) := by
  intro a0 a1 a2 a3 a4 a5 a6 k r h
  unfold tree_Replace.f at h ⊢
  obtain ⟨e, he, h⟩ := Option.bind_eq_some_iff.mp h
  rw [tree_place.mono _ _ _ _ _ _ _ he, Option.bind_some]
  exact h
theorem R_low {α : Type} {d : Kd α} {e b : Nat} {ok : Nat → Prop} {W : World} {v : Value} {xs : List α} (h : d.R e W b ok v xs) {g : Nat} (hg : g < b) (j : Nat) (u : Value) : d.R e (W.setCell ⟨g, j, none⟩ u) b ok v xs :=
  Kd.R_mono (Kd.R_step (Kd.R_bound h) (fun k hk _ => Below.heap_setCell W ⟨g, j, none⟩ u k (by have := hk.2.1; show k ≠ g; omega))) (fun _ hk => hk.1)
theorem rowsC (A : Option Addr) (c n : Nat) (H : List Value) (hn : H.length = n) (w : World) (hr : Kd.C (Kd.raw 1) w A n (hd1 H)) (hc : n ≤ c) (h1 : n ≤ 1000) : Calls Tryd.prog 53 #[.slice A n c] w fun e w' => ∃ v0_ : Value, e = .returned v0_ ∧ Kd.R (Kd.raw 1) 22 w' w.heap.size (fun _ => True) v0_ (hd1 H) ∧ Below w.heap.size w w' := by
  obtain rfl : (hd1 H).length = n := by rw [hd1_len]; exact hn
  refine rows_Clone.calls A c (hd1 H) (hd1 H) w hr hc ?_
  unfold rows_Clone.f
  rw [Option.bind_some, if_pos (by rw [List.length_nil]; omega)]
  rfl
set_option maxHeartbeats 4000000 in
set_option maxRecDepth 100000 in
theorem replace_place (k : Nat) (a0_0 a0_1 a0_2 : Int) (A0_3 : Option Addr) (c0_3 : Nat) (l0_3 : List (List S36)) (a1 d0 d1 : Int) (w : World) (hr0_3 : Kd.C (Kd.slice 36 k36) w A0_3 l0_3.length l0_3) (hc0_3 : l0_3.length ≤ c0_3) (hrG : GL w) (e : Int) (h1 : tree_place.f k a0_0 a0_1 a0_2 l0_3 a1 = some e) (he : e ≠ 0) : Calls Tryd.prog 32 #[.agg #[.int .i64 a0_0, .int .i64 a0_1, .int .i64 a0_2, .slice A0_3 l0_3.length c0_3], .int .i64 a1, .agg #[.int .u64 d0, .int .u64 d1]] w fun e' w' => e' = .returned (.tuple #[.agg #[.int .i64 0, .int .i64 0, .int .i64 0, .slice none 0 0], .int .i64 e]) ∧ Below w.heap.size w w' := by
  have hu26 := Tryd.underlying26
  have hu36 := Tryd.underlying36
  have hu24 := Tryd.underlying24
  have hu22 := Tryd.underlying22
  obtain ⟨w0, hw0⟩ : ∃ w0, w0 = w := ⟨_, rfl⟩
  generalize hSS : (fun _ : Nat => False) = S
  have HS : Aside0 (Stp w0 w S w) := ⟨by rw [hw0]; exact Below.refl _ _, Kept.refl _ _⟩
  have HW := Aside0.mk hw0
  have HR3 : Aside0 (Kd.C (Kd.slice 36 k36) w0 A0_3 l0_3.length l0_3) := ⟨by rw [hw0]; exact hr0_3⟩
  have HC3 := Aside0.mk hc0_3
  have HRG : Aside0 (GL w0) := ⟨by rw [hw0]; exact hrG⟩
  clear hSS hw0 hr0_3 hc0_3 hrG
  have AO1 := Aside0.mk h1
  clear h1
  have he0 : (e != 0) = true := bne_iff_ne.mpr he
  clear he
  go_enter Tryd.func32, Tryd.ntmps32
  go_wp2_with (first
    | ((with_reducible refine gate_dst (N := 3) rfl ?_); refine box_event ?hg (N := 3) ?hd (cs := #[.int .i64 a0_0, .int .i64 a0_1, .int .i64 a0_2, .slice A0_3 l0_3.length c0_3]) (t := 26) ?hr ?_; (case hd => rfl); (case hg => rfl); (case hr => first | (go_simp; done) | (go_simp; rfl)); intro g3 xg w1 y_ hb; skip; have G_g3 := Aside0.mk (stp_new HS.out xg); replace HS := Aside0.mk (show Stp w0 w S w1 from stp_below HS.out hb); have B_g3 := Aside0.mk y_; clear xg y_ hb; skip)
    | ((with_reducible refine gate_dst (N := 5) rfl ?_); refine box_event ?hg (N := 5) ?hd (cs := #[.int .u64 d0, .int .u64 d1]) (t := 36) ?hr ?_; (case hd => rfl); (case hg => rfl); (case hr => first | (go_simp; done) | (go_simp; rfl)); intro g5 xg w2 y_ hb; skip; have N_g3_g5 := Aside0.mk (new_ne B_g3.out xg); have N_g5_g3 := Aside0.mk N_g3_g5.out.symm; have G_g5 := Aside0.mk (stp_new HS.out xg); replace B_g3 := Aside0.mk (show w2.heap[g3]? = some (.cells #[.int .i64 a0_0, .int .i64 a0_1, .int .i64 a0_2, .slice A0_3 l0_3.length c0_3] 26 (0, 0)) from blk_below B_g3.out hb); replace HS := Aside0.mk (show Stp w0 w S w2 from stp_below HS.out hb); have B_g5 := Aside0.mk y_; clear xg y_ hb; skip)
    | ((with_reducible refine gate_dst (N := 6) rfl ?_); refine box_event ?hg (N := 6) ?hd (cs := #[.int .i64 0, .int .i64 0, .int .i64 0, .slice none 0 0]) (t := 26) ?hr ?_; (case hd => rfl); (case hg => rfl); (case hr => first | (go_simp; done) | (go_simp; rfl)); intro g6 xg w3 y_ hb; skip; have N_g3_g6 := Aside0.mk (new_ne B_g3.out xg); have N_g6_g3 := Aside0.mk N_g3_g6.out.symm; have N_g5_g6 := Aside0.mk (new_ne B_g5.out xg); have N_g6_g5 := Aside0.mk N_g5_g6.out.symm; have G_g6 := Aside0.mk (stp_new HS.out xg); replace B_g3 := Aside0.mk (show w3.heap[g3]? = some (.cells #[.int .i64 a0_0, .int .i64 a0_1, .int .i64 a0_2, .slice A0_3 l0_3.length c0_3] 26 (0, 0)) from blk_below B_g3.out hb); replace B_g5 := Aside0.mk (show w3.heap[g5]? = some (.cells #[.int .u64 d0, .int .u64 d1] 36 (0, 0)) from blk_below B_g5.out hb); replace HS := Aside0.mk (show Stp w0 w S w3 from stp_below HS.out hb); have B_g6 := Aside0.mk y_; clear xg y_ hb; have c_g3_0 : w3.cell? ⟨g3, 0, none⟩ = some (.int .i64 a0_0) := (blk_cell B_g3.out 0).trans rfl; have f_g3_0 := blk_frozen B_g3.out 0; have c_g3_1 : w3.cell? ⟨g3, 1, none⟩ = some (.int .i64 a0_1) := (blk_cell B_g3.out 1).trans rfl; have f_g3_1 := blk_frozen B_g3.out 1; have c_g3_2 : w3.cell? ⟨g3, 2, none⟩ = some (.int .i64 a0_2) := (blk_cell B_g3.out 2).trans rfl; have f_g3_2 := blk_frozen B_g3.out 2; have c_g3_3 : w3.cell? ⟨g3, 3, none⟩ = some (.slice A0_3 l0_3.length c0_3) := (blk_cell B_g3.out 3).trans rfl; have f_g3_3 := blk_frozen B_g3.out 3)
    | (go_at_call 46; (with_reducible refine (tree_place.calls k a0_0 a0_1 a0_2 _ _ l0_3 a1 e _ (Kd.C_below HR3.out (stp_b HS.out)) HC3.out (GL.below HRG.out (stp_b HS.out)) AO1.out).mono ?_); rintro e w4 ⟨rfl, hb⟩; clear c_g3_0 f_g3_0 c_g3_1 f_g3_1 c_g3_2 f_g3_2 c_g3_3 f_g3_3; replace B_g3 := Aside0.mk (show w4.heap[g3]? = some (.cells #[.int .i64 a0_0, .int .i64 a0_1, .int .i64 a0_2, .slice A0_3 l0_3.length c0_3] 26 (0, 0)) from blk_below B_g3.out hb); replace B_g5 := Aside0.mk (show w4.heap[g5]? = some (.cells #[.int .u64 d0, .int .u64 d1] 36 (0, 0)) from blk_below B_g5.out hb); replace B_g6 := Aside0.mk (show w4.heap[g6]? = some (.cells #[.int .i64 0, .int .i64 0, .int .i64 0, .slice none 0 0] 26 (0, 0)) from blk_below B_g6.out hb); replace HS := Aside0.mk (show Stp w0 w S w4 from stp_below HS.out hb); clear hb; have c_g6_0 : w4.cell? ⟨g6, 0, none⟩ = some (.int .i64 0) := (blk_cell B_g6.out 0).trans rfl; have f_g6_0 := blk_frozen B_g6.out 0; have c_g6_1 : w4.cell? ⟨g6, 1, none⟩ = some (.int .i64 0) := (blk_cell B_g6.out 1).trans rfl; have f_g6_1 := blk_frozen B_g6.out 1; have c_g6_2 : w4.cell? ⟨g6, 2, none⟩ = some (.int .i64 0) := (blk_cell B_g6.out 2).trans rfl; have f_g6_2 := blk_frozen B_g6.out 2; have c_g6_3 : w4.cell? ⟨g6, 3, none⟩ = some (.slice none 0 0) := (blk_cell B_g6.out 3).trans rfl; have f_g6_3 := blk_frozen B_g6.out 3)
    | ((with_reducible refine gate_store (t := 26) (p := 6) rfl ?_); refine store_event (t := 26) (p := 6) (v := .tmp 16) (w1 := ((((w4.setCell ⟨g6, 0, none⟩ (.int .i64 0)).setCell ⟨g6, 1, none⟩ (.int .i64 0)).setCell ⟨g6, 2, none⟩ (.int .i64 0)).setCell ⟨g6, 3, none⟩ (.slice none 0 0))) ?hg ?ho ?hn ?hr ?_; (case ho => rfl); (case hg => rfl); (case hn => rfl); (case hr => first | (go_simp; done) | (go_simp; rfl)); intro w5 hw; clear c_g6_0 f_g6_0 c_g6_1 f_g6_1 c_g6_2 f_g6_2 c_g6_3 f_g6_3; replace B_g3 := Aside0.mk (show w5.heap[g3]? = some (.cells #[.int .i64 a0_0, .int .i64 a0_1, .int .i64 a0_2, .slice A0_3 l0_3.length c0_3] 26 (0, 0)) from (by rw [hw]; (repeat (refine blk_far ?_ N_g3_g6.out _)); exact B_g3.out)); replace B_g5 := Aside0.mk (show w5.heap[g5]? = some (.cells #[.int .u64 d0, .int .u64 d1] 36 (0, 0)) from (by rw [hw]; (repeat (refine blk_far ?_ N_g5_g6.out _)); exact B_g5.out)); replace B_g6 := Aside0.mk (show w5.heap[g6]? = some (.cells #[.int .i64 0, .int .i64 0, .int .i64 0, .slice none 0 0] 26 (0, 0)) from (by rw [hw]; exact (blk_put (cs := #[.int .i64 0, .int .i64 0, .int .i64 0, .slice none 0 0]) (blk_put (cs := #[.int .i64 0, .int .i64 0, .int .i64 0, .slice none 0 0]) (blk_put (cs := #[.int .i64 0, .int .i64 0, .int .i64 0, .slice none 0 0]) (blk_put (cs := #[.int .i64 0, .int .i64 0, .int .i64 0, .slice none 0 0]) B_g6.out 0 (.int .i64 0) rfl) 1 (.int .i64 0) rfl) 2 (.int .i64 0) rfl) 3 (.slice none 0 0) rfl))); replace HS := Aside0.mk (show Stp w0 w S w5 from (by rw [hw]; exact (stp_set (stp_set (stp_set (stp_set HS.out G_g6.out 0 (.int .i64 0)) G_g6.out 1 (.int .i64 0)) G_g6.out 2 (.int .i64 0)) G_g6.out 3 (.slice none 0 0)))); clear hw; skip))
  refine bodyPost_ret (results_list (rs := [.cell 6 26, .tmp 7]) rfl (by simp) (.cell g6 26 #[.int .i64 0, .int .i64 0, .int .i64 0, .slice none 0 0] (0, 0) _ rfl B_g6.out Tryd.underlying26 rfl (by kernel_rfl) (.tmp .nil))) rfl ?_
  obtain rfl := HW.out
  exact ⟨rfl, stp_b HS.out⟩
set_option maxHeartbeats 4000000 in
set_option maxRecDepth 100000 in
theorem replace_prop (k : Nat) (a0_0 a0_1 a0_2 : Int) (A0_3 : Option Addr) (c0_3 : Nat) (l0_3 : List (List S36)) (a1 d0 d1 : Int) (w : World) (hr0_3 : Kd.C (Kd.slice 36 k36) w A0_3 l0_3.length l0_3) (hc0_3 : l0_3.length ≤ c0_3) (hrG : GL w) (h1 : tree_place.f k a0_0 a0_1 a0_2 l0_3 a1 = some 0) (h2 : tree_proper.f a0_0 [⟨d0, d1⟩] = some false) : Calls Tryd.prog 32 #[.agg #[.int .i64 a0_0, .int .i64 a0_1, .int .i64 a0_2, .slice A0_3 l0_3.length c0_3], .int .i64 a1, .agg #[.int .u64 d0, .int .u64 d1]] w fun e' w' => e' = .returned (.tuple #[.agg #[.int .i64 0, .int .i64 0, .int .i64 0, .slice none 0 0], .int .i64 2]) ∧ Below w.heap.size w w' := by
  have hu26 := Tryd.underlying26
  have hu36 := Tryd.underlying36
  have hu24 := Tryd.underlying24
  have hu22 := Tryd.underlying22
  obtain ⟨w0, hw0⟩ : ∃ w0, w0 = w := ⟨_, rfl⟩
  generalize hSS : (fun _ : Nat => False) = S
  have HS : Aside0 (Stp w0 w S w) := ⟨by rw [hw0]; exact Below.refl _ _, Kept.refl _ _⟩
  have HW := Aside0.mk hw0
  have HR3 : Aside0 (Kd.C (Kd.slice 36 k36) w0 A0_3 l0_3.length l0_3) := ⟨by rw [hw0]; exact hr0_3⟩
  have HC3 := Aside0.mk hc0_3
  have HRG : Aside0 (GL w0) := ⟨by rw [hw0]; exact hrG⟩
  clear hSS hw0 hr0_3 hc0_3 hrG
  have AO1 := Aside0.mk h1
  clear h1
  obtain ⟨yy, hyy⟩ : ∃ yy, yy = [(⟨d0, d1⟩ : S36)] := ⟨_, rfl⟩
  have HYY := Aside0.mk hyy
  rw [← hyy] at h2
  have AO2 := Aside0.mk h2
  clear h2 hyy
  go_enter Tryd.func32, Tryd.ntmps32
  go_wp2_with (first
    | ((with_reducible refine gate_dst (N := 3) rfl ?_); refine box_event ?hg (N := 3) ?hd (cs := #[.int .i64 a0_0, .int .i64 a0_1, .int .i64 a0_2, .slice A0_3 l0_3.length c0_3]) (t := 26) ?hr ?_; (case hd => rfl); (case hg => rfl); (case hr => first | (go_simp; done) | (go_simp; rfl)); intro g3 xg w1 y_ hb; skip; have G_g3 := Aside0.mk (stp_new HS.out xg); replace HS := Aside0.mk (show Stp w0 w S w1 from stp_below HS.out hb); have B_g3 := Aside0.mk y_; clear xg y_ hb; skip)
    | ((with_reducible refine gate_dst (N := 5) rfl ?_); refine box_event ?hg (N := 5) ?hd (cs := #[.int .u64 d0, .int .u64 d1]) (t := 36) ?hr ?_; (case hd => rfl); (case hg => rfl); (case hr => first | (go_simp; done) | (go_simp; rfl)); intro g5 xg w2 y_ hb; skip; have N_g3_g5 := Aside0.mk (new_ne B_g3.out xg); have N_g5_g3 := Aside0.mk N_g3_g5.out.symm; have G_g5 := Aside0.mk (stp_new HS.out xg); replace B_g3 := Aside0.mk (show w2.heap[g3]? = some (.cells #[.int .i64 a0_0, .int .i64 a0_1, .int .i64 a0_2, .slice A0_3 l0_3.length c0_3] 26 (0, 0)) from blk_below B_g3.out hb); replace HS := Aside0.mk (show Stp w0 w S w2 from stp_below HS.out hb); have B_g5 := Aside0.mk y_; clear xg y_ hb; skip)
    | ((with_reducible refine gate_dst (N := 6) rfl ?_); refine box_event ?hg (N := 6) ?hd (cs := #[.int .i64 0, .int .i64 0, .int .i64 0, .slice none 0 0]) (t := 26) ?hr ?_; (case hd => rfl); (case hg => rfl); (case hr => first | (go_simp; done) | (go_simp; rfl)); intro g6 xg w3 y_ hb; skip; have N_g3_g6 := Aside0.mk (new_ne B_g3.out xg); have N_g6_g3 := Aside0.mk N_g3_g6.out.symm; have N_g5_g6 := Aside0.mk (new_ne B_g5.out xg); have N_g6_g5 := Aside0.mk N_g5_g6.out.symm; have G_g6 := Aside0.mk (stp_new HS.out xg); replace B_g3 := Aside0.mk (show w3.heap[g3]? = some (.cells #[.int .i64 a0_0, .int .i64 a0_1, .int .i64 a0_2, .slice A0_3 l0_3.length c0_3] 26 (0, 0)) from blk_below B_g3.out hb); replace B_g5 := Aside0.mk (show w3.heap[g5]? = some (.cells #[.int .u64 d0, .int .u64 d1] 36 (0, 0)) from blk_below B_g5.out hb); replace HS := Aside0.mk (show Stp w0 w S w3 from stp_below HS.out hb); have B_g6 := Aside0.mk y_; clear xg y_ hb; have c_g3_0 : w3.cell? ⟨g3, 0, none⟩ = some (.int .i64 a0_0) := (blk_cell B_g3.out 0).trans rfl; have f_g3_0 := blk_frozen B_g3.out 0; have c_g3_1 : w3.cell? ⟨g3, 1, none⟩ = some (.int .i64 a0_1) := (blk_cell B_g3.out 1).trans rfl; have f_g3_1 := blk_frozen B_g3.out 1; have c_g3_2 : w3.cell? ⟨g3, 2, none⟩ = some (.int .i64 a0_2) := (blk_cell B_g3.out 2).trans rfl; have f_g3_2 := blk_frozen B_g3.out 2; have c_g3_3 : w3.cell? ⟨g3, 3, none⟩ = some (.slice A0_3 l0_3.length c0_3) := (blk_cell B_g3.out 3).trans rfl; have f_g3_3 := blk_frozen B_g3.out 3)
    | (go_at_call 46; (with_reducible refine (tree_place.calls k a0_0 a0_1 a0_2 _ _ l0_3 a1 0 _ (Kd.C_below HR3.out (stp_b HS.out)) HC3.out (GL.below HRG.out (stp_b HS.out)) AO1.out).mono ?_); rintro e w4 ⟨rfl, hb⟩; clear c_g3_0 f_g3_0 c_g3_1 f_g3_1 c_g3_2 f_g3_2 c_g3_3 f_g3_3; replace B_g3 := Aside0.mk (show w4.heap[g3]? = some (.cells #[.int .i64 a0_0, .int .i64 a0_1, .int .i64 a0_2, .slice A0_3 l0_3.length c0_3] 26 (0, 0)) from blk_below B_g3.out hb); replace B_g5 := Aside0.mk (show w4.heap[g5]? = some (.cells #[.int .u64 d0, .int .u64 d1] 36 (0, 0)) from blk_below B_g5.out hb); replace B_g6 := Aside0.mk (show w4.heap[g6]? = some (.cells #[.int .i64 0, .int .i64 0, .int .i64 0, .slice none 0 0] 26 (0, 0)) from blk_below B_g6.out hb); replace HS := Aside0.mk (show Stp w0 w S w4 from stp_below HS.out hb); clear hb; have c_g3_0 : w4.cell? ⟨g3, 0, none⟩ = some (.int .i64 a0_0) := (blk_cell B_g3.out 0).trans rfl; have f_g3_0 := blk_frozen B_g3.out 0; have c_g3_1 : w4.cell? ⟨g3, 1, none⟩ = some (.int .i64 a0_1) := (blk_cell B_g3.out 1).trans rfl; have f_g3_1 := blk_frozen B_g3.out 1; have c_g3_2 : w4.cell? ⟨g3, 2, none⟩ = some (.int .i64 a0_2) := (blk_cell B_g3.out 2).trans rfl; have f_g3_2 := blk_frozen B_g3.out 2; have c_g3_3 : w4.cell? ⟨g3, 3, none⟩ = some (.slice A0_3 l0_3.length c0_3) := (blk_cell B_g3.out 3).trans rfl; have f_g3_3 := blk_frozen B_g3.out 3; have c_g5_0 : w4.cell? ⟨g5, 0, none⟩ = some (.int .u64 d0) := (blk_cell B_g5.out 0).trans rfl; have f_g5_0 := blk_frozen B_g5.out 0; have c_g5_1 : w4.cell? ⟨g5, 1, none⟩ = some (.int .u64 d1) := (blk_cell B_g5.out 1).trans rfl; have f_g5_1 := blk_frozen B_g5.out 1)
    | ((with_reducible refine gate_dst (N := 21) rfl ?_); refine Kd.R_lit k36 _ 36 ?hg (N := 21) ?hd (xs := [(⟨d0, d1⟩ : S36)]) (inner := [.int .u64 d0, .int .u64 d1]) (ok := fun _ => True) (okp := fun _ => True) ?hr ?hp (fun _ hk => hk) trivial (Below.refl _ _) (Nat.le_refl _) (by simp) ?_; (case hd => rfl); (case hg => rfl); (case hr => first | (go_simp; done) | (go_simp; rfl)); (case hp => exact (Reps.c2 (show Kd.M k36 _ _ _ (⟨d0, d1⟩ : S36) [.int .u64 d0, .int .u64 d1] from (k36_mkM _ _ _ (⟨d0, d1⟩ : S36))) (Reps.none _ _))); intro v21 w5 ho hb hg_ hnew_; clear hg_ hnew_; clear c_g3_0 f_g3_0 c_g3_1 f_g3_1 c_g3_2 f_g3_2 c_g3_3 f_g3_3 c_g5_0 f_g5_0 c_g5_1 f_g5_1; replace B_g3 := Aside0.mk (show w5.heap[g3]? = some (.cells #[.int .i64 a0_0, .int .i64 a0_1, .int .i64 a0_2, .slice A0_3 l0_3.length c0_3] 26 (0, 0)) from blk_below B_g3.out hb); replace B_g5 := Aside0.mk (show w5.heap[g5]? = some (.cells #[.int .u64 d0, .int .u64 d1] 36 (0, 0)) from blk_below B_g5.out hb); replace B_g6 := Aside0.mk (show w5.heap[g6]? = some (.cells #[.int .i64 0, .int .i64 0, .int .i64 0, .slice none 0 0] 26 (0, 0)) from blk_below B_g6.out hb); replace HS := Aside0.mk (show Stp w0 w S w5 from stp_below HS.out hb); rw [← HYY.out] at ho; obtain ⟨Al, cl, el⟩ := Kd.R_slice ho; subst el; have HLt := Aside0.mk ho; clear hb ho)
    | (go_at_call 39; (with_reducible refine (tree_proper.calls a0_0 _ _ yy false _ (Kd.R_reads' HLt.out).2.2 (Kd.R_reads' HLt.out).2.1 (GL.below HRG.out (stp_b HS.out)) AO2.out).mono ?_); rintro e w6 ⟨rfl, hb⟩; skip; replace B_g3 := Aside0.mk (show w6.heap[g3]? = some (.cells #[.int .i64 a0_0, .int .i64 a0_1, .int .i64 a0_2, .slice A0_3 l0_3.length c0_3] 26 (0, 0)) from blk_below B_g3.out hb); replace B_g5 := Aside0.mk (show w6.heap[g5]? = some (.cells #[.int .u64 d0, .int .u64 d1] 36 (0, 0)) from blk_below B_g5.out hb); replace B_g6 := Aside0.mk (show w6.heap[g6]? = some (.cells #[.int .i64 0, .int .i64 0, .int .i64 0, .slice none 0 0] 26 (0, 0)) from blk_below B_g6.out hb); replace HS := Aside0.mk (show Stp w0 w S w6 from stp_below HS.out hb); clear hb; have c_g6_0 : w6.cell? ⟨g6, 0, none⟩ = some (.int .i64 0) := (blk_cell B_g6.out 0).trans rfl; have f_g6_0 := blk_frozen B_g6.out 0; have c_g6_1 : w6.cell? ⟨g6, 1, none⟩ = some (.int .i64 0) := (blk_cell B_g6.out 1).trans rfl; have f_g6_1 := blk_frozen B_g6.out 1; have c_g6_2 : w6.cell? ⟨g6, 2, none⟩ = some (.int .i64 0) := (blk_cell B_g6.out 2).trans rfl; have f_g6_2 := blk_frozen B_g6.out 2; have c_g6_3 : w6.cell? ⟨g6, 3, none⟩ = some (.slice none 0 0) := (blk_cell B_g6.out 3).trans rfl; have f_g6_3 := blk_frozen B_g6.out 3)
    | ((with_reducible refine gate_store (t := 26) (p := 6) rfl ?_); refine store_event (t := 26) (p := 6) (v := .tmp 24) (w1 := ((((w6.setCell ⟨g6, 0, none⟩ (.int .i64 0)).setCell ⟨g6, 1, none⟩ (.int .i64 0)).setCell ⟨g6, 2, none⟩ (.int .i64 0)).setCell ⟨g6, 3, none⟩ (.slice none 0 0))) ?hg ?ho ?hn ?hr ?_; (case ho => rfl); (case hg => rfl); (case hn => rfl); (case hr => first | (go_simp; done) | (go_simp; rfl)); intro w7 hw; clear c_g6_0 f_g6_0 c_g6_1 f_g6_1 c_g6_2 f_g6_2 c_g6_3 f_g6_3; replace B_g3 := Aside0.mk (show w7.heap[g3]? = some (.cells #[.int .i64 a0_0, .int .i64 a0_1, .int .i64 a0_2, .slice A0_3 l0_3.length c0_3] 26 (0, 0)) from (by rw [hw]; (repeat (refine blk_far ?_ N_g3_g6.out _)); exact B_g3.out)); replace B_g5 := Aside0.mk (show w7.heap[g5]? = some (.cells #[.int .u64 d0, .int .u64 d1] 36 (0, 0)) from (by rw [hw]; (repeat (refine blk_far ?_ N_g5_g6.out _)); exact B_g5.out)); replace B_g6 := Aside0.mk (show w7.heap[g6]? = some (.cells #[.int .i64 0, .int .i64 0, .int .i64 0, .slice none 0 0] 26 (0, 0)) from (by rw [hw]; exact (blk_put (cs := #[.int .i64 0, .int .i64 0, .int .i64 0, .slice none 0 0]) (blk_put (cs := #[.int .i64 0, .int .i64 0, .int .i64 0, .slice none 0 0]) (blk_put (cs := #[.int .i64 0, .int .i64 0, .int .i64 0, .slice none 0 0]) (blk_put (cs := #[.int .i64 0, .int .i64 0, .int .i64 0, .slice none 0 0]) B_g6.out 0 (.int .i64 0) rfl) 1 (.int .i64 0) rfl) 2 (.int .i64 0) rfl) 3 (.slice none 0 0) rfl))); replace HS := Aside0.mk (show Stp w0 w S w7 from (by rw [hw]; exact (stp_set (stp_set (stp_set (stp_set HS.out G_g6.out 0 (.int .i64 0)) G_g6.out 1 (.int .i64 0)) G_g6.out 2 (.int .i64 0)) G_g6.out 3 (.slice none 0 0)))); clear hw; skip))
  refine bodyPost_ret (results_list (rs := [.cell 6 26, .tmp 7]) rfl (by simp) (.cell g6 26 #[.int .i64 0, .int .i64 0, .int .i64 0, .slice none 0 0] (0, 0) _ rfl B_g6.out Tryd.underlying26 rfl (by kernel_rfl) (.tmp .nil))) rfl ?_
  obtain rfl := HW.out
  exact ⟨rfl, stp_b HS.out⟩
set_option maxHeartbeats 16000000 in
set_option maxRecDepth 100000 in
theorem replace_go (k : Nat) (a0_0 a0_1 a0_2 : Int) (A0_3 : Option Addr) (c0_3 : Nat) (l0_3 : List (List S36)) (a1 d0 d1 : Int) (w : World) (hr0_3 : Kd.C (Kd.slice 36 k36) w A0_3 l0_3.length l0_3) (hc0_3 : l0_3.length ≤ c0_3) (hrG : GL w) (h1 : tree_place.f k a0_0 a0_1 a0_2 l0_3 a1 = some 0) (h2 : tree_proper.f a0_0 [⟨d0, d1⟩] = some true) (hi0 : 0 ≤ a1) (hn0 : 0 < l0_3.length) (hn1 : l0_3.length ≤ 1000) (R : List (List S36)) (h : replL a0_0 none l0_3 a1.toNat ⟨d0, d1⟩ = some R) :
    Calls Tryd.prog 32 #[.agg #[.int .i64 a0_0, .int .i64 a0_1, .int .i64 a0_2, .slice A0_3 l0_3.length c0_3], .int .i64 a1, .agg #[.int .u64 d0, .int .u64 d1]] w fun e w' => ∃ v3_ : Value, e = .returned (.tuple #[.agg #[.int .i64 a0_0, .int .i64 a0_1, .int .i64 a0_2, v3_], .int .i64 0]) ∧ Kd.S (Kd.slice 36 k36) 22 w' w.heap.size (fun _ => True) v3_ R ∧ Below w.heap.size w w' := by
  have hu26 := Tryd.underlying26
  have hu36 := Tryd.underlying36
  have hu24 := Tryd.underlying24
  have hu22 := Tryd.underlying22
  obtain ⟨w0, hw0⟩ : ∃ w0, w0 = w := ⟨_, rfl⟩
  generalize hSS : (fun _ : Nat => False) = S
  have HS : Aside0 (Stp w0 w S w) := ⟨by rw [hw0]; exact Below.refl _ _, Kept.refl _ _⟩
  have HW := Aside0.mk hw0
  have HR3 : Aside0 (Kd.C (Kd.slice 36 k36) w0 A0_3 l0_3.length l0_3) := ⟨by rw [hw0]; exact hr0_3⟩
  have HC3 := Aside0.mk hc0_3
  have HRG : Aside0 (GL w0) := ⟨by rw [hw0]; exact hrG⟩
  clear hSS hw0 hr0_3 hc0_3 hrG
  have AO1 := Aside0.mk h1
  obtain ⟨yy, hyy⟩ : ∃ yy, yy = [(⟨d0, d1⟩ : S36)] := ⟨_, rfl⟩
  have HYY := Aside0.mk hyy
  rw [← hyy] at h2
  have AO2 := Aside0.mk h2
  clear hyy
  have H' := Aside0.mk h
  obtain ⟨H0, hH0, hCH, hrow⟩ := C_hdrs HR3.out
  have HCH := Aside0.mk hCH
  have HROW := Aside0.mk hrow
  have HN : Aside0 (l0_3.length ≤ 1000 ∧ H0.length = l0_3.length ∧ 0 < (hd1 H0).length) := ⟨hn1, hH0, by rw [hd1_len, hH0]; exact hn0⟩
  have HI0 := Aside0.mk hi0
  clear h1 h2 h hi0 hn0 hn1 hH0 hCH hrow
  go_enter Tryd.func32, Tryd.ntmps32
  go_wp2_with (first
    | ((with_reducible refine gate_dst (N := 3) rfl ?_); refine box_event ?hg (N := 3) ?hd (cs := #[.int .i64 a0_0, .int .i64 a0_1, .int .i64 a0_2, .slice A0_3 l0_3.length c0_3]) (t := 26) ?hr ?_; (case hd => rfl); (case hg => rfl); (case hr => first | (go_simp; done) | (go_simp; rfl)); intro g3 xg w1 y_ hb; skip; have G_g3 := Aside0.mk (stp_new HS.out xg); replace HS := Aside0.mk (show Stp w0 w S w1 from stp_below HS.out hb); have B_g3 := Aside0.mk y_; clear xg y_ hb; skip)
    | ((with_reducible refine gate_dst (N := 5) rfl ?_); refine box_event ?hg (N := 5) ?hd (cs := #[.int .u64 d0, .int .u64 d1]) (t := 36) ?hr ?_; (case hd => rfl); (case hg => rfl); (case hr => first | (go_simp; done) | (go_simp; rfl)); intro g5 xg w2 y_ hb; skip; have N_g3_g5 := Aside0.mk (new_ne B_g3.out xg); have N_g5_g3 := Aside0.mk N_g3_g5.out.symm; have G_g5 := Aside0.mk (stp_new HS.out xg); replace B_g3 := Aside0.mk (show w2.heap[g3]? = some (.cells #[.int .i64 a0_0, .int .i64 a0_1, .int .i64 a0_2, .slice A0_3 l0_3.length c0_3] 26 (0, 0)) from blk_below B_g3.out hb); replace HS := Aside0.mk (show Stp w0 w S w2 from stp_below HS.out hb); have B_g5 := Aside0.mk y_; clear xg y_ hb; skip)
    | ((with_reducible refine gate_dst (N := 6) rfl ?_); refine box_event ?hg (N := 6) ?hd (cs := #[.int .i64 0, .int .i64 0, .int .i64 0, .slice none 0 0]) (t := 26) ?hr ?_; (case hd => rfl); (case hg => rfl); (case hr => first | (go_simp; done) | (go_simp; rfl)); intro g6 xg w3 y_ hb; skip; have N_g3_g6 := Aside0.mk (new_ne B_g3.out xg); have N_g6_g3 := Aside0.mk N_g3_g6.out.symm; have N_g5_g6 := Aside0.mk (new_ne B_g5.out xg); have N_g6_g5 := Aside0.mk N_g5_g6.out.symm; have G_g6 := Aside0.mk (stp_new HS.out xg); replace B_g3 := Aside0.mk (show w3.heap[g3]? = some (.cells #[.int .i64 a0_0, .int .i64 a0_1, .int .i64 a0_2, .slice A0_3 l0_3.length c0_3] 26 (0, 0)) from blk_below B_g3.out hb); replace B_g5 := Aside0.mk (show w3.heap[g5]? = some (.cells #[.int .u64 d0, .int .u64 d1] 36 (0, 0)) from blk_below B_g5.out hb); replace HS := Aside0.mk (show Stp w0 w S w3 from stp_below HS.out hb); have B_g6 := Aside0.mk y_; clear xg y_ hb; have c_g3_0 : w3.cell? ⟨g3, 0, none⟩ = some (.int .i64 a0_0) := (blk_cell B_g3.out 0).trans rfl; have f_g3_0 := blk_frozen B_g3.out 0; have c_g3_1 : w3.cell? ⟨g3, 1, none⟩ = some (.int .i64 a0_1) := (blk_cell B_g3.out 1).trans rfl; have f_g3_1 := blk_frozen B_g3.out 1; have c_g3_2 : w3.cell? ⟨g3, 2, none⟩ = some (.int .i64 a0_2) := (blk_cell B_g3.out 2).trans rfl; have f_g3_2 := blk_frozen B_g3.out 2; have c_g3_3 : w3.cell? ⟨g3, 3, none⟩ = some (.slice A0_3 l0_3.length c0_3) := (blk_cell B_g3.out 3).trans rfl; have f_g3_3 := blk_frozen B_g3.out 3)
    | (go_at_call 46; (with_reducible refine (tree_place.calls k a0_0 a0_1 a0_2 _ _ l0_3 a1 0 _ (Kd.C_below HR3.out (stp_b HS.out)) HC3.out (GL.below HRG.out (stp_b HS.out)) AO1.out).mono ?_); rintro e w4 ⟨rfl, hb⟩; clear c_g3_0 f_g3_0 c_g3_1 f_g3_1 c_g3_2 f_g3_2 c_g3_3 f_g3_3; replace B_g3 := Aside0.mk (show w4.heap[g3]? = some (.cells #[.int .i64 a0_0, .int .i64 a0_1, .int .i64 a0_2, .slice A0_3 l0_3.length c0_3] 26 (0, 0)) from blk_below B_g3.out hb); replace B_g5 := Aside0.mk (show w4.heap[g5]? = some (.cells #[.int .u64 d0, .int .u64 d1] 36 (0, 0)) from blk_below B_g5.out hb); replace B_g6 := Aside0.mk (show w4.heap[g6]? = some (.cells #[.int .i64 0, .int .i64 0, .int .i64 0, .slice none 0 0] 26 (0, 0)) from blk_below B_g6.out hb); replace HS := Aside0.mk (show Stp w0 w S w4 from stp_below HS.out hb); clear hb; have c_g3_0 : w4.cell? ⟨g3, 0, none⟩ = some (.int .i64 a0_0) := (blk_cell B_g3.out 0).trans rfl; have f_g3_0 := blk_frozen B_g3.out 0; have c_g3_1 : w4.cell? ⟨g3, 1, none⟩ = some (.int .i64 a0_1) := (blk_cell B_g3.out 1).trans rfl; have f_g3_1 := blk_frozen B_g3.out 1; have c_g3_2 : w4.cell? ⟨g3, 2, none⟩ = some (.int .i64 a0_2) := (blk_cell B_g3.out 2).trans rfl; have f_g3_2 := blk_frozen B_g3.out 2; have c_g3_3 : w4.cell? ⟨g3, 3, none⟩ = some (.slice A0_3 l0_3.length c0_3) := (blk_cell B_g3.out 3).trans rfl; have f_g3_3 := blk_frozen B_g3.out 3; have c_g5_0 : w4.cell? ⟨g5, 0, none⟩ = some (.int .u64 d0) := (blk_cell B_g5.out 0).trans rfl; have f_g5_0 := blk_frozen B_g5.out 0; have c_g5_1 : w4.cell? ⟨g5, 1, none⟩ = some (.int .u64 d1) := (blk_cell B_g5.out 1).trans rfl; have f_g5_1 := blk_frozen B_g5.out 1)
    | ((with_reducible refine gate_dst (N := 21) rfl ?_); refine Kd.R_lit k36 _ 36 ?hg (N := 21) ?hd (xs := [(⟨d0, d1⟩ : S36)]) (inner := [.int .u64 d0, .int .u64 d1]) (ok := fun _ => True) (okp := fun _ => True) ?hr ?hp (fun _ hk => hk) trivial (Below.refl _ _) (Nat.le_refl _) (by simp) ?_; (case hd => rfl); (case hg => rfl); (case hr => first | (go_simp; done) | (go_simp; rfl)); (case hp => exact (Reps.c2 (show Kd.M k36 _ _ _ (⟨d0, d1⟩ : S36) [.int .u64 d0, .int .u64 d1] from (k36_mkM _ _ _ (⟨d0, d1⟩ : S36))) (Reps.none _ _))); intro v21 w5 ho hb hg_ hnew_; clear hg_ hnew_; clear c_g3_0 f_g3_0 c_g3_1 f_g3_1 c_g3_2 f_g3_2 c_g3_3 f_g3_3 c_g5_0 f_g5_0 c_g5_1 f_g5_1; replace B_g3 := Aside0.mk (show w5.heap[g3]? = some (.cells #[.int .i64 a0_0, .int .i64 a0_1, .int .i64 a0_2, .slice A0_3 l0_3.length c0_3] 26 (0, 0)) from blk_below B_g3.out hb); replace B_g5 := Aside0.mk (show w5.heap[g5]? = some (.cells #[.int .u64 d0, .int .u64 d1] 36 (0, 0)) from blk_below B_g5.out hb); replace B_g6 := Aside0.mk (show w5.heap[g6]? = some (.cells #[.int .i64 0, .int .i64 0, .int .i64 0, .slice none 0 0] 26 (0, 0)) from blk_below B_g6.out hb); replace HS := Aside0.mk (show Stp w0 w S w5 from stp_below HS.out hb); rw [← HYY.out] at ho; obtain ⟨Al, cl, el⟩ := Kd.R_slice ho; subst el; have HLt := Aside0.mk ho; clear hb ho)
    | (go_at_call 39; (with_reducible refine (tree_proper.calls a0_0 _ _ yy true _ (Kd.R_reads' HLt.out).2.2 (Kd.R_reads' HLt.out).2.1 (GL.below HRG.out (stp_b HS.out)) AO2.out).mono ?_); rintro e w6 ⟨rfl, hb⟩; skip; replace B_g3 := Aside0.mk (show w6.heap[g3]? = some (.cells #[.int .i64 a0_0, .int .i64 a0_1, .int .i64 a0_2, .slice A0_3 l0_3.length c0_3] 26 (0, 0)) from blk_below B_g3.out hb); replace B_g5 := Aside0.mk (show w6.heap[g5]? = some (.cells #[.int .u64 d0, .int .u64 d1] 36 (0, 0)) from blk_below B_g5.out hb); replace B_g6 := Aside0.mk (show w6.heap[g6]? = some (.cells #[.int .i64 0, .int .i64 0, .int .i64 0, .slice none 0 0] 26 (0, 0)) from blk_below B_g6.out hb); replace HS := Aside0.mk (show Stp w0 w S w6 from stp_below HS.out hb); clear hb; have c_g3_0 : w6.cell? ⟨g3, 0, none⟩ = some (.int .i64 a0_0) := (blk_cell B_g3.out 0).trans rfl; have f_g3_0 := blk_frozen B_g3.out 0; have c_g3_1 : w6.cell? ⟨g3, 1, none⟩ = some (.int .i64 a0_1) := (blk_cell B_g3.out 1).trans rfl; have f_g3_1 := blk_frozen B_g3.out 1; have c_g3_2 : w6.cell? ⟨g3, 2, none⟩ = some (.int .i64 a0_2) := (blk_cell B_g3.out 2).trans rfl; have f_g3_2 := blk_frozen B_g3.out 2; have c_g3_3 : w6.cell? ⟨g3, 3, none⟩ = some (.slice A0_3 l0_3.length c0_3) := (blk_cell B_g3.out 3).trans rfl; have f_g3_3 := blk_frozen B_g3.out 3)
    | (go_at_call 53; (with_reducible refine (rowsC A0_3 c0_3 l0_3.length H0 HN.out.2.1 _ (Kd.C_below HCH.out (stp_b HS.out)) HC3.out HN.out.1).mono ?_); rintro e w7 ⟨v27, rfl, ho, hb⟩; have HOUT := Aside0.mk ho; clear c_g3_0 f_g3_0 c_g3_1 f_g3_1 c_g3_2 f_g3_2 c_g3_3 f_g3_3; have HB0 := Aside0.mk (⟨(stp_b HS.out).size, blk_lt B_g3.out, blk_lt B_g5.out, blk_lt B_g6.out⟩ : w0.heap.size ≤ w6.heap.size ∧ g3 < w6.heap.size ∧ g5 < w6.heap.size ∧ g6 < w6.heap.size); replace B_g3 := Aside0.mk (show w7.heap[g3]? = some (.cells #[.int .i64 a0_0, .int .i64 a0_1, .int .i64 a0_2, .slice A0_3 l0_3.length c0_3] 26 (0, 0)) from blk_below B_g3.out hb); replace B_g5 := Aside0.mk (show w7.heap[g5]? = some (.cells #[.int .u64 d0, .int .u64 d1] 36 (0, 0)) from blk_below B_g5.out hb); replace B_g6 := Aside0.mk (show w7.heap[g6]? = some (.cells #[.int .i64 0, .int .i64 0, .int .i64 0, .slice none 0 0] 26 (0, 0)) from blk_below B_g6.out hb); replace HS := Aside0.mk (show Stp w0 w S w7 from stp_below HS.out hb); clear ho hb; obtain ⟨gO, cO, eO, _, _, _, _⟩ := Kd.R_form HOUT.out HN.out.2.2; rw [hd1_len, HN.out.2.1] at eO; subst eO; have c_g3_0 : w7.cell? ⟨g3, 0, none⟩ = some (.int .i64 a0_0) := (blk_cell B_g3.out 0).trans rfl; have f_g3_0 := blk_frozen B_g3.out 0; have c_g3_1 : w7.cell? ⟨g3, 1, none⟩ = some (.int .i64 a0_1) := (blk_cell B_g3.out 1).trans rfl; have f_g3_1 := blk_frozen B_g3.out 1; have c_g3_2 : w7.cell? ⟨g3, 2, none⟩ = some (.int .i64 a0_2) := (blk_cell B_g3.out 2).trans rfl; have f_g3_2 := blk_frozen B_g3.out 2; have c_g3_3 : w7.cell? ⟨g3, 3, none⟩ = some (.slice A0_3 l0_3.length c0_3) := (blk_cell B_g3.out 3).trans rfl; have f_g3_3 := blk_frozen B_g3.out 3)
    | ((with_reducible refine gate_store (t := 24) (p := 28) rfl ?_); refine store_event (t := 24) (p := 28) (v := .tmp 27) (w1 := (w7.setCell ⟨g3, 3, none⟩ (.slice (some ⟨gO, 0, none⟩) l0_3.length cO))) ?hg ?ho ?hn ?hr ?_; (case ho => rfl); (case hg => rfl); (case hn => rfl); (case hr => first | (go_simp; done) | (go_simp; rfl)); intro w8 hw; clear c_g3_0 f_g3_0 c_g3_1 f_g3_1 c_g3_2 f_g3_2 c_g3_3 f_g3_3; replace B_g3 := Aside0.mk (show w8.heap[g3]? = some (.cells #[.int .i64 a0_0, .int .i64 a0_1, .int .i64 a0_2, .slice (some ⟨gO, 0, none⟩) l0_3.length cO] 26 (0, 0)) from (by rw [hw]; exact (blk_put (cs := #[.int .i64 a0_0, .int .i64 a0_1, .int .i64 a0_2, .slice A0_3 l0_3.length c0_3]) B_g3.out 3 (.slice (some ⟨gO, 0, none⟩) l0_3.length cO) rfl))); replace B_g5 := Aside0.mk (show w8.heap[g5]? = some (.cells #[.int .u64 d0, .int .u64 d1] 36 (0, 0)) from (by rw [hw]; exact blk_far B_g5.out N_g5_g3.out _)); replace B_g6 := Aside0.mk (show w8.heap[g6]? = some (.cells #[.int .i64 0, .int .i64 0, .int .i64 0, .slice none 0 0] 26 (0, 0)) from (by rw [hw]; exact blk_far B_g6.out N_g6_g3.out _)); replace HS := Aside0.mk (show Stp w0 w S w8 from (by rw [hw]; exact stp_set HS.out G_g3.out 3 (.slice (some ⟨gO, 0, none⟩) l0_3.length cO))); replace HOUT := Aside0.mk (show Kd.R (Kd.raw 1) 22 w8 w6.heap.size (fun _ => True) (.slice (some ⟨gO, 0, none⟩) l0_3.length cO) (hd1 H0) from (by rw [hw]; exact R_low HOUT.out HB0.out.2.1 _ _)); clear hw; have c_g3_0 : w8.cell? ⟨g3, 0, none⟩ = some (.int .i64 a0_0) := (blk_cell B_g3.out 0).trans rfl; have f_g3_0 := blk_frozen B_g3.out 0; have c_g3_1 : w8.cell? ⟨g3, 1, none⟩ = some (.int .i64 a0_1) := (blk_cell B_g3.out 1).trans rfl; have f_g3_1 := blk_frozen B_g3.out 1; have c_g3_2 : w8.cell? ⟨g3, 2, none⟩ = some (.int .i64 a0_2) := (blk_cell B_g3.out 2).trans rfl; have f_g3_2 := blk_frozen B_g3.out 2; have c_g3_3 : w8.cell? ⟨g3, 3, none⟩ = some (.slice (some ⟨gO, 0, none⟩) l0_3.length cO) := (blk_cell B_g3.out 3).trans rfl; have f_g3_3 := blk_frozen B_g3.out 3))
  have HRW0 : Aside0 (RwI w6.heap.size H0 [] w8) := ⟨⟨fun j l hl => by simp at hl, fun j j' u u' k hj => by simp at hj⟩⟩
  have HNO : Aside0 (w6.heap.size ≤ gO ∧ g3 ≠ gO ∧ g5 ≠ gO ∧ g6 ≠ gO ∧ (w0.heap.size ≤ gO ∧ (S gO ∨ w.heap.size ≤ gO))) := ⟨by
    have h1 := Kd.R_base HOUT.out gO rfl
    have h2 := HB0.out
    have h3 : w.heap.size = w0.heap.size := by rw [HW.out]
    exact ⟨h1, by omega, by omega, by omega, by omega, Or.inr (by omega)⟩⟩
  go_loopg [1, 9, 10, 32] (l0_3.length + 1) (fun kq v1 v9 v10 v32 w' => ∃ (j i : Nat) (H : List Value) (pre : List (List S36)) (d : S36) (r : List (List S36)), v1 = .int .i64 (i : Int) ∧ v32 = .int .i64 (j : Int) ∧ Aside0 (replL a0_0 pre.getLast? (l0_3.drop j) i d = some r) ∧ Aside0 (pre.length = j ∧ R = pre ++ r) ∧ Aside0 (kq + j = l0_3.length + 1 ∧ j ≤ l0_3.length) ∧ Aside0 (w'.heap[g3]? = some (.cells #[.int .i64 a0_0, .int .i64 a0_1, .int .i64 a0_2, .slice (some ⟨gO, 0, none⟩) l0_3.length cO] 26 (0, 0))) ∧ Aside0 (w'.heap[g5]? = some (.cells #[.int .u64 d.f0, .int .u64 d.f1] 36 (0, 0))) ∧ Aside0 (w'.heap[g6]? = some (.cells #[.int .i64 0, .int .i64 0, .int .i64 0, .slice none 0 0] 26 (0, 0))) ∧ Aside0 (Kd.R (Kd.raw 1) 22 w' w6.heap.size (fun _ => True) (.slice (some ⟨gO, 0, none⟩) l0_3.length cO) (hd1 H)) ∧ Aside0 (H.length = l0_3.length ∧ ∀ j', j ≤ j' → H[j']? = H0[j']?) ∧ Aside0 (RwI w6.heap.size H pre w') ∧ Aside0 (Stp w0 w S w'))
  case atStart => exact ⟨0, a1.toNat, H0, [], ⟨d0, d1⟩, R, by rw [Int.toNat_of_nonneg HI0.out], rfl, H', ⟨⟨rfl, rfl⟩⟩, ⟨⟨rfl, Nat.zero_le _⟩⟩, B_g3, B_g5, B_g6, HOUT, ⟨⟨HN.out.2.1, fun _ _ => rfl⟩⟩, HRW0, HS⟩
  case round =>
    clear H' HS AO1 AO2 HOUT HRW0 B_g3 B_g5 B_g6
    obtain ⟨j, i, H, pre, d, r, rfl, rfl, HA, HP, HK, B_g3, B_g5, B_g6, HOUT, HH, RWS, HS⟩ := hrel
    by_cases c3 : j < l0_3.length
    · obtain ⟨k1, rfl⟩ : ∃ k1, gk = k1 + 1 := ⟨gk - 1, by have := HK.out.1; omega⟩
      obtain ⟨row, hrj⟩ : ∃ row, l0_3[j]? = some row := ⟨_, List.getElem?_eq_getElem c3⟩
      have hdr : l0_3.drop j = row :: l0_3.drop (j + 1) := by
        rw [List.drop_eq_getElem_cons c3]
        rw [List.getElem?_eq_getElem c3] at hrj
        rw [Option.some.inj hrj]
      have hr0 := HA.out
      clear HA
      rw [hdr] at hr0
      simp only [replL] at hr0
      obtain ⟨x, hx, hr0⟩ := Option.bind_eq_some_iff.mp hr0
      by_cases hq : i < row.length ∧ row.length ≤ 1048576
      · rw [if_pos hq] at hr0
        obtain ⟨r2, hr2, hr0⟩ := Option.bind_eq_some_iff.mp hr0
        obtain rfl := Option.some.inj hr0
        have HX := Aside0.mk hx
        have H' := Aside0.mk hr2
        obtain ⟨A1, c1, hH0j, hc1, hC1⟩ := HROW.out j row hrj
        have hHj : H[j]? = some (.slice A1 row.length c1) := (HH.out.2 j (Nat.le_refl _)).trans hH0j
        have HHJ := Aside0.mk hHj
        have HC1 := Aside0.mk hC1
        have HCL := Aside0.mk hc1
        have HQ := Aside0.mk hq
        have c_o := hd_cell HOUT.out j _ hHj
        have HJ := Aside0.mk c3
        have c3b : decide (j < l0_3.length) = true := decide_eq_true c3
        have p2 : (0 ≤ (j : Int)) = True := eq_true (by omega)
        have q2 : ((j : Int) < (l0_3.length : Int)) = True := eq_true (by omega)
        have q2n : (j < l0_3.length) = True := eq_true c3
        have hadd : wrap64 ((j : Int) + 1) = ((j + 1 : Nat) : Int) := by have := HN.out.1; unfold wrap64; omega
        clear hr0 hx hr2 hH0j hc1 hC1 hHj hdr hrj hq c3
        go_upto_region 10 with (fail)
        refine start_ (n := 11) (S := fun w' => w'.cell? ⟨g3, 3, none⟩ = some (.slice (some ⟨gO, 0, none⟩) l0_3.length cO) ∧ w'.cell? ⟨gO, j, none⟩ = some (.slice A1 row.length c1)) (ds := [10]) #[false, false, false, false, false, false, false, false, false, false, false] (by kernel_rfl) rfl rfl ⟨(blk_cell B_g3.out 3).trans rfl, c_o⟩ (fun hHeld => ?_)
        replace B_g3 := Aside0.mk (show wr.drew.heap[g3]? = some (.cells #[.int .i64 a0_0, .int .i64 a0_1, .int .i64 a0_2, .slice (some ⟨gO, 0, none⟩) l0_3.length cO] 26 (0, 0)) from B_g3.out)
        replace B_g5 := Aside0.mk (show wr.drew.heap[g5]? = some (.cells #[.int .u64 d.f0, .int .u64 d.f1] 36 (0, 0)) from B_g5.out)
        replace B_g6 := Aside0.mk (show wr.drew.heap[g6]? = some (.cells #[.int .i64 0, .int .i64 0, .int .i64 0, .slice none 0 0] 26 (0, 0)) from B_g6.out)
        replace HOUT := Aside0.mk (show Kd.R (Kd.raw 1) 22 wr.drew w6.heap.size (fun _ => True) (.slice (some ⟨gO, 0, none⟩) l0_3.length cO) (hd1 H) from Kd.R_drew HOUT.out)
        replace RWS := Aside0.mk (show RwI w6.heap.size H (pre) wr.drew from RWS.out.below (Below.refl _ _).drew)
        replace HS := Aside0.mk (show Stp w0 w S wr.drew from stp_drew HS.out)
        generalize wr.drew = w7 at B_g3 B_g5 B_g6 HOUT RWS HS hHeld ⊢
        clear c_o
        refine pure_ (i := 0) (N := some 35) (v := ?_) (a' := ?_) #[true, false, false, false, false, false, false, false, false, false, false] rfl rfl (by kernel_rfl) (fun _ _ _ h => h) (Or.inl ⟨by rfl, ?_⟩) ?_ ?_
        rotate_left
        · intro w'
          go_simp
          with_reducible rfl
        rotate_left
        · simp only [Act.put, List.setIfInBounds_toArray, List.set_cons_zero, List.set_cons_succ, i64_w, i32_w]
          rfl
        refine take_ (i := 1) (N := some 36) (v := ?_) (a' := ?_) #[true, true, false, false, false, false, false, false, false, false, false] rfl rfl (by kernel_rfl) (fun _ _ _ h => h) (Or.inl ⟨by rfl, ?_⟩) hHeld ?_ ?_
        rotate_left
        · rintro w' ⟨s0, s1⟩
          go_simp
          with_reducible rfl
        rotate_left
        · simp only [Act.put, List.setIfInBounds_toArray, List.set_cons_zero, List.set_cons_succ, i64_w, i32_w]
          rfl
        refine pure_ (i := 2) (N := some 37) (v := ?_) (a' := ?_) #[true, true, true, false, false, false, false, false, false, false, false] rfl rfl (by kernel_rfl) (fun _ _ _ h => h) (Or.inl ⟨by rfl, ?_⟩) ?_ ?_
        rotate_left
        · intro w'
          go_simp
          with_reducible rfl
        rotate_left
        · simp only [Act.put, List.setIfInBounds_toArray, List.set_cons_zero, List.set_cons_succ, i64_w, i32_w]
          rfl
        refine pure_ (i := 3) (N := some 38) (v := ?_) (a' := ?_) #[true, true, true, true, false, false, false, false, false, false, false] rfl rfl (by kernel_rfl) (fun _ _ _ h => h) (Or.inl ⟨by rfl, ?_⟩) ?_ ?_
        rotate_left
        · intro w'
          go_simp
          with_reducible rfl
        rotate_left
        · simp only [Act.put, List.setIfInBounds_toArray, List.set_cons_zero, List.set_cons_succ, i64_w, i32_w]
          rfl
        refine take_ (i := 4) (N := some 39) (v := ?_) (a' := ?_) #[true, true, true, true, true, false, false, false, false, false, false] rfl rfl (by kernel_rfl) (fun _ _ _ h => h) (Or.inl ⟨by rfl, ?_⟩) hHeld ?_ ?_
        rotate_left
        · rintro w' ⟨s0, s1⟩
          go_simp
          with_reducible rfl
        rotate_left
        · simp only [Act.put, List.setIfInBounds_toArray, List.set_cons_zero, List.set_cons_succ, i64_w, i32_w]
          rfl
        refine pure_ (i := 5) (N := some 40) (v := ?_) (a' := ?_) #[true, true, true, true, true, true, false, false, false, false, false] rfl rfl (by kernel_rfl) (fun _ _ _ h => h) (Or.inl ⟨by rfl, ?_⟩) ?_ ?_
        rotate_left
        · intro w'
          go_simp
          with_reducible rfl
        rotate_left
        · simp only [Act.put, List.setIfInBounds_toArray, List.set_cons_zero, List.set_cons_succ, i64_w, i32_w]
          rfl
        refine pure_ (i := 6) (N := some 41) (v := ?_) (a' := ?_) #[true, true, true, true, true, true, true, false, false, false, false] rfl rfl (by kernel_rfl) (fun _ _ _ h => h) (Or.inl ⟨by rfl, ?_⟩) ?_ ?_
        rotate_left
        · intro w'
          go_simp
          with_reducible rfl
        rotate_left
        · simp only [Act.put, List.setIfInBounds_toArray, List.set_cons_zero, List.set_cons_succ, i64_w, i32_w]
          rfl
        refine take_ (i := 7) (N := some 42) (v := ?_) (a' := ?_) #[true, true, true, true, true, true, true, true, false, false, false] rfl rfl (by kernel_rfl) (fun _ _ _ h => h) (Or.inl ⟨by rfl, ?_⟩) hHeld ?_ ?_
        rotate_left
        · rintro w' ⟨s0, s1⟩
          go_simp
          with_reducible rfl
        rotate_left
        · simp only [Act.put, List.setIfInBounds_toArray, List.set_cons_zero, List.set_cons_succ, i64_w, i32_w]
          rfl
        refine one_ (i := 8) (N := some 43) #[true, true, true, true, true, true, true, true, true, false, false] rfl rfl (by kernel_rfl) (by decide) (fun K hK => ?_)
        refine goes_ Tryd.func45 (by kernel_rfl) rfl #[.slice A1 row.length c1] (by rfl) rfl rfl (by (try simp only [List.map_toArray, List.map_cons, List.map_nil]); first | done | rfl | (go_simp; done)) ?_
        with_reducible refine (slices_Clone.calls A1 c1 row row _ (Kd.C_below HC1.out (stp_b HS.out)) HCL.out (clone_f row HQ.out.2)).mono ?_
        rintro e w8_ ⟨v0, rfl, ho, hb⟩
        refine ⟨_, rfl, ?_⟩
        have HBW := Aside0.mk (Nat.le_trans HNO.out.1 (Nat.le_of_lt (Kd.R_lt HOUT.out gO rfl)))
        have HOLD := Aside0.mk (fun j' v k h1 h2 h3 => (RwI.old RWS.out j' v k h1 h2 h3).2)
        replace B_g3 := Aside0.mk (show w8_.heap[g3]? = some (.cells #[.int .i64 a0_0, .int .i64 a0_1, .int .i64 a0_2, .slice (some ⟨gO, 0, none⟩) l0_3.length cO] 26 (0, 0)) from blk_below B_g3.out hb)
        replace B_g5 := Aside0.mk (show w8_.heap[g5]? = some (.cells #[.int .u64 d.f0, .int .u64 d.f1] 36 (0, 0)) from blk_below B_g5.out hb)
        replace B_g6 := Aside0.mk (show w8_.heap[g6]? = some (.cells #[.int .i64 0, .int .i64 0, .int .i64 0, .slice none 0 0] 26 (0, 0)) from blk_below B_g6.out hb)
        replace HOUT := Aside0.mk (show Kd.R (Kd.raw 1) 22 w8_ w6.heap.size (fun _ => True) (.slice (some ⟨gO, 0, none⟩) l0_3.length cO) (hd1 H) from Kd.R_below HOUT.out hb)
        replace RWS := Aside0.mk (show RwI w6.heap.size H (pre) w8_ from RWS.out.below hb)
        replace HS := Aside0.mk (show Stp w0 w S w8_ from stp_below HS.out hb)
        obtain ⟨gN, cN, eN, hgb, hgl, cellsN, hcN⟩ := Kd.R_form ho (by have := HQ.out.1; omega)
        subst eN
        have HNR := Aside0.mk ho
        clear ho hgb hgl hcN
        refine hK.out _ _ ⟨pw_cell_below hb hHeld.1, pw_cell_below hb hHeld.2⟩ (fun hHeld => ?_)
        clear hK K hb
        refine norm_ (a' := ?_) ?_ ?_
        rotate_left
        · show Act.put _ (some 43) _ = _
          simp only [Act.put, List.setIfInBounds_toArray, List.set_cons_zero, List.set_cons_succ, i64_w, i32_w]
          rfl
        refine pure_ (i := 9) (N := some 44) (v := ?_) (a' := ?_) #[true, true, true, true, true, true, true, true, true, true, false] rfl rfl (by kernel_rfl) (fun _ _ _ h => h) (Or.inl ⟨by rfl, ?_⟩) ?_ ?_
        rotate_left
        · intro w'
          go_simp
          with_reducible rfl
        rotate_left
        · simp only [Act.put, List.setIfInBounds_toArray, List.set_cons_zero, List.set_cons_succ, i64_w, i32_w]
          rfl
        refine last_ (i := 10) (N := none) #[true, true, true, true, true, true, true, true, true, true, true] rfl rfl (by kernel_rfl) (by decide) (fun K hK => ?_)
        have hz0 := hHeld.2
        obtain ⟨cellsO, hcO⟩ := Kd.R_typed HOUT.out gO rfl
        have hf0 := blk_frozen hcO j
        refine skip_ (w1 := ?_) (by rfl) rfl ?_ ?_
        rotate_left
        · go_simp
          rfl
        have HS1 := Aside0.mk (show RwI w6.heap.size (H.set j (.slice (some ⟨gN, 0, none⟩) row.length cN)) (pre ++ [row]) w8_ from (by have e_ := RwI.snoc RWS.out HNR.out HBW.out HOLD.out (by have := HP.out.1; have := HH.out.1; have := HJ.out; omega); rw [HP.out.1] at e_; exact e_))
        have HGN := Aside0.mk (Nat.le_trans HBW.out (Kd.R_base HNR.out gN rfl))
        replace B_g3 := Aside0.mk (show (w8_.setCell ⟨gO, j, none⟩ (.slice (some ⟨gN, 0, none⟩) row.length cN)).heap[g3]? = some (.cells #[.int .i64 a0_0, .int .i64 a0_1, .int .i64 a0_2, .slice (some ⟨gO, 0, none⟩) l0_3.length cO] 26 (0, 0)) from blk_far B_g3.out HNO.out.2.1 _)
        replace B_g5 := Aside0.mk (show (w8_.setCell ⟨gO, j, none⟩ (.slice (some ⟨gN, 0, none⟩) row.length cN)).heap[g5]? = some (.cells #[.int .u64 d.f0, .int .u64 d.f1] 36 (0, 0)) from blk_far B_g5.out HNO.out.2.2.1 _)
        replace B_g6 := Aside0.mk (show (w8_.setCell ⟨gO, j, none⟩ (.slice (some ⟨gN, 0, none⟩) row.length cN)).heap[g6]? = some (.cells #[.int .i64 0, .int .i64 0, .int .i64 0, .slice none 0 0] 26 (0, 0)) from blk_far B_g6.out HNO.out.2.2.2.1 _)
        replace HOUT := Aside0.mk (show Kd.R (Kd.raw 1) 22 (w8_.setCell ⟨gO, j, none⟩ (.slice (some ⟨gN, 0, none⟩) row.length cN)) w6.heap.size (fun _ => True) (.slice (some ⟨gO, 0, none⟩) l0_3.length cO) (hd1 (H.set j (.slice (some ⟨gN, 0, none⟩) row.length cN))) from hd_put HOUT.out j HJ.out _ rfl)
        replace RWS := Aside0.mk (show RwI w6.heap.size (H.set j (.slice (some ⟨gN, 0, none⟩) row.length cN)) ((pre ++ [row])) (w8_.setCell ⟨gO, j, none⟩ (.slice (some ⟨gN, 0, none⟩) row.length cN)) from HS1.out.setOther hcO (by decide) j _)
        replace HS := Aside0.mk (show Stp w0 w S (w8_.setCell ⟨gO, j, none⟩ (.slice (some ⟨gN, 0, none⟩) row.length cN)) from stp_set HS.out HNO.out.2.2.2.2 j _)
        refine hK.out _ _ ?_
        clear hK K hz0 hf0 hcO hHeld HS1 HOLD
        generalize (w8_.setCell ⟨gO, j, none⟩ (.slice (some ⟨gN, 0, none⟩) row.length cN)) = w9 at B_g3 B_g5 B_g6 HOUT RWS HS ⊢
        refine done_ (by kernel_rfl) ?_
        have HHN := Aside0.mk (show (H.set j (.slice (some ⟨gN, 0, none⟩) row.length cN))[j]? = some (.slice (some ⟨gN, 0, none⟩) row.length cN) from (by rw [List.getElem?_set_self (by have := HH.out.1; have := HJ.out; omega)]))
        have HH1 := Aside0.mk (show (H.set j (.slice (some ⟨gN, 0, none⟩) row.length cN)).length = l0_3.length ∧ ∀ j', j + 1 ≤ j' → (H.set j (.slice (some ⟨gN, 0, none⟩) row.length cN))[j']? = H0[j']? from ⟨by rw [List.length_set]; exact HH.out.1, fun j' h => by rw [List.getElem?_set, if_neg (by omega)]; exact HH.out.2 j' (by omega)⟩)
        generalize H.set j (.slice (some ⟨gN, 0, none⟩) row.length cN) = H1 at HOUT RWS HHN HH1
        clear HH HHJ HC1 HCL HNR
        have pi_ : (0 ≤ (i : Int)) = True := eq_true (by omega)
        have qi_ : ((i : Int) < (row.length : Int)) = True := eq_true (by have := HQ.out.1; omega)
        have qin_ : (i < row.length) = True := eq_true HQ.out.1
        rcases Nat.eq_zero_or_pos j with hj0 | hj0
        · have hg1 : decide (0 < j) = false := decide_eq_false (by omega)
          have hg2 : decide (0 < (j : Int)) = false := decide_eq_false (by omega)
          have hg3 : (0 < j) = False := eq_false (by omega)
          have hxd : x = d := by
            have h_ := HX.out
            rw [List.eq_nil_of_length_eq_zero (HP.out.1.trans hj0)] at h_
            exact (Option.some.inj h_).symm
          replace B_g5 := Aside0.mk (show w9.heap[g5]? = some (.cells #[.int .u64 x.f0, .int .u64 x.f1] 36 (0, 0)) from by rw [hxd]; exact B_g5.out)
          clear hxd hj0
          go_upto_region 14 with (fail)
          refine start_ (n := 9) (S := fun w' => w'.cell? ⟨g3, 3, none⟩ = some (.slice (some ⟨gO, 0, none⟩) l0_3.length cO) ∧ w'.cell? ⟨gO, j, none⟩ = some (.slice (some ⟨gN, 0, none⟩) row.length cN) ∧ w'.cell? ⟨g5, 0, none⟩ = some (.int .u64 x.f0) ∧ w'.cell? ⟨g5, 1, none⟩ = some (.int .u64 x.f1)) (ds := [8]) #[false, false, false, false, false, false, false, false, false] (by kernel_rfl) rfl rfl ⟨(blk_cell B_g3.out 3).trans rfl, hd_cell HOUT.out j _ HHN.out, (blk_cell B_g5.out 0).trans rfl, (blk_cell B_g5.out 1).trans rfl⟩ (fun hHeld => ?_)
          replace B_g3 := Aside0.mk (show w9.drew.heap[g3]? = some (.cells #[.int .i64 a0_0, .int .i64 a0_1, .int .i64 a0_2, .slice (some ⟨gO, 0, none⟩) l0_3.length cO] 26 (0, 0)) from B_g3.out)
          replace B_g5 := Aside0.mk (show w9.drew.heap[g5]? = some (.cells #[.int .u64 x.f0, .int .u64 x.f1] 36 (0, 0)) from B_g5.out)
          replace B_g6 := Aside0.mk (show w9.drew.heap[g6]? = some (.cells #[.int .i64 0, .int .i64 0, .int .i64 0, .slice none 0 0] 26 (0, 0)) from B_g6.out)
          replace HOUT := Aside0.mk (show Kd.R (Kd.raw 1) 22 w9.drew w6.heap.size (fun _ => True) (.slice (some ⟨gO, 0, none⟩) l0_3.length cO) (hd1 H1) from Kd.R_drew HOUT.out)
          replace RWS := Aside0.mk (show RwI w6.heap.size H1 ((pre ++ [row])) w9.drew from RWS.out.below (Below.refl _ _).drew)
          replace HS := Aside0.mk (show Stp w0 w S w9.drew from stp_drew HS.out)
          generalize w9.drew = w10 at B_g3 B_g5 B_g6 HOUT RWS HS hHeld ⊢
          refine pure_ (i := 0) (N := some 67) (v := ?_) (a' := ?_) #[true, false, false, false, false, false, false, false, false] rfl rfl (by kernel_rfl) (fun _ _ _ h => h) (Or.inl ⟨by rfl, ?_⟩) ?_ ?_
          rotate_left
          · intro w'
            go_simp
            with_reducible rfl
          rotate_left
          · simp only [Act.put, List.setIfInBounds_toArray, List.set_cons_zero, List.set_cons_succ, i64_w, i32_w]
            rfl
          refine take_ (i := 1) (N := some 68) (v := ?_) (a' := ?_) #[true, true, false, false, false, false, false, false, false] rfl rfl (by kernel_rfl) (fun _ _ _ h => h) (Or.inl ⟨by rfl, ?_⟩) hHeld ?_ ?_
          rotate_left
          · rintro w' ⟨s0, s1, s2, s3⟩
            go_simp
            with_reducible rfl
          rotate_left
          · simp only [Act.put, List.setIfInBounds_toArray, List.set_cons_zero, List.set_cons_succ, i64_w, i32_w]
            rfl
          refine pure_ (i := 2) (N := some 69) (v := ?_) (a' := ?_) #[true, true, true, false, false, false, false, false, false] rfl rfl (by kernel_rfl) (fun _ _ _ h => h) (Or.inl ⟨by rfl, ?_⟩) ?_ ?_
          rotate_left
          · intro w'
            go_simp
            with_reducible rfl
          rotate_left
          · simp only [Act.put, List.setIfInBounds_toArray, List.set_cons_zero, List.set_cons_succ, i64_w, i32_w]
            rfl
          refine pure_ (i := 3) (N := some 70) (v := ?_) (a' := ?_) #[true, true, true, true, false, false, false, false, false] rfl rfl (by kernel_rfl) (fun _ _ _ h => h) (Or.inl ⟨by rfl, ?_⟩) ?_ ?_
          rotate_left
          · intro w'
            go_simp
            with_reducible rfl
          rotate_left
          · simp only [Act.put, List.setIfInBounds_toArray, List.set_cons_zero, List.set_cons_succ, i64_w, i32_w]
            rfl
          refine take_ (i := 4) (N := some 71) (v := ?_) (a' := ?_) #[true, true, true, true, true, false, false, false, false] rfl rfl (by kernel_rfl) (fun _ _ _ h => h) (Or.inl ⟨by rfl, ?_⟩) hHeld ?_ ?_
          rotate_left
          · rintro w' ⟨s0, s1, s2, s3⟩
            go_simp
            with_reducible rfl
          rotate_left
          · simp only [Act.put, List.setIfInBounds_toArray, List.set_cons_zero, List.set_cons_succ, i64_w, i32_w]
            rfl
          refine pure_ (i := 5) (N := some 72) (v := ?_) (a' := ?_) #[true, true, true, true, true, true, false, false, false] rfl rfl (by kernel_rfl) (fun _ _ _ h => h) (Or.inl ⟨by rfl, ?_⟩) ?_ ?_
          rotate_left
          · intro w'
            go_simp
            with_reducible rfl
          rotate_left
          · simp only [Act.put, List.setIfInBounds_toArray, List.set_cons_zero, List.set_cons_succ, i64_w, i32_w]
            rfl
          refine take_ (i := 6) (N := some 73) (v := ?_) (a' := ?_) #[true, true, true, true, true, true, true, false, false] rfl rfl (by kernel_rfl) (fun _ _ _ h => h) (Or.inl ⟨by rfl, ?_⟩) hHeld ?_ ?_
          rotate_left
          · rintro w' ⟨s0, s1, s2, s3⟩
            go_simp
            with_reducible rfl
          rotate_left
          · simp only [Act.put, List.setIfInBounds_toArray, List.set_cons_zero, List.set_cons_succ, i64_w, i32_w]
            rfl
          refine pure_ (i := 7) (N := some 74) (v := ?_) (a' := ?_) #[true, true, true, true, true, true, true, true, false] rfl rfl (by kernel_rfl) (fun _ _ _ h => h) (Or.inl ⟨by rfl, ?_⟩) ?_ ?_
          rotate_left
          · intro w'
            go_simp
            with_reducible rfl
          rotate_left
          · simp only [Act.put, List.setIfInBounds_toArray, List.set_cons_zero, List.set_cons_succ, i64_w, i32_w]
            rfl
          refine last_ (i := 8) (N := none) #[true, true, true, true, true, true, true, true, true] rfl rfl (by kernel_rfl) (by decide) (fun K hK => ?_)
          obtain ⟨uN, hu1, hu2⟩ := RWS.out.row j row (by rw [← HP.out.1, List.getElem?_append_right (Nat.le_refl _), Nat.sub_self]; rfl)
          rw [HHN.out] at hu1
          obtain rfl := Option.some.inj hu1
          obtain ⟨ce, hcl, hMe, hcc, hfr⟩ := Kd.R_elem hu2 z36 (i : Int) (by omega) (by have := HQ.out.1; omega)
          obtain rfl := k36_openM hMe
          have hz0 := hcc 0 _ rfl
          have hz1 := hcc 1 _ rfl
          have hf0 := hfr 0
          have hf1 := hfr 1
          simp only [show (k36).sz = 2 from rfl, Nat.mul_one, Nat.add_zero, Int.toNat_natCast] at hz0 hz1 hf0 hf1
          have ep := add_plain gN (i * 2)
          refine skip_ (w1 := ?_) (by rfl) rfl ?_ ?_
          rotate_left
          · go_simp
            rfl
          have hgN := HGN.out
          have hb0 := HB0.out
          have hn3 : g3 ≠ gN := by omega
          have hn5 : g5 ≠ gN := by omega
          have hn6 : g6 ≠ gN := by omega
          have hnO : gO ≠ gN := fun e => by
            obtain ⟨c1_, h1_⟩ := Kd.R_typed HOUT.out gO rfl
            obtain ⟨c2_, h2_⟩ := Kd.R_typed hu2 gN rfl
            rw [e, h2_] at h1_
            injection h1_ with e1_
            injection e1_ with _ e2_
            exact absurd e2_ (by decide)
          have hge : w0.heap.size ≤ gN ∧ (S gN ∨ w.heap.size ≤ gN) := ⟨by omega, Or.inr (by rw [← HW.out]; omega)⟩
          replace B_g3 := Aside0.mk (show ((w10.setCell ⟨gN, i * 2, none⟩ (.int .u64 x.f0)).setCell ⟨gN, i * 2 + 1, none⟩ (.int .u64 x.f1)).heap[g3]? = some (.cells #[.int .i64 a0_0, .int .i64 a0_1, .int .i64 a0_2, .slice (some ⟨gO, 0, none⟩) l0_3.length cO] 26 (0, 0)) from blk_far (blk_far B_g3.out hn3 _) hn3 _)
          replace B_g5 := Aside0.mk (show ((w10.setCell ⟨gN, i * 2, none⟩ (.int .u64 x.f0)).setCell ⟨gN, i * 2 + 1, none⟩ (.int .u64 x.f1)).heap[g5]? = some (.cells #[.int .u64 x.f0, .int .u64 x.f1] 36 (0, 0)) from blk_far (blk_far B_g5.out hn5 _) hn5 _)
          replace B_g6 := Aside0.mk (show ((w10.setCell ⟨gN, i * 2, none⟩ (.int .u64 x.f0)).setCell ⟨gN, i * 2 + 1, none⟩ (.int .u64 x.f1)).heap[g6]? = some (.cells #[.int .i64 0, .int .i64 0, .int .i64 0, .slice none 0 0] 26 (0, 0)) from blk_far (blk_far B_g6.out hn6 _) hn6 _)
          replace HOUT := Aside0.mk (show Kd.R (Kd.raw 1) 22 ((w10.setCell ⟨gN, i * 2, none⟩ (.int .u64 x.f0)).setCell ⟨gN, i * 2 + 1, none⟩ (.int .u64 x.f1)) w6.heap.size (fun _ => True) (.slice (some ⟨gO, 0, none⟩) l0_3.length cO) (hd1 H1) from hd_far (hd_far HOUT.out hnO _ _) hnO _ _)
          replace RWS := Aside0.mk (show RwI w6.heap.size H1 ((pre ++ [row.set i x])) ((w10.setCell ⟨gN, i * 2, none⟩ (.int .u64 x.f0)).setCell ⟨gN, i * 2 + 1, none⟩ (.int .u64 x.f1)) from RwI.put RWS.out (by rw [HP.out.1]; exact HHN.out) i HQ.out.1 x)
          replace HS := Aside0.mk (show Stp w0 w S ((w10.setCell ⟨gN, i * 2, none⟩ (.int .u64 x.f0)).setCell ⟨gN, i * 2 + 1, none⟩ (.int .u64 x.f1)) from stp_set (stp_set HS.out hge _ _) hge _ _)
          refine hK.out _ _ ?_
          clear hK K hHeld hz0 hz1 hf0 hf1 hcc hfr hcl hMe hu2 hgN hb0 hn3 hn5 hn6 hnO hge ep
          generalize ((w10.setCell ⟨gN, i * 2, none⟩ (.int .u64 x.f0)).setCell ⟨gN, i * 2 + 1, none⟩ (.int .u64 x.f1)) = w20 at B_g3 B_g5 B_g6 HOUT RWS HS ⊢
          refine done_ (by kernel_rfl) ?_
          try go_wp2
          go_roundg k1
          case measure => omega
          case rel => exact ⟨j + 1, i / 2, H1, pre ++ [row.set i x], x, r2, by first | rfl | (rw [show ((i : Int) / 2) = ((i / 2 : Nat) : Int) by omega]), by first | rw [hadd] | rfl, ⟨by rw [List.getLast?_concat]; exact H'.out⟩, ⟨by have := HP.out.1; simp; omega, by rw [HP.out.2]; simp⟩, ⟨⟨by have := HK.out.1; omega, HJ.out⟩⟩, B_g3, B_g5, B_g6, HOUT, HH1, RWS, HS⟩
        · have hg1 : decide (0 < j) = true := decide_eq_true (by omega)
          have hg2 : decide (0 < (j : Int)) = true := decide_eq_true (by omega)
          have hg3 : (0 < j) = True := eq_true (by omega)
          obtain ⟨jp, hjp⟩ : ∃ jp, j - 1 = jp := ⟨_, rfl⟩
          have hsub : wrap64 ((j : Int) - 1) = (jp : Int) := by have := HN.out.1; have := HJ.out; unfold wrap64; omega
          have hpl : jp < pre.length := by have := HP.out.1; omega
          have hlast : pre.getLast? = some pre[jp] := by rw [List.getLast?_eq_getElem?, HP.out.1, hjp]; exact List.getElem?_eq_getElem hpl
          have hx_ := HX.out
          rw [hlast] at hx_
          have hpj : (pre ++ [row])[jp]? = some pre[jp] := by rw [List.getElem?_append_left hpl]; exact List.getElem?_eq_getElem hpl
          generalize pre[jp] = p at hx_ hpj
          clear hlast
          simp only [leafL] at hx_
          by_cases hq2 : 2 * i + 1 < p.length
          · rw [if_pos hq2] at hx_
            obtain ⟨nn, hnn, hx_⟩ := Option.bind_eq_some_iff.mp hx_
            have e0_ : nn.1 = x.f0 := by rw [← Option.some.inj hx_]
            have e1_ : nn.2 = x.f1 := by rw [← Option.some.inj hx_]
            rw [show nn = (x.f0, x.f1) from Prod.ext e0_ e1_] at hnn
            have HND := Aside0.mk hnn
            obtain ⟨j0, hj0_⟩ : ∃ j0, 2 * i = j0 := ⟨_, rfl⟩
            obtain ⟨j1, hj1_⟩ : ∃ j1, 2 * i + 1 = j1 := ⟨_, rfl⟩
            obtain ⟨up, hup, hRp⟩ := RWS.out.row jp p hpj
            obtain ⟨Ap, cp, eup, hcp, hCp⟩ := Kd.R_reads hRp
            subst eup
            have hmx : p.length ≤ 9223372036854775807 := hCp.2.1
            have hb0 : wrap64 (2 * (i : Int)) = (j0 : Int) := by unfold wrap64; omega
            have hb1 : wrap64 ((j0 : Int) + 1) = (j1 : Int) := by unfold wrap64; omega
            obtain ⟨ad, ea, hx0, hx1⟩ := at_T36 hCp (j0 : Int) (by omega) (by omega)
            obtain ⟨ad', ea', hy0, hy1⟩ := at_T36 hCp (j1 : Int) (by omega) (by omega)
            rw [ea] at ea'
            injection ea' with ea'
            subst ea'
            subst ea
            rw [show rd_T36 p (j0 : Int) = p.getD (2 * i) z36 by unfold rd_T36; rw [Int.toNat_natCast, hj0_]] at hx0 hx1
            rw [show rd_T36 p (j1 : Int) = p.getD (2 * i + 1) z36 by unfold rd_T36; rw [Int.toNat_natCast, hj1_]] at hy0 hy1
            simp only [Int.toNat_natCast] at hx0 hx1 hy0 hy1
            have p0 : (0 ≤ (j0 : Int)) = True := eq_true (by omega)
            have q0 : ((j0 : Int) < (p.length : Int)) = True := eq_true (by omega)
            have p1 : (0 ≤ (j1 : Int)) = True := eq_true (by omega)
            have q1 : ((j1 : Int) < (p.length : Int)) = True := eq_true (by omega)
            have q0n : (j0 < p.length) = True := eq_true (by omega)
            have q1n : (j1 < p.length) = True := eq_true (by omega)
            have p4 : (0 ≤ (jp : Int)) = True := eq_true (by omega)
            have q4 : ((jp : Int) < (l0_3.length : Int)) = True := eq_true (by have := HJ.out; omega)
            have q4n : (jp < l0_3.length) = True := eq_true (by have := HJ.out; omega)
            have c_p := hd_cell HOUT.out jp _ hup
            have c_g3_3 : w9.cell? ⟨g3, 3, none⟩ = some (.slice (some ⟨gO, 0, none⟩) l0_3.length cO) := (blk_cell B_g3.out 3).trans rfl
            generalize (p.getD (2 * i) z36).f0 = na0 at hx0 HND
            generalize (p.getD (2 * i) z36).f1 = na1 at hx1 HND
            generalize (p.getD (2 * i + 1) z36).f0 = nb0 at hy0 HND
            generalize (p.getD (2 * i + 1) z36).f1 = nb1 at hy1 HND
            clear hnn hx_ e0_ e1_ hup hRp hCp hcp hpj hpl hq2 hmx hj0
            go_upto_region 13 with (fail)
            refine start_ (n := 15) (S := fun w' => w'.cell? ⟨g3, 0, none⟩ = some (.int .i64 a0_0) ∧ w'.cell? (ad.add (j0 * 2)) = some (.int .u64 na0) ∧ w'.cell? ⟨(ad.add (j0 * 2)).block, (ad.add (j0 * 2)).off + 1, none⟩ = some (.int .u64 na1) ∧ w'.cell? (ad.add (j1 * 2)) = some (.int .u64 nb0) ∧ w'.cell? ⟨(ad.add (j1 * 2)).block, (ad.add (j1 * 2)).off + 1, none⟩ = some (.int .u64 nb1)) (ds := [14]) #[false, false, false, false, false, false, false, false, false, false, false, false, false, false, false] (by kernel_rfl) rfl rfl ⟨(blk_cell B_g3.out 0).trans rfl, hx0, hx1, hy0, hy1⟩ (fun hHeld => ?_)
            replace B_g3 := Aside0.mk (show w9.drew.heap[g3]? = some (.cells #[.int .i64 a0_0, .int .i64 a0_1, .int .i64 a0_2, .slice (some ⟨gO, 0, none⟩) l0_3.length cO] 26 (0, 0)) from B_g3.out)
            replace B_g5 := Aside0.mk (show w9.drew.heap[g5]? = some (.cells #[.int .u64 d.f0, .int .u64 d.f1] 36 (0, 0)) from B_g5.out)
            replace B_g6 := Aside0.mk (show w9.drew.heap[g6]? = some (.cells #[.int .i64 0, .int .i64 0, .int .i64 0, .slice none 0 0] 26 (0, 0)) from B_g6.out)
            replace HOUT := Aside0.mk (show Kd.R (Kd.raw 1) 22 w9.drew w6.heap.size (fun _ => True) (.slice (some ⟨gO, 0, none⟩) l0_3.length cO) (hd1 H1) from Kd.R_drew HOUT.out)
            replace RWS := Aside0.mk (show RwI w6.heap.size H1 ((pre ++ [row])) w9.drew from RWS.out.below (Below.refl _ _).drew)
            replace HS := Aside0.mk (show Stp w0 w S w9.drew from stp_drew HS.out)
            generalize w9.drew = w10 at B_g3 B_g5 B_g6 HOUT RWS HS hHeld ⊢
            clear hx0 hx1 hy0 hy1 c_p c_g3_3
            refine pure_ (i := 0) (N := some 53) (v := ?_) (a' := ?_) #[true, false, false, false, false, false, false, false, false, false, false, false, false, false, false] rfl rfl (by kernel_rfl) (fun _ _ _ h => h) (Or.inl ⟨by rfl, ?_⟩) ?_ ?_
            rotate_left
            · intro w'
              go_simp
              with_reducible rfl
            rotate_left
            · simp only [Act.put, List.setIfInBounds_toArray, List.set_cons_zero, List.set_cons_succ, i64_w, i32_w]
              rfl
            refine take_ (i := 1) (N := some 54) (v := ?_) (a' := ?_) #[true, true, false, false, false, false, false, false, false, false, false, false, false, false, false] rfl rfl (by kernel_rfl) (fun _ _ _ h => h) (Or.inl ⟨by rfl, ?_⟩) hHeld ?_ ?_
            rotate_left
            · rintro w' ⟨s0, s1, s2, s3, s4⟩
              go_simp
              with_reducible rfl
            rotate_left
            · simp only [Act.put, List.setIfInBounds_toArray, List.set_cons_zero, List.set_cons_succ, i64_w, i32_w]
              rfl
            refine pure_ (i := 2) (N := some 55) (v := ?_) (a' := ?_) #[true, true, true, false, false, false, false, false, false, false, false, false, false, false, false] rfl rfl (by kernel_rfl) (fun _ _ _ h => h) (Or.inl ⟨by rfl, ?_⟩) ?_ ?_
            rotate_left
            · intro w'
              go_simp
              with_reducible rfl
            rotate_left
            · simp only [Act.put, List.setIfInBounds_toArray, List.set_cons_zero, List.set_cons_succ, i64_w, i32_w]
              rfl
            refine pure_ (i := 3) (N := some 56) (v := ?_) (a' := ?_) #[true, true, true, true, false, false, false, false, false, false, false, false, false, false, false] rfl rfl (by kernel_rfl) (fun _ _ _ h => h) (Or.inl ⟨by rfl, ?_⟩) ?_ ?_
            rotate_left
            · intro w'
              go_simp
              with_reducible rfl
            rotate_left
            · simp only [Act.put, List.setIfInBounds_toArray, List.set_cons_zero, List.set_cons_succ, i64_w, i32_w]
              rfl
            refine pure_ (i := 4) (N := some 57) (v := ?_) (a' := ?_) #[true, true, true, true, true, false, false, false, false, false, false, false, false, false, false] rfl rfl (by kernel_rfl) (fun _ _ _ h => h) (Or.inl ⟨by rfl, ?_⟩) ?_ ?_
            rotate_left
            · intro w'
              go_simp
              with_reducible rfl
            rotate_left
            · simp only [Act.put, List.setIfInBounds_toArray, List.set_cons_zero, List.set_cons_succ, i64_w, i32_w]
              rfl
            refine pure_ (i := 5) (N := some 58) (v := ?_) (a' := ?_) #[true, true, true, true, true, true, false, false, false, false, false, false, false, false, false] rfl rfl (by kernel_rfl) (fun _ _ _ h => h) (Or.inl ⟨by rfl, ?_⟩) ?_ ?_
            rotate_left
            · intro w'
              go_simp
              with_reducible rfl
            rotate_left
            · simp only [Act.put, List.setIfInBounds_toArray, List.set_cons_zero, List.set_cons_succ, i64_w, i32_w]
              rfl
            refine take_ (i := 6) (N := some 59) (v := ?_) (a' := ?_) #[true, true, true, true, true, true, true, false, false, false, false, false, false, false, false] rfl rfl (by kernel_rfl) (fun _ _ _ h => h) (Or.inl ⟨by rfl, ?_⟩) hHeld ?_ ?_
            rotate_left
            · rintro w' ⟨s0, s1, s2, s3, s4⟩
              go_simp
              with_reducible rfl
            rotate_left
            · simp only [Act.put, List.setIfInBounds_toArray, List.set_cons_zero, List.set_cons_succ, i64_w, i32_w]
              rfl
            refine pure_ (i := 7) (N := some 60) (v := ?_) (a' := ?_) #[true, true, true, true, true, true, true, true, false, false, false, false, false, false, false] rfl rfl (by kernel_rfl) (fun _ _ _ h => h) (Or.inl ⟨by rfl, ?_⟩) ?_ ?_
            rotate_left
            · intro w'
              go_simp
              with_reducible rfl
            rotate_left
            · simp only [Act.put, List.setIfInBounds_toArray, List.set_cons_zero, List.set_cons_succ, i64_w, i32_w]
              rfl
            refine pure_ (i := 8) (N := some 61) (v := ?_) (a' := ?_) #[true, true, true, true, true, true, true, true, true, false, false, false, false, false, false] rfl rfl (by kernel_rfl) (fun _ _ _ h => h) (Or.inl ⟨by rfl, ?_⟩) ?_ ?_
            rotate_left
            · intro w'
              go_simp
              with_reducible rfl
            rotate_left
            · simp only [Act.put, List.setIfInBounds_toArray, List.set_cons_zero, List.set_cons_succ, i64_w, i32_w]
              rfl
            refine pure_ (i := 9) (N := some 62) (v := ?_) (a' := ?_) #[true, true, true, true, true, true, true, true, true, true, false, false, false, false, false] rfl rfl (by kernel_rfl) (fun _ _ _ h => h) (Or.inl ⟨by rfl, ?_⟩) ?_ ?_
            rotate_left
            · intro w'
              go_simp
              with_reducible rfl
            rotate_left
            · simp only [Act.put, List.setIfInBounds_toArray, List.set_cons_zero, List.set_cons_succ, i64_w, i32_w]
              rfl
            refine pure_ (i := 10) (N := some 63) (v := ?_) (a' := ?_) #[true, true, true, true, true, true, true, true, true, true, true, false, false, false, false] rfl rfl (by kernel_rfl) (fun _ _ _ h => h) (Or.inl ⟨by rfl, ?_⟩) ?_ ?_
            rotate_left
            · intro w'
              go_simp
              with_reducible rfl
            rotate_left
            · simp only [Act.put, List.setIfInBounds_toArray, List.set_cons_zero, List.set_cons_succ, i64_w, i32_w]
              rfl
            refine pure_ (i := 11) (N := some 64) (v := ?_) (a' := ?_) #[true, true, true, true, true, true, true, true, true, true, true, true, false, false, false] rfl rfl (by kernel_rfl) (fun _ _ _ h => h) (Or.inl ⟨by rfl, ?_⟩) ?_ ?_
            rotate_left
            · intro w'
              go_simp
              with_reducible rfl
            rotate_left
            · simp only [Act.put, List.setIfInBounds_toArray, List.set_cons_zero, List.set_cons_succ, i64_w, i32_w]
              rfl
            refine take_ (i := 12) (N := some 65) (v := ?_) (a' := ?_) #[true, true, true, true, true, true, true, true, true, true, true, true, true, false, false] rfl rfl (by kernel_rfl) (fun _ _ _ h => h) (Or.inl ⟨by rfl, ?_⟩) hHeld ?_ ?_
            rotate_left
            · rintro w' ⟨s0, s1, s2, s3, s4⟩
              go_simp
              with_reducible rfl
            rotate_left
            · simp only [Act.put, List.setIfInBounds_toArray, List.set_cons_zero, List.set_cons_succ, i64_w, i32_w]
              rfl
            refine one_ (i := 13) (N := some 66) #[true, true, true, true, true, true, true, true, true, true, true, true, true, true, false] rfl rfl (by kernel_rfl) (by decide) (fun K hK => ?_)
            refine goes_ Tryd.func36 (by kernel_rfl) rfl #[.int .i64 a0_0, .agg #[.int .u64 na0, .int .u64 na1], .agg #[.int .u64 nb0, .int .u64 nb1]] (by rfl) rfl rfl (by (try simp only [List.map_toArray, List.map_cons, List.map_nil]); first | done | rfl | (go_simp; done)) ?_
            with_reducible refine (sponge_Node.calls 200 a0_0 na0 na1 nb0 nb1 x.f0 x.f1 _ (GL.below HRG.out (stp_b HS.out)) HND.out).mono ?_
            rintro e w11 ⟨rfl, hb⟩
            refine ⟨_, rfl, ?_⟩
            replace B_g3 := Aside0.mk (show w11.heap[g3]? = some (.cells #[.int .i64 a0_0, .int .i64 a0_1, .int .i64 a0_2, .slice (some ⟨gO, 0, none⟩) l0_3.length cO] 26 (0, 0)) from blk_below B_g3.out hb)
            replace B_g5 := Aside0.mk (show w11.heap[g5]? = some (.cells #[.int .u64 d.f0, .int .u64 d.f1] 36 (0, 0)) from blk_below B_g5.out hb)
            replace B_g6 := Aside0.mk (show w11.heap[g6]? = some (.cells #[.int .i64 0, .int .i64 0, .int .i64 0, .slice none 0 0] 26 (0, 0)) from blk_below B_g6.out hb)
            replace HOUT := Aside0.mk (show Kd.R (Kd.raw 1) 22 w11 w6.heap.size (fun _ => True) (.slice (some ⟨gO, 0, none⟩) l0_3.length cO) (hd1 H1) from Kd.R_below HOUT.out hb)
            replace RWS := Aside0.mk (show RwI w6.heap.size H1 ((pre ++ [row])) w11 from RWS.out.below hb)
            replace HS := Aside0.mk (show Stp w0 w S w11 from stp_below HS.out hb)
            refine hK.out _ _ ⟨pw_cell_below hb hHeld.1, pw_cell_below hb hHeld.2.1, pw_cell_below hb hHeld.2.2.1, pw_cell_below hb hHeld.2.2.2.1, pw_cell_below hb hHeld.2.2.2.2⟩ (fun hHeld => ?_)
            clear hK K hb
            refine norm_ (a' := ?_) ?_ ?_
            rotate_left
            · show Act.put _ (some 66) _ = _
              simp only [Act.put, List.setIfInBounds_toArray, List.set_cons_zero, List.set_cons_succ, i64_w, i32_w]
              rfl
            refine last_ (i := 14) (N := none) #[true, true, true, true, true, true, true, true, true, true, true, true, true, true, true] rfl rfl (by kernel_rfl) (by decide) (fun K hK => ?_)
            have c_g5_0 : w11.cell? ⟨g5, 0, none⟩ = some (.int .u64 d.f0) := (blk_cell B_g5.out 0).trans rfl
            have f_g5_0 := blk_frozen B_g5.out 0
            have c_g5_1 : w11.cell? ⟨g5, 1, none⟩ = some (.int .u64 d.f1) := (blk_cell B_g5.out 1).trans rfl
            have f_g5_1 := blk_frozen B_g5.out 1
            refine skip_ (w1 := ?_) (by rfl) rfl ?_ ?_
            rotate_left
            · go_simp
              rfl
            replace B_g3 := Aside0.mk (show ((w11.setCell ⟨g5, 0, none⟩ (.int .u64 x.f0)).setCell ⟨g5, 1, none⟩ (.int .u64 x.f1)).heap[g3]? = some (.cells #[.int .i64 a0_0, .int .i64 a0_1, .int .i64 a0_2, .slice (some ⟨gO, 0, none⟩) l0_3.length cO] 26 (0, 0)) from blk_far (blk_far B_g3.out N_g3_g5.out _) N_g3_g5.out _)
            replace B_g5 := Aside0.mk (show ((w11.setCell ⟨g5, 0, none⟩ (.int .u64 x.f0)).setCell ⟨g5, 1, none⟩ (.int .u64 x.f1)).heap[g5]? = some (.cells #[.int .u64 x.f0, .int .u64 x.f1] 36 (0, 0)) from blk_put (cs := #[.int .u64 x.f0, .int .u64 d.f1]) (blk_put (cs := #[.int .u64 d.f0, .int .u64 d.f1]) B_g5.out 0 (.int .u64 x.f0) rfl) 1 (.int .u64 x.f1) rfl)
            replace B_g6 := Aside0.mk (show ((w11.setCell ⟨g5, 0, none⟩ (.int .u64 x.f0)).setCell ⟨g5, 1, none⟩ (.int .u64 x.f1)).heap[g6]? = some (.cells #[.int .i64 0, .int .i64 0, .int .i64 0, .slice none 0 0] 26 (0, 0)) from blk_far (blk_far B_g6.out N_g6_g5.out _) N_g6_g5.out _)
            replace HOUT := Aside0.mk (show Kd.R (Kd.raw 1) 22 ((w11.setCell ⟨g5, 0, none⟩ (.int .u64 x.f0)).setCell ⟨g5, 1, none⟩ (.int .u64 x.f1)) w6.heap.size (fun _ => True) (.slice (some ⟨gO, 0, none⟩) l0_3.length cO) (hd1 H1) from R_low (R_low HOUT.out HB0.out.2.2.1 _ _) HB0.out.2.2.1 _ _)
            replace RWS := Aside0.mk (show RwI w6.heap.size H1 ((pre ++ [row])) ((w11.setCell ⟨g5, 0, none⟩ (.int .u64 x.f0)).setCell ⟨g5, 1, none⟩ (.int .u64 x.f1)) from (RWS.out.setLow HB0.out.2.2.1 _ _).setLow HB0.out.2.2.1 _ _)
            replace HS := Aside0.mk (show Stp w0 w S ((w11.setCell ⟨g5, 0, none⟩ (.int .u64 x.f0)).setCell ⟨g5, 1, none⟩ (.int .u64 x.f1)) from stp_set (stp_set HS.out G_g5.out _ _) G_g5.out _ _)
            refine hK.out _ _ ?_
            clear hK K hHeld c_g5_0 c_g5_1 f_g5_0 f_g5_1
            generalize ((w11.setCell ⟨g5, 0, none⟩ (.int .u64 x.f0)).setCell ⟨g5, 1, none⟩ (.int .u64 x.f1)) = w12 at B_g3 B_g5 B_g6 HOUT RWS HS ⊢
            refine done_ (by kernel_rfl) ?_
            go_upto_region 14 with (fail)
            refine start_ (n := 9) (S := fun w' => w'.cell? ⟨g3, 3, none⟩ = some (.slice (some ⟨gO, 0, none⟩) l0_3.length cO) ∧ w'.cell? ⟨gO, j, none⟩ = some (.slice (some ⟨gN, 0, none⟩) row.length cN) ∧ w'.cell? ⟨g5, 0, none⟩ = some (.int .u64 x.f0) ∧ w'.cell? ⟨g5, 1, none⟩ = some (.int .u64 x.f1)) (ds := [8]) #[false, false, false, false, false, false, false, false, false] (by kernel_rfl) rfl rfl ⟨(blk_cell B_g3.out 3).trans rfl, hd_cell HOUT.out j _ HHN.out, (blk_cell B_g5.out 0).trans rfl, (blk_cell B_g5.out 1).trans rfl⟩ (fun hHeld => ?_)
            replace B_g3 := Aside0.mk (show w12.drew.heap[g3]? = some (.cells #[.int .i64 a0_0, .int .i64 a0_1, .int .i64 a0_2, .slice (some ⟨gO, 0, none⟩) l0_3.length cO] 26 (0, 0)) from B_g3.out)
            replace B_g5 := Aside0.mk (show w12.drew.heap[g5]? = some (.cells #[.int .u64 x.f0, .int .u64 x.f1] 36 (0, 0)) from B_g5.out)
            replace B_g6 := Aside0.mk (show w12.drew.heap[g6]? = some (.cells #[.int .i64 0, .int .i64 0, .int .i64 0, .slice none 0 0] 26 (0, 0)) from B_g6.out)
            replace HOUT := Aside0.mk (show Kd.R (Kd.raw 1) 22 w12.drew w6.heap.size (fun _ => True) (.slice (some ⟨gO, 0, none⟩) l0_3.length cO) (hd1 H1) from Kd.R_drew HOUT.out)
            replace RWS := Aside0.mk (show RwI w6.heap.size H1 ((pre ++ [row])) w12.drew from RWS.out.below (Below.refl _ _).drew)
            replace HS := Aside0.mk (show Stp w0 w S w12.drew from stp_drew HS.out)
            generalize w12.drew = w13 at B_g3 B_g5 B_g6 HOUT RWS HS hHeld ⊢
            refine pure_ (i := 0) (N := some 67) (v := ?_) (a' := ?_) #[true, false, false, false, false, false, false, false, false] rfl rfl (by kernel_rfl) (fun _ _ _ h => h) (Or.inl ⟨by rfl, ?_⟩) ?_ ?_
            rotate_left
            · intro w'
              go_simp
              with_reducible rfl
            rotate_left
            · simp only [Act.put, List.setIfInBounds_toArray, List.set_cons_zero, List.set_cons_succ, i64_w, i32_w]
              rfl
            refine take_ (i := 1) (N := some 68) (v := ?_) (a' := ?_) #[true, true, false, false, false, false, false, false, false] rfl rfl (by kernel_rfl) (fun _ _ _ h => h) (Or.inl ⟨by rfl, ?_⟩) hHeld ?_ ?_
            rotate_left
            · rintro w' ⟨s0, s1, s2, s3⟩
              go_simp
              with_reducible rfl
            rotate_left
            · simp only [Act.put, List.setIfInBounds_toArray, List.set_cons_zero, List.set_cons_succ, i64_w, i32_w]
              rfl
            refine pure_ (i := 2) (N := some 69) (v := ?_) (a' := ?_) #[true, true, true, false, false, false, false, false, false] rfl rfl (by kernel_rfl) (fun _ _ _ h => h) (Or.inl ⟨by rfl, ?_⟩) ?_ ?_
            rotate_left
            · intro w'
              go_simp
              with_reducible rfl
            rotate_left
            · simp only [Act.put, List.setIfInBounds_toArray, List.set_cons_zero, List.set_cons_succ, i64_w, i32_w]
              rfl
            refine pure_ (i := 3) (N := some 70) (v := ?_) (a' := ?_) #[true, true, true, true, false, false, false, false, false] rfl rfl (by kernel_rfl) (fun _ _ _ h => h) (Or.inl ⟨by rfl, ?_⟩) ?_ ?_
            rotate_left
            · intro w'
              go_simp
              with_reducible rfl
            rotate_left
            · simp only [Act.put, List.setIfInBounds_toArray, List.set_cons_zero, List.set_cons_succ, i64_w, i32_w]
              rfl
            refine take_ (i := 4) (N := some 71) (v := ?_) (a' := ?_) #[true, true, true, true, true, false, false, false, false] rfl rfl (by kernel_rfl) (fun _ _ _ h => h) (Or.inl ⟨by rfl, ?_⟩) hHeld ?_ ?_
            rotate_left
            · rintro w' ⟨s0, s1, s2, s3⟩
              go_simp
              with_reducible rfl
            rotate_left
            · simp only [Act.put, List.setIfInBounds_toArray, List.set_cons_zero, List.set_cons_succ, i64_w, i32_w]
              rfl
            refine pure_ (i := 5) (N := some 72) (v := ?_) (a' := ?_) #[true, true, true, true, true, true, false, false, false] rfl rfl (by kernel_rfl) (fun _ _ _ h => h) (Or.inl ⟨by rfl, ?_⟩) ?_ ?_
            rotate_left
            · intro w'
              go_simp
              with_reducible rfl
            rotate_left
            · simp only [Act.put, List.setIfInBounds_toArray, List.set_cons_zero, List.set_cons_succ, i64_w, i32_w]
              rfl
            refine take_ (i := 6) (N := some 73) (v := ?_) (a' := ?_) #[true, true, true, true, true, true, true, false, false] rfl rfl (by kernel_rfl) (fun _ _ _ h => h) (Or.inl ⟨by rfl, ?_⟩) hHeld ?_ ?_
            rotate_left
            · rintro w' ⟨s0, s1, s2, s3⟩
              go_simp
              with_reducible rfl
            rotate_left
            · simp only [Act.put, List.setIfInBounds_toArray, List.set_cons_zero, List.set_cons_succ, i64_w, i32_w]
              rfl
            refine pure_ (i := 7) (N := some 74) (v := ?_) (a' := ?_) #[true, true, true, true, true, true, true, true, false] rfl rfl (by kernel_rfl) (fun _ _ _ h => h) (Or.inl ⟨by rfl, ?_⟩) ?_ ?_
            rotate_left
            · intro w'
              go_simp
              with_reducible rfl
            rotate_left
            · simp only [Act.put, List.setIfInBounds_toArray, List.set_cons_zero, List.set_cons_succ, i64_w, i32_w]
              rfl
            refine last_ (i := 8) (N := none) #[true, true, true, true, true, true, true, true, true] rfl rfl (by kernel_rfl) (by decide) (fun K hK => ?_)
            obtain ⟨uN, hu1, hu2⟩ := RWS.out.row j row (by rw [← HP.out.1, List.getElem?_append_right (Nat.le_refl _), Nat.sub_self]; rfl)
            rw [HHN.out] at hu1
            obtain rfl := Option.some.inj hu1
            obtain ⟨ce, hcl, hMe, hcc, hfr⟩ := Kd.R_elem hu2 z36 (i : Int) (by omega) (by have := HQ.out.1; omega)
            obtain rfl := k36_openM hMe
            have hz0 := hcc 0 _ rfl
            have hz1 := hcc 1 _ rfl
            have hf0 := hfr 0
            have hf1 := hfr 1
            simp only [show (k36).sz = 2 from rfl, Nat.mul_one, Nat.add_zero, Int.toNat_natCast] at hz0 hz1 hf0 hf1
            have ep := add_plain gN (i * 2)
            refine skip_ (w1 := ?_) (by rfl) rfl ?_ ?_
            rotate_left
            · go_simp
              rfl
            have hgN := HGN.out
            have hb0 := HB0.out
            have hn3 : g3 ≠ gN := by omega
            have hn5 : g5 ≠ gN := by omega
            have hn6 : g6 ≠ gN := by omega
            have hnO : gO ≠ gN := fun e => by
              obtain ⟨c1_, h1_⟩ := Kd.R_typed HOUT.out gO rfl
              obtain ⟨c2_, h2_⟩ := Kd.R_typed hu2 gN rfl
              rw [e, h2_] at h1_
              injection h1_ with e1_
              injection e1_ with _ e2_
              exact absurd e2_ (by decide)
            have hge : w0.heap.size ≤ gN ∧ (S gN ∨ w.heap.size ≤ gN) := ⟨by omega, Or.inr (by rw [← HW.out]; omega)⟩
            replace B_g3 := Aside0.mk (show ((w13.setCell ⟨gN, i * 2, none⟩ (.int .u64 x.f0)).setCell ⟨gN, i * 2 + 1, none⟩ (.int .u64 x.f1)).heap[g3]? = some (.cells #[.int .i64 a0_0, .int .i64 a0_1, .int .i64 a0_2, .slice (some ⟨gO, 0, none⟩) l0_3.length cO] 26 (0, 0)) from blk_far (blk_far B_g3.out hn3 _) hn3 _)
            replace B_g5 := Aside0.mk (show ((w13.setCell ⟨gN, i * 2, none⟩ (.int .u64 x.f0)).setCell ⟨gN, i * 2 + 1, none⟩ (.int .u64 x.f1)).heap[g5]? = some (.cells #[.int .u64 x.f0, .int .u64 x.f1] 36 (0, 0)) from blk_far (blk_far B_g5.out hn5 _) hn5 _)
            replace B_g6 := Aside0.mk (show ((w13.setCell ⟨gN, i * 2, none⟩ (.int .u64 x.f0)).setCell ⟨gN, i * 2 + 1, none⟩ (.int .u64 x.f1)).heap[g6]? = some (.cells #[.int .i64 0, .int .i64 0, .int .i64 0, .slice none 0 0] 26 (0, 0)) from blk_far (blk_far B_g6.out hn6 _) hn6 _)
            replace HOUT := Aside0.mk (show Kd.R (Kd.raw 1) 22 ((w13.setCell ⟨gN, i * 2, none⟩ (.int .u64 x.f0)).setCell ⟨gN, i * 2 + 1, none⟩ (.int .u64 x.f1)) w6.heap.size (fun _ => True) (.slice (some ⟨gO, 0, none⟩) l0_3.length cO) (hd1 H1) from hd_far (hd_far HOUT.out hnO _ _) hnO _ _)
            replace RWS := Aside0.mk (show RwI w6.heap.size H1 ((pre ++ [row.set i x])) ((w13.setCell ⟨gN, i * 2, none⟩ (.int .u64 x.f0)).setCell ⟨gN, i * 2 + 1, none⟩ (.int .u64 x.f1)) from RwI.put RWS.out (by rw [HP.out.1]; exact HHN.out) i HQ.out.1 x)
            replace HS := Aside0.mk (show Stp w0 w S ((w13.setCell ⟨gN, i * 2, none⟩ (.int .u64 x.f0)).setCell ⟨gN, i * 2 + 1, none⟩ (.int .u64 x.f1)) from stp_set (stp_set HS.out hge _ _) hge _ _)
            refine hK.out _ _ ?_
            clear hK K hHeld hz0 hz1 hf0 hf1 hcc hfr hcl hMe hu2 hgN hb0 hn3 hn5 hn6 hnO hge ep
            generalize ((w13.setCell ⟨gN, i * 2, none⟩ (.int .u64 x.f0)).setCell ⟨gN, i * 2 + 1, none⟩ (.int .u64 x.f1)) = w20 at B_g3 B_g5 B_g6 HOUT RWS HS ⊢
            refine done_ (by kernel_rfl) ?_
            try go_wp2
            go_roundg k1
            case measure => omega
            case rel => exact ⟨j + 1, i / 2, H1, pre ++ [row.set i x], x, r2, by first | rfl | (rw [show ((i : Int) / 2) = ((i / 2 : Nat) : Int) by omega]), by first | rw [hadd] | rfl, ⟨by rw [List.getLast?_concat]; exact H'.out⟩, ⟨by have := HP.out.1; simp; omega, by rw [HP.out.2]; simp⟩, ⟨⟨by have := HK.out.1; omega, HJ.out⟩⟩, B_g3, B_g5, B_g6, HOUT, HH1, RWS, HS⟩
          · rw [if_neg hq2] at hx_
            exact absurd hx_ (by simp)
      · rw [if_neg hq] at hr0
        exact absurd hr0 (by simp)
    · have c3b : decide (j < l0_3.length) = false := decide_eq_false c3
      have hd0 : l0_3.drop j = [] := List.drop_eq_nil_of_le (by omega)
      have hr0 := HA.out
      rw [hd0] at hr0
      simp only [replL] at hr0
      obtain rfl := Option.some.inj hr0
      have HRR := Aside0.mk (show R = pre by rw [HP.out.2, List.append_nil])
      have HLE := Aside0.mk (show H.length = pre.length by have := HP.out.1; have := HH.out.1; have := HK.out.2; omega)
      clear HA hd0 hr0 c3
      have c_g3_0 : wr.cell? ⟨g3, 0, none⟩ = some (.int .i64 a0_0) := (blk_cell B_g3.out 0).trans rfl
      have f_g3_0 := blk_frozen B_g3.out 0
      have c_g3_1 : wr.cell? ⟨g3, 1, none⟩ = some (.int .i64 a0_1) := (blk_cell B_g3.out 1).trans rfl
      have f_g3_1 := blk_frozen B_g3.out 1
      have c_g3_2 : wr.cell? ⟨g3, 2, none⟩ = some (.int .i64 a0_2) := (blk_cell B_g3.out 2).trans rfl
      have f_g3_2 := blk_frozen B_g3.out 2
      have c_g3_3 : wr.cell? ⟨g3, 3, none⟩ = some (.slice (some ⟨gO, 0, none⟩) l0_3.length cO) := (blk_cell B_g3.out 3).trans rfl
      have f_g3_3 := blk_frozen B_g3.out 3
      have c_g6_0 : wr.cell? ⟨g6, 0, none⟩ = some (.int .i64 0) := (blk_cell B_g6.out 0).trans rfl
      have f_g6_0 := blk_frozen B_g6.out 0
      have c_g6_1 : wr.cell? ⟨g6, 1, none⟩ = some (.int .i64 0) := (blk_cell B_g6.out 1).trans rfl
      have f_g6_1 := blk_frozen B_g6.out 1
      have c_g6_2 : wr.cell? ⟨g6, 2, none⟩ = some (.int .i64 0) := (blk_cell B_g6.out 2).trans rfl
      have f_g6_2 := blk_frozen B_g6.out 2
      have c_g6_3 : wr.cell? ⟨g6, 3, none⟩ = some (.slice none 0 0) := (blk_cell B_g6.out 3).trans rfl
      have f_g6_3 := blk_frozen B_g6.out 3
      go_wp2_with (first
        | ((with_reducible refine gate_store (t := 26) (p := 6) rfl ?_); refine store_event (t := 26) (p := 6) (v := .tmp 78) (w1 := ((((wr.setCell ⟨g6, 0, none⟩ (.int .i64 a0_0)).setCell ⟨g6, 1, none⟩ (.int .i64 a0_1)).setCell ⟨g6, 2, none⟩ (.int .i64 a0_2)).setCell ⟨g6, 3, none⟩ (.slice (some ⟨gO, 0, none⟩) l0_3.length cO))) ?hg ?ho ?hn ?hr ?_; (case ho => rfl); (case hg => rfl); (case hn => rfl); (case hr => first | (go_simp; done) | (go_simp; rfl)); intro w30 hw; clear c_g3_0 f_g3_0 c_g3_1 f_g3_1 c_g3_2 f_g3_2 c_g3_3 f_g3_3 c_g6_0 f_g6_0 c_g6_1 f_g6_1 c_g6_2 f_g6_2 c_g6_3 f_g6_3; replace B_g3 := Aside0.mk (show w30.heap[g3]? = some (.cells #[.int .i64 a0_0, .int .i64 a0_1, .int .i64 a0_2, .slice (some ⟨gO, 0, none⟩) l0_3.length cO] 26 (0, 0)) from (by rw [hw]; (repeat (refine blk_far ?_ N_g3_g6.out _)); exact B_g3.out)); replace B_g5 := Aside0.mk (show w30.heap[g5]? = some (.cells #[.int .u64 d.f0, .int .u64 d.f1] 36 (0, 0)) from (by rw [hw]; (repeat (refine blk_far ?_ N_g5_g6.out _)); exact B_g5.out)); replace B_g6 := Aside0.mk (show w30.heap[g6]? = some (.cells #[.int .i64 a0_0, .int .i64 a0_1, .int .i64 a0_2, .slice (some ⟨gO, 0, none⟩) l0_3.length cO] 26 (0, 0)) from (by rw [hw]; exact (blk_put (cs := #[.int .i64 a0_0, .int .i64 a0_1, .int .i64 a0_2, .slice none 0 0]) (blk_put (cs := #[.int .i64 a0_0, .int .i64 a0_1, .int .i64 0, .slice none 0 0]) (blk_put (cs := #[.int .i64 a0_0, .int .i64 0, .int .i64 0, .slice none 0 0]) (blk_put (cs := #[.int .i64 0, .int .i64 0, .int .i64 0, .slice none 0 0]) B_g6.out 0 (.int .i64 a0_0) rfl) 1 (.int .i64 a0_1) rfl) 2 (.int .i64 a0_2) rfl) 3 (.slice (some ⟨gO, 0, none⟩) l0_3.length cO) rfl))); replace HS := Aside0.mk (show Stp w0 w S w30 from (by rw [hw]; exact (stp_set (stp_set (stp_set (stp_set HS.out G_g6.out 0 (.int .i64 a0_0)) G_g6.out 1 (.int .i64 a0_1)) G_g6.out 2 (.int .i64 a0_2)) G_g6.out 3 (.slice (some ⟨gO, 0, none⟩) l0_3.length cO)))); replace HOUT := Aside0.mk (show Kd.R (Kd.raw 1) 22 w30 w6.heap.size (fun _ => True) (.slice (some ⟨gO, 0, none⟩) l0_3.length cO) (hd1 H) from (by rw [hw]; exact R_low (R_low (R_low (R_low (HOUT.out) HB0.out.2.2.2 _ _) HB0.out.2.2.2 _ _) HB0.out.2.2.2 _ _) HB0.out.2.2.2 _ _)); replace RWS := Aside0.mk (show RwI w6.heap.size H pre w30 from (by rw [hw]; exact ((((RWS.out).setLow HB0.out.2.2.2 _ _).setLow HB0.out.2.2.2 _ _).setLow HB0.out.2.2.2 _ _).setLow HB0.out.2.2.2 _ _)); clear hw; skip))
      refine bodyPost_ret (results_list (rs := [.cell 6 26, .tmp 7]) rfl (by simp) (.cell g6 26 #[.int .i64 a0_0, .int .i64 a0_1, .int .i64 a0_2, .slice (some ⟨gO, 0, none⟩) l0_3.length cO] (0, 0) _ rfl B_g6.out Tryd.underlying26 rfl (by kernel_rfl) (.tmp .nil))) rfl ?_
      obtain rfl := HW.out
      exact ⟨_, rfl, by rw [HRR.out]; exact Kd.S_lower (S_rows HOUT.out HLE.out RWS.out) HB0.out.1, stp_b HS.out⟩
theorem tree_Replace.calls (k : Nat) (a0_0 : Int) (a0_1 : Int) (a0_2 : Int) (A0_3 : Option Addr) (c0_3 : Nat) (l0_3 : List (List (S36))) (a1 : Int) (a2_0 : Int) (a2_1 : Int) (r1 : Int) (r2 : Int) (r3 : Int) (r4 : List (List (S36))) (r5 : Int) (w : World) (hr0_3 : Kd.C (Kd.slice 36 k36) w A0_3 l0_3.length l0_3) (hc0_3 : l0_3.length ≤ c0_3) (hrG : GL w) (h : tree_Replace.f k a0_0 a0_1 a0_2 l0_3 a1 a2_0 a2_1 = some (r1, r2, r3, r4, r5)) :
    Calls Tryd.prog 32 #[.agg #[.int .i64 a0_0, .int .i64 a0_1, .int .i64 a0_2, .slice A0_3 l0_3.length c0_3], .int .i64 a1, .agg #[.int .u64 a2_0, .int .u64 a2_1]] w fun e w' => ∃ v3_ : Value, e = .returned (.tuple #[.agg #[.int .i64 r1, .int .i64 r2, .int .i64 r3, v3_], .int .i64 r5]) ∧ Kd.S (Kd.slice 36 k36) 22 w' w.heap.size (fun _ => True) v3_ r4 ∧ Below w.heap.size w w' := by
  have bad : ∀ {q : Int}, some ((0 : Int), (0 : Int), (0 : Int), ([] : List (List S36)), q) = some (r1, r2, r3, r4, r5) → (Calls Tryd.prog 32 #[.agg #[.int .i64 a0_0, .int .i64 a0_1, .int .i64 a0_2, .slice A0_3 l0_3.length c0_3], .int .i64 a1, .agg #[.int .u64 a2_0, .int .u64 a2_1]] w fun e w' => e = .returned (.tuple #[.agg #[.int .i64 0, .int .i64 0, .int .i64 0, .slice none 0 0], .int .i64 q]) ∧ Below w.heap.size w w') → Calls Tryd.prog 32 #[.agg #[.int .i64 a0_0, .int .i64 a0_1, .int .i64 a0_2, .slice A0_3 l0_3.length c0_3], .int .i64 a1, .agg #[.int .u64 a2_0, .int .u64 a2_1]] w fun e w' => ∃ v3_ : Value, e = .returned (.tuple #[.agg #[.int .i64 r1, .int .i64 r2, .int .i64 r3, v3_], .int .i64 r5]) ∧ Kd.S (Kd.slice 36 k36) 22 w' w.heap.size (fun _ => True) v3_ r4 ∧ Below w.heap.size w w' := by
    intro q e c
    simp only [Option.some.injEq, Prod.mk.injEq] at e
    obtain ⟨rfl, rfl, rfl, rfl, rfl⟩ := e
    refine c.mono ?_
    rintro e w' ⟨rfl, hb⟩
    exact ⟨_, rfl, Kd.S_nil _ _ _ _ _, hb⟩
  unfold tree_Replace.f at h
  obtain ⟨e, h1, h⟩ := Option.bind_eq_some_iff.mp h
  by_cases he : e = 0
  · subst he
    rw [if_pos rfl] at h
    obtain ⟨p, h2, h⟩ := Option.bind_eq_some_iff.mp h
    cases p with
    | false =>
      rw [if_neg (by decide)] at h
      exact bad h (replace_prop k a0_0 a0_1 a0_2 A0_3 c0_3 l0_3 a1 a2_0 a2_1 w hr0_3 hc0_3 hrG h1 h2)
    | true =>
      rw [if_pos rfl] at h
      by_cases hq : 0 ≤ a1 ∧ 0 < l0_3.length ∧ l0_3.length ≤ 1000
      · rw [if_pos hq] at h
        obtain ⟨R, hR, h⟩ := Option.bind_eq_some_iff.mp h
        simp only [Option.some.injEq, Prod.mk.injEq] at h
        obtain ⟨rfl, rfl, rfl, rfl, rfl⟩ := h
        exact replace_go k a0_0 a0_1 a0_2 A0_3 c0_3 l0_3 a1 a2_0 a2_1 w hr0_3 hc0_3 hrG h1 h2 hq.1 hq.2.1 hq.2.2 R hR
      · rw [if_neg hq] at h
        exact absurd h (by simp)
  · rw [if_neg he] at h
    exact bad h (replace_place k a0_0 a0_1 a0_2 A0_3 c0_3 l0_3 a1 a2_0 a2_1 w hr0_3 hc0_3 hrG e h1 he)
end Go.Proofs.YtpnpmeogffodgaaDoor.Q
end
section
namespace Go.Proofs.YtpnpmeogffodgaaDoor.Q
open Go.RowKit Go.Proofs.YtpnpmeogffodgaaDoorW.PrintWords Go.Proofs.YtpnpmeogffodgaaDoorW.PrintLast Go.Proofs.YtpnpmeogffodgaaDoorW.PrintMore
attribute [local go_sem] max2_int min2_int max_two min_two max_three min_three max_four min_four run_store_fnV run_store_fnc run_store_nfn   -- for this text's walks alone
set_option linter.unusedVariables false
set_option linter.unusedSimpArgs false

/-! ### attestorref07_Same: function 15 -/
mutual
def attestorref07_Same.j0 : Nat → Bool → Int → Int → Int → List (List (S36)) → Int → Int → Int → List (List (S36)) → Option (Bool)
  | 0, _, _, _, _, _, _, _, _, _ => none
  | k + 1, x33, x570000, x570001, x570002, x570003, x571000, x571001, x571002, x571003 => if x33 = true then (some false) else (attestorref07_Same.l0 k 0 x570000 x570001 x570002 x570003 x571000 x571001 x571002 x571003)
def attestorref07_Same.l0 : Nat → Int → Int → Int → Int → List (List (S36)) → Int → Int → Int → List (List (S36)) → Option (Bool)
  | 0, _, _, _, _, _, _, _, _, _ => none
  | k + 1, x5, x570000, x570001, x570002, x570003, x571000, x571001, x571002, x571003 => if x5 < (x570003.length : Int) then (if 0 ≤ x5 then (if x5 < (x571003.length : Int) then ((attestorref07_Equal.f k (rd_L3 x570003 x5) (rd_L3 x571003 x5)).bind fun t573 => (if t573 = true then (attestorref07_Same.l0 k (wrap64 (x5 + 1)) x570000 x570001 x570002 x570003 x571000 x571001 x571002 x571003) else (some false))) else (none)) else (none)) else (some true)
end
def attestorref07_Same.f (k : Nat) (a0_0 : Int) (a0_1 : Int) (a0_2 : Int) (l0_3 : List (List (S36))) (a1_0 : Int) (a1_1 : Int) (a1_2 : Int) (l1_3 : List (List (S36))) : Option (Bool) := if a0_0 = a1_0 then (if a0_1 = a1_1 then (if a0_2 = a1_2 then (attestorref07_Same.j0 k ((l0_3.length : Int) != (l1_3.length : Int)) a0_0 a0_1 a0_2 l0_3 a1_0 a1_1 a1_2 l1_3) else (attestorref07_Same.j0 k true a0_0 a0_1 a0_2 l0_3 a1_0 a1_1 a1_2 l1_3)) else (attestorref07_Same.j0 k true a0_0 a0_1 a0_2 l0_3 a1_0 a1_1 a1_2 l1_3)) else (attestorref07_Same.j0 k true a0_0 a0_1 a0_2 l0_3 a1_0 a1_1 a1_2 l1_3)
theorem attestorref07_Same.mono_l : ∀ k, (∀ y0 y1 y2 y3 y4 y5 y6 y7 y8, LeO (attestorref07_Same.j0 k y0 y1 y2 y3 y4 y5 y6 y7 y8) (attestorref07_Same.j0 (k + 1) y0 y1 y2 y3 y4 y5 y6 y7 y8)) ∧ (∀ y0 y1 y2 y3 y4 y5 y6 y7 y8, LeO (attestorref07_Same.l0 k y0 y1 y2 y3 y4 y5 y6 y7 y8) (attestorref07_Same.l0 (k + 1) y0 y1 y2 y3 y4 y5 y6 y7 y8))
  | 0 => ⟨fun _ _ _ _ _ _ _ _ _ r h => by simp [attestorref07_Same.j0] at h, fun _ _ _ _ _ _ _ _ _ r h => by simp [attestorref07_Same.l0] at h⟩
  | k + 1 => by
    obtain ⟨ih0, ih1⟩ := attestorref07_Same.mono_l k
    refine ⟨?_, ?_⟩
    · intro y0 y1 y2 y3 y4 y5 y6 y7 y8
      unfold attestorref07_Same.j0
      repeat' first
      | (with_reducible exact ih0 _ _ _ _ _ _ _ _ _)
      | (with_reducible exact ih1 _ _ _ _ _ _ _ _ _)
      | (with_reducible exact attestorref07_Equal.mono _ _ _)
      | (with_reducible exact LeO.refl _)
      | (with_reducible exact LeO.none _)
      | (with_reducible refine LeO.ite ?_ ?_)
      | (with_reducible refine LeO.bind ?_ (fun _ => ?_))
      | exact ih0 _ _ _ _ _ _ _ _ _
      | exact ih1 _ _ _ _ _ _ _ _ _
      | exact attestorref07_Equal.mono _ _ _
      | exact LeO.none _
      | refine LeO.ite ?_ ?_
      | refine LeO.bind ?_ (fun _ => ?_)
    · intro y0 y1 y2 y3 y4 y5 y6 y7 y8
      unfold attestorref07_Same.l0
      repeat' first
      | (with_reducible exact ih0 _ _ _ _ _ _ _ _ _)
      | (with_reducible exact ih1 _ _ _ _ _ _ _ _ _)
      | (with_reducible exact attestorref07_Equal.mono _ _ _)
      | (with_reducible exact LeO.refl _)
      | (with_reducible exact LeO.none _)
      | (with_reducible refine LeO.ite ?_ ?_)
      | (with_reducible refine LeO.bind ?_ (fun _ => ?_))
      | exact ih0 _ _ _ _ _ _ _ _ _
      | exact ih1 _ _ _ _ _ _ _ _ _
      | exact attestorref07_Equal.mono _ _ _
      | exact LeO.none _
      | refine LeO.ite ?_ ?_
      | refine LeO.bind ?_ (fun _ => ?_)
theorem attestorref07_Same.mono : ∀ a0 a1 a2 a3 a4 a5 a6 a7 k, LeO (attestorref07_Same.f k a0 a1 a2 a3 a4 a5 a6 a7) (attestorref07_Same.f (k + 1) a0 a1 a2 a3 a4 a5 a6 a7) := by
  intro a0 a1 a2 a3 a4 a5 a6 a7 k
  obtain ⟨ih0, ih1⟩ := attestorref07_Same.mono_l k
  unfold attestorref07_Same.f
  repeat' first
      | (with_reducible exact ih0 _ _ _ _ _ _ _ _ _)
      | (with_reducible exact ih1 _ _ _ _ _ _ _ _ _)
      | (with_reducible exact attestorref07_Equal.mono _ _ _)
      | (with_reducible exact LeO.refl _)
      | (with_reducible exact LeO.none _)
      | (with_reducible refine LeO.ite ?_ ?_)
      | (with_reducible refine LeO.bind ?_ (fun _ => ?_))
      | exact ih0 _ _ _ _ _ _ _ _ _
      | exact ih1 _ _ _ _ _ _ _ _ _
      | exact attestorref07_Equal.mono _ _ _
      | exact LeO.none _
      | refine LeO.ite ?_ ?_
      | refine LeO.bind ?_ (fun _ => ?_)
set_option maxHeartbeats 8000000 in
set_option maxRecDepth 100000 in
theorem attestorref07_Same.calls (k : Nat) (a0_0 : Int) (a0_1 : Int) (a0_2 : Int) (A0_3 : Option Addr) (c0_3 : Nat) (l0_3 : List (List (S36))) (a1_0 : Int) (a1_1 : Int) (a1_2 : Int) (A1_3 : Option Addr) (c1_3 : Nat) (l1_3 : List (List (S36))) (r : Bool) (w : World) (hr0_3 : Kd.C (Kd.slice 36 k36) w A0_3 l0_3.length l0_3) (hc0_3 : l0_3.length ≤ c0_3) (hr1_3 : Kd.C (Kd.slice 36 k36) w A1_3 l1_3.length l1_3) (hc1_3 : l1_3.length ≤ c1_3) (h : attestorref07_Same.f k a0_0 a0_1 a0_2 l0_3 a1_0 a1_1 a1_2 l1_3 = some r) :
    Calls Tryd.prog 15 #[.agg #[.int .i64 a0_0, .int .i64 a0_1, .int .i64 a0_2, .slice A0_3 l0_3.length c0_3], .agg #[.int .i64 a1_0, .int .i64 a1_1, .int .i64 a1_2, .slice A1_3 l1_3.length c1_3]] w fun e w' => e = .returned (.bool r) ∧ Below w.heap.size w w' := by
  have hu26 := Tryd.underlying26
  have HR0_3 := Aside0.mk hr0_3
  have HC0_3 := Aside0.mk hc0_3
  clear hr0_3 hc0_3
  have HR1_3 := Aside0.mk hr1_3
  have HC1_3 := Aside0.mk hc1_3
  clear hr1_3 hc1_3
  have HB := Aside0.mk (Below.refl w.heap.size w)
  have H : (if a0_0 = a1_0 then (if a0_1 = a1_1 then (if a0_2 = a1_2 then (attestorref07_Same.j0 k ((l0_3.length : Int) != (l1_3.length : Int)) a0_0 a0_1 a0_2 l0_3 a1_0 a1_1 a1_2 l1_3) else (attestorref07_Same.j0 k true a0_0 a0_1 a0_2 l0_3 a1_0 a1_1 a1_2 l1_3)) else (attestorref07_Same.j0 k true a0_0 a0_1 a0_2 l0_3 a1_0 a1_1 a1_2 l1_3)) else (attestorref07_Same.j0 k true a0_0 a0_1 a0_2 l0_3 a1_0 a1_1 a1_2 l1_3)) = some r := h
  clear h
  have HC3 := Aside0.mk H
  clear H
  go_enter Tryd.func15, Tryd.ntmps15
  go_upto_region 1 with (first | ((with_reducible refine gate_dst (N := 2) rfl ?_); (try (refine gate_guard (by rfl) ?_; dsimp only)); refine box_event ?hg (N := 2) ?hd (cs := #[.int .i64 a0_0, .int .i64 a0_1, .int .i64 a0_2, .slice A0_3 l0_3.length c0_3]) (t := 26) ?hr ?_; (case hd => rfl); (case hg => rfl); (case hr => first | (go_simp; done) | (go_simp; rfl)); intro gb569 hg w4 hbox hb; have n0_ := Aside0.mk (below_step (by repeat (first | (with_reducible first | exact HB.out | apply below_alloc | apply pw_below_drewN | apply below_drew1) | exact HB.out)) hb); have n1_ := Aside0.mk (hbox); have n2_ := Aside0.mk ((by rw [hg]; exact (below_size (by repeat (first | (with_reducible first | exact HB.out | apply below_alloc | apply pw_below_drewN | apply below_drew1) | exact HB.out))) : w.heap.size ≤ gb569)); have n3_ := Aside0.mk ((by rw [hg]; exact (below_size (by repeat (first | (with_reducible first | exact HB.out | apply below_alloc | apply pw_below_drewN | apply below_drew1) | exact HB.out))) : w.heap.size ≤ gb569)); clear HB; have HB := n0_; have BK569 := n1_; have GW569 := n2_; have GE569 := n3_; clear n0_ n1_ n2_ n3_; clear hb hbox hg) | ((with_reducible refine gate_dst (N := 3) rfl ?_); (try (refine gate_guard (by rfl) ?_; dsimp only)); refine box_event ?hg (N := 3) ?hd (cs := #[.int .i64 a1_0, .int .i64 a1_1, .int .i64 a1_2, .slice A1_3 l1_3.length c1_3]) (t := 26) ?hr ?_; (case hd => rfl); (case hg => rfl); (case hr => first | (go_simp; done) | (go_simp; rfl)); intro gb570 hg w5 hbox hb; have n0_ := Aside0.mk (blk_below (g := gb569) (o := .cells #[.int .i64 a0_0, .int .i64 a0_1, .int .i64 a0_2, .slice A0_3 l0_3.length c0_3] 26 (0, 0)) (by (with_reducible repeat (first | refine blk_drewN ?_ _ | refine blk_drew ?_ | refine blk_alloc ?_ _)); exact BK569.out) hb); have n1_ := Aside0.mk (below_step (by repeat (first | (with_reducible first | exact HB.out | apply below_alloc | apply pw_below_drewN | apply below_drew1 | refine below_set ?_ GE569.out) | exact HB.out)) hb); have n2_ := Aside0.mk (hbox); have n3_ := Aside0.mk ((by rw [hg]; exact (below_size (by repeat (first | (with_reducible first | exact HB.out | apply below_alloc | apply pw_below_drewN | apply below_drew1 | refine below_set ?_ GE569.out) | exact HB.out))) : w.heap.size ≤ gb570)); have n4_ := Aside0.mk ((by rw [hg]; exact (below_size (by repeat (first | (with_reducible first | exact HB.out | apply below_alloc | apply pw_below_drewN | apply below_drew1 | refine below_set ?_ GE569.out) | exact HB.out))) : w.heap.size ≤ gb570)); have n5_ := Aside0.mk ((by rw [hg]; exact Nat.ne_of_lt (blk_lt (g := gb569) (o := .cells #[.int .i64 a0_0, .int .i64 a0_1, .int .i64 a0_2, .slice A0_3 l0_3.length c0_3] 26 (0, 0)) (by (with_reducible repeat (first | refine blk_drewN ?_ _ | refine blk_drew ?_ | refine blk_alloc ?_ _)); exact BK569.out)) : gb569 ≠ gb570)); have n6_ := Aside0.mk ((by rw [hg]; exact Nat.ne_of_gt (blk_lt (g := gb569) (o := .cells #[.int .i64 a0_0, .int .i64 a0_1, .int .i64 a0_2, .slice A0_3 l0_3.length c0_3] 26 (0, 0)) (by (with_reducible repeat (first | refine blk_drewN ?_ _ | refine blk_drew ?_ | refine blk_alloc ?_ _)); exact BK569.out)) : gb570 ≠ gb569)); clear BK569; clear HB; have BK569 := n0_; have HB := n1_; have BK570 := n2_; have GW570 := n3_; have GE570 := n4_; have NB569_570 := n5_; have NB570_569 := n6_; clear n0_ n1_ n2_ n3_ n4_ n5_ n6_; clear hb hbox hg))
  repeat (go_quiet (first | ((with_reducible refine gate_dst (N := 2) rfl ?_); (try (refine gate_guard (by rfl) ?_; dsimp only)); refine box_event ?hg (N := 2) ?hd (cs := #[.int .i64 a0_0, .int .i64 a0_1, .int .i64 a0_2, .slice A0_3 l0_3.length c0_3]) (t := 26) ?hr ?_; (case hd => rfl); (case hg => rfl); (case hr => first | (go_simp; done) | (go_simp; rfl)); intro gb569 hg w4 hbox hb; have n0_ := Aside0.mk (below_step (by repeat (first | (with_reducible first | exact HB.out | apply below_alloc | apply pw_below_drewN | apply below_drew1) | exact HB.out)) hb); have n1_ := Aside0.mk (hbox); have n2_ := Aside0.mk ((by rw [hg]; exact (below_size (by repeat (first | (with_reducible first | exact HB.out | apply below_alloc | apply pw_below_drewN | apply below_drew1) | exact HB.out))) : w.heap.size ≤ gb569)); have n3_ := Aside0.mk ((by rw [hg]; exact (below_size (by repeat (first | (with_reducible first | exact HB.out | apply below_alloc | apply pw_below_drewN | apply below_drew1) | exact HB.out))) : w.heap.size ≤ gb569)); clear HB; have HB := n0_; have BK569 := n1_; have GW569 := n2_; have GE569 := n3_; clear n0_ n1_ n2_ n3_; clear hb hbox hg) | ((with_reducible refine gate_dst (N := 3) rfl ?_); (try (refine gate_guard (by rfl) ?_; dsimp only)); refine box_event ?hg (N := 3) ?hd (cs := #[.int .i64 a1_0, .int .i64 a1_1, .int .i64 a1_2, .slice A1_3 l1_3.length c1_3]) (t := 26) ?hr ?_; (case hd => rfl); (case hg => rfl); (case hr => first | (go_simp; done) | (go_simp; rfl)); intro gb570 hg w5 hbox hb; have n0_ := Aside0.mk (blk_below (g := gb569) (o := .cells #[.int .i64 a0_0, .int .i64 a0_1, .int .i64 a0_2, .slice A0_3 l0_3.length c0_3] 26 (0, 0)) (by (with_reducible repeat (first | refine blk_drewN ?_ _ | refine blk_drew ?_ | refine blk_alloc ?_ _)); exact BK569.out) hb); have n1_ := Aside0.mk (below_step (by repeat (first | (with_reducible first | exact HB.out | apply below_alloc | apply pw_below_drewN | apply below_drew1 | refine below_set ?_ GE569.out) | exact HB.out)) hb); have n2_ := Aside0.mk (hbox); have n3_ := Aside0.mk ((by rw [hg]; exact (below_size (by repeat (first | (with_reducible first | exact HB.out | apply below_alloc | apply pw_below_drewN | apply below_drew1 | refine below_set ?_ GE569.out) | exact HB.out))) : w.heap.size ≤ gb570)); have n4_ := Aside0.mk ((by rw [hg]; exact (below_size (by repeat (first | (with_reducible first | exact HB.out | apply below_alloc | apply pw_below_drewN | apply below_drew1 | refine below_set ?_ GE569.out) | exact HB.out))) : w.heap.size ≤ gb570)); have n5_ := Aside0.mk ((by rw [hg]; exact Nat.ne_of_lt (blk_lt (g := gb569) (o := .cells #[.int .i64 a0_0, .int .i64 a0_1, .int .i64 a0_2, .slice A0_3 l0_3.length c0_3] 26 (0, 0)) (by (with_reducible repeat (first | refine blk_drewN ?_ _ | refine blk_drew ?_ | refine blk_alloc ?_ _)); exact BK569.out)) : gb569 ≠ gb570)); have n6_ := Aside0.mk ((by rw [hg]; exact Nat.ne_of_gt (blk_lt (g := gb569) (o := .cells #[.int .i64 a0_0, .int .i64 a0_1, .int .i64 a0_2, .slice A0_3 l0_3.length c0_3] 26 (0, 0)) (by (with_reducible repeat (first | refine blk_drewN ?_ _ | refine blk_drew ?_ | refine blk_alloc ?_ _)); exact BK569.out)) : gb570 ≠ gb569)); clear BK569; clear HB; have BK569 := n0_; have HB := n1_; have BK570 := n2_; have GW570 := n3_; have GE570 := n4_; have NB569_570 := n5_; have NB570_569 := n6_; clear n0_ n1_ n2_ n3_ n4_ n5_ n6_; clear hb hbox hg)); go_upto_region 1 with (first | ((with_reducible refine gate_dst (N := 2) rfl ?_); (try (refine gate_guard (by rfl) ?_; dsimp only)); refine box_event ?hg (N := 2) ?hd (cs := #[.int .i64 a0_0, .int .i64 a0_1, .int .i64 a0_2, .slice A0_3 l0_3.length c0_3]) (t := 26) ?hr ?_; (case hd => rfl); (case hg => rfl); (case hr => first | (go_simp; done) | (go_simp; rfl)); intro gb569 hg w4 hbox hb; have n0_ := Aside0.mk (below_step (by repeat (first | (with_reducible first | exact HB.out | apply below_alloc | apply pw_below_drewN | apply below_drew1) | exact HB.out)) hb); have n1_ := Aside0.mk (hbox); have n2_ := Aside0.mk ((by rw [hg]; exact (below_size (by repeat (first | (with_reducible first | exact HB.out | apply below_alloc | apply pw_below_drewN | apply below_drew1) | exact HB.out))) : w.heap.size ≤ gb569)); have n3_ := Aside0.mk ((by rw [hg]; exact (below_size (by repeat (first | (with_reducible first | exact HB.out | apply below_alloc | apply pw_below_drewN | apply below_drew1) | exact HB.out))) : w.heap.size ≤ gb569)); clear HB; have HB := n0_; have BK569 := n1_; have GW569 := n2_; have GE569 := n3_; clear n0_ n1_ n2_ n3_; clear hb hbox hg) | ((with_reducible refine gate_dst (N := 3) rfl ?_); (try (refine gate_guard (by rfl) ?_; dsimp only)); refine box_event ?hg (N := 3) ?hd (cs := #[.int .i64 a1_0, .int .i64 a1_1, .int .i64 a1_2, .slice A1_3 l1_3.length c1_3]) (t := 26) ?hr ?_; (case hd => rfl); (case hg => rfl); (case hr => first | (go_simp; done) | (go_simp; rfl)); intro gb570 hg w5 hbox hb; have n0_ := Aside0.mk (blk_below (g := gb569) (o := .cells #[.int .i64 a0_0, .int .i64 a0_1, .int .i64 a0_2, .slice A0_3 l0_3.length c0_3] 26 (0, 0)) (by (with_reducible repeat (first | refine blk_drewN ?_ _ | refine blk_drew ?_ | refine blk_alloc ?_ _)); exact BK569.out) hb); have n1_ := Aside0.mk (below_step (by repeat (first | (with_reducible first | exact HB.out | apply below_alloc | apply pw_below_drewN | apply below_drew1 | refine below_set ?_ GE569.out) | exact HB.out)) hb); have n2_ := Aside0.mk (hbox); have n3_ := Aside0.mk ((by rw [hg]; exact (below_size (by repeat (first | (with_reducible first | exact HB.out | apply below_alloc | apply pw_below_drewN | apply below_drew1 | refine below_set ?_ GE569.out) | exact HB.out))) : w.heap.size ≤ gb570)); have n4_ := Aside0.mk ((by rw [hg]; exact (below_size (by repeat (first | (with_reducible first | exact HB.out | apply below_alloc | apply pw_below_drewN | apply below_drew1 | refine below_set ?_ GE569.out) | exact HB.out))) : w.heap.size ≤ gb570)); have n5_ := Aside0.mk ((by rw [hg]; exact Nat.ne_of_lt (blk_lt (g := gb569) (o := .cells #[.int .i64 a0_0, .int .i64 a0_1, .int .i64 a0_2, .slice A0_3 l0_3.length c0_3] 26 (0, 0)) (by (with_reducible repeat (first | refine blk_drewN ?_ _ | refine blk_drew ?_ | refine blk_alloc ?_ _)); exact BK569.out)) : gb569 ≠ gb570)); have n6_ := Aside0.mk ((by rw [hg]; exact Nat.ne_of_gt (blk_lt (g := gb569) (o := .cells #[.int .i64 a0_0, .int .i64 a0_1, .int .i64 a0_2, .slice A0_3 l0_3.length c0_3] 26 (0, 0)) (by (with_reducible repeat (first | refine blk_drewN ?_ _ | refine blk_drew ?_ | refine blk_alloc ?_ _)); exact BK569.out)) : gb570 ≠ gb569)); clear BK569; clear HB; have BK569 := n0_; have HB := n1_; have BK570 := n2_; have GW570 := n3_; have GE570 := n4_; have NB569_570 := n5_; have NB570_569 := n6_; clear n0_ n1_ n2_ n3_ n4_ n5_ n6_; clear hb hbox hg)))
  (try simp only [Act.put, List.setIfInBounds_toArray, List.set_cons_zero, List.set_cons_succ])
  go_cut [33] (fun v33 wc => ∃ (kq : Nat) (x33_2 : Bool), v33 = .bool x33_2 ∧ Aside0 (attestorref07_Same.j0 kq x33_2 a0_0 a0_1 a0_2 l0_3 a1_0 a1_1 a1_2 l1_3 = some r) ∧ Aside0 (kq ≤ k) ∧ Aside0 (wc.heap[gb569]? = some (.cells #[.int .i64 a0_0, .int .i64 a0_1, .int .i64 a0_2, (.slice A0_3 l0_3.length c0_3)] 26 (0, 0))) ∧ Aside0 (wc.heap[gb570]? = some (.cells #[.int .i64 a1_0, .int .i64 a1_1, .int .i64 a1_2, (.slice A1_3 l1_3.length c1_3)] 26 (0, 0))) ∧ Aside0 (Below w.heap.size w wc))
  case first =>
    have H := HC3.out
    clear HC3
    by_cases c6 : a0_0 = a1_0
    · rw [if_pos c6] at H
      have c6b0 : (a0_0 == a1_0) = true := beq_iff_eq.mpr c6
      have c6b1 : (a0_0 != a1_0) = false := bne_eq_false_iff_eq.mpr c6
      clear c6
      (first | rw [c6b0] | (simp only [i64_w, i32_w]; rw [c6b0]) | skip)
      by_cases c7 : a0_1 = a1_1
      · rw [if_pos c7] at H
        have c7b0 : (a0_1 == a1_1) = true := beq_iff_eq.mpr c7
        have c7b1 : (a0_1 != a1_1) = false := bne_eq_false_iff_eq.mpr c7
        clear c7
        by_cases c8 : a0_2 = a1_2
        · rw [if_pos c8] at H
          have c8b0 : (a0_2 == a1_2) = true := beq_iff_eq.mpr c8
          have c8b1 : (a0_2 != a1_2) = false := bne_eq_false_iff_eq.mpr c8
          clear c8
          have H' := Aside0.mk H
          clear H
          have hnb9 := NB569_570.out
          have hnc9 := NB570_569.out
          have hcz10_0 : w5.cell? ⟨gb569, 0, none⟩ = some (.int .i64 a0_0) := (blk_cell BK569.out 0).trans rfl
          have hcz10_1 : w5.cell? ⟨gb569, 1, none⟩ = some (.int .i64 a0_1) := (blk_cell BK569.out 1).trans rfl
          have hcz10_2 : w5.cell? ⟨gb569, 2, none⟩ = some (.int .i64 a0_2) := (blk_cell BK569.out 2).trans rfl
          have hcz10_3 : w5.cell? ⟨gb569, 3, none⟩ = some (.slice A0_3 l0_3.length c0_3) := (blk_cell BK569.out 3).trans rfl
          have hfz10_0 := blk_frozen BK569.out 0
          have hfz10_1 := blk_frozen BK569.out 1
          have hfz10_2 := blk_frozen BK569.out 2
          have hfz10_3 := blk_frozen BK569.out 3
          have hcz11_0 : w5.cell? ⟨gb570, 0, none⟩ = some (.int .i64 a1_0) := (blk_cell BK570.out 0).trans rfl
          have hcz11_1 : w5.cell? ⟨gb570, 1, none⟩ = some (.int .i64 a1_1) := (blk_cell BK570.out 1).trans rfl
          have hcz11_2 : w5.cell? ⟨gb570, 2, none⟩ = some (.int .i64 a1_2) := (blk_cell BK570.out 2).trans rfl
          have hcz11_3 : w5.cell? ⟨gb570, 3, none⟩ = some (.slice A1_3 l1_3.length c1_3) := (blk_cell BK570.out 3).trans rfl
          have hfz11_0 := blk_frozen BK570.out 0
          have hfz11_1 := blk_frozen BK570.out 1
          have hfz11_2 := blk_frozen BK570.out 2
          have hfz11_3 := blk_frozen BK570.out 3
          go_wp2
          repeat (go_quiet (fail); try go_wp2)
          go_meet
          case rel => exact ⟨_, (((l0_3.length : Int) != (l1_3.length : Int))), (by first | rfl | (simp; done) | (simp [*]; done) | (simp; rfl) | (simp; decide +kernel)), H', ⟨by first | omega | exact Nat.le_refl _⟩, ⟨by (with_reducible repeat (first | refine blk_drewN ?_ _ | refine blk_drew ?_ | refine blk_alloc ?_ _)); exact BK569.out⟩, ⟨by (with_reducible repeat (first | refine blk_drewN ?_ _ | refine blk_drew ?_ | refine blk_alloc ?_ _)); exact BK570.out⟩, ⟨by repeat (first | (with_reducible first | exact HB.out | apply below_alloc | apply pw_below_drewN | apply below_drew1 | refine below_set ?_ GE569.out | refine below_set ?_ GE570.out) | exact HB.out)⟩⟩
        · rw [if_neg c8] at H
          have c8b0 : (a0_2 == a1_2) = false := beq_eq_false_iff_ne.mpr c8
          have c8b1 : (a0_2 != a1_2) = true := bne_iff_ne.mpr c8
          have H' := Aside0.mk H
          clear H
          have hnb12 := NB569_570.out
          have hnc12 := NB570_569.out
          have hcz13_0 : w5.cell? ⟨gb569, 0, none⟩ = some (.int .i64 a0_0) := (blk_cell BK569.out 0).trans rfl
          have hcz13_1 : w5.cell? ⟨gb569, 1, none⟩ = some (.int .i64 a0_1) := (blk_cell BK569.out 1).trans rfl
          have hcz13_2 : w5.cell? ⟨gb569, 2, none⟩ = some (.int .i64 a0_2) := (blk_cell BK569.out 2).trans rfl
          have hcz13_3 : w5.cell? ⟨gb569, 3, none⟩ = some (.slice A0_3 l0_3.length c0_3) := (blk_cell BK569.out 3).trans rfl
          have hfz13_0 := blk_frozen BK569.out 0
          have hfz13_1 := blk_frozen BK569.out 1
          have hfz13_2 := blk_frozen BK569.out 2
          have hfz13_3 := blk_frozen BK569.out 3
          have hcz14_0 : w5.cell? ⟨gb570, 0, none⟩ = some (.int .i64 a1_0) := (blk_cell BK570.out 0).trans rfl
          have hcz14_1 : w5.cell? ⟨gb570, 1, none⟩ = some (.int .i64 a1_1) := (blk_cell BK570.out 1).trans rfl
          have hcz14_2 : w5.cell? ⟨gb570, 2, none⟩ = some (.int .i64 a1_2) := (blk_cell BK570.out 2).trans rfl
          have hcz14_3 : w5.cell? ⟨gb570, 3, none⟩ = some (.slice A1_3 l1_3.length c1_3) := (blk_cell BK570.out 3).trans rfl
          have hfz14_0 := blk_frozen BK570.out 0
          have hfz14_1 := blk_frozen BK570.out 1
          have hfz14_2 := blk_frozen BK570.out 2
          have hfz14_3 := blk_frozen BK570.out 3
          go_wp2
          repeat (go_quiet (fail); try go_wp2)
          go_meet
          case rel => exact ⟨_, (true), (by first | rfl | (simp; done) | (simp [*]; done) | (simp; rfl) | (simp; decide +kernel)), H', ⟨by first | omega | exact Nat.le_refl _⟩, ⟨by (with_reducible repeat (first | refine blk_drewN ?_ _ | refine blk_drew ?_ | refine blk_alloc ?_ _)); exact BK569.out⟩, ⟨by (with_reducible repeat (first | refine blk_drewN ?_ _ | refine blk_drew ?_ | refine blk_alloc ?_ _)); exact BK570.out⟩, ⟨by repeat (first | (with_reducible first | exact HB.out | apply below_alloc | apply pw_below_drewN | apply below_drew1 | refine below_set ?_ GE569.out | refine below_set ?_ GE570.out) | exact HB.out)⟩⟩
      · rw [if_neg c7] at H
        have c7b0 : (a0_1 == a1_1) = false := beq_eq_false_iff_ne.mpr c7
        have c7b1 : (a0_1 != a1_1) = true := bne_iff_ne.mpr c7
        have H' := Aside0.mk H
        clear H
        have hnb15 := NB569_570.out
        have hnc15 := NB570_569.out
        have hcz16_0 : w5.cell? ⟨gb569, 0, none⟩ = some (.int .i64 a0_0) := (blk_cell BK569.out 0).trans rfl
        have hcz16_1 : w5.cell? ⟨gb569, 1, none⟩ = some (.int .i64 a0_1) := (blk_cell BK569.out 1).trans rfl
        have hcz16_2 : w5.cell? ⟨gb569, 2, none⟩ = some (.int .i64 a0_2) := (blk_cell BK569.out 2).trans rfl
        have hcz16_3 : w5.cell? ⟨gb569, 3, none⟩ = some (.slice A0_3 l0_3.length c0_3) := (blk_cell BK569.out 3).trans rfl
        have hfz16_0 := blk_frozen BK569.out 0
        have hfz16_1 := blk_frozen BK569.out 1
        have hfz16_2 := blk_frozen BK569.out 2
        have hfz16_3 := blk_frozen BK569.out 3
        have hcz17_0 : w5.cell? ⟨gb570, 0, none⟩ = some (.int .i64 a1_0) := (blk_cell BK570.out 0).trans rfl
        have hcz17_1 : w5.cell? ⟨gb570, 1, none⟩ = some (.int .i64 a1_1) := (blk_cell BK570.out 1).trans rfl
        have hcz17_2 : w5.cell? ⟨gb570, 2, none⟩ = some (.int .i64 a1_2) := (blk_cell BK570.out 2).trans rfl
        have hcz17_3 : w5.cell? ⟨gb570, 3, none⟩ = some (.slice A1_3 l1_3.length c1_3) := (blk_cell BK570.out 3).trans rfl
        have hfz17_0 := blk_frozen BK570.out 0
        have hfz17_1 := blk_frozen BK570.out 1
        have hfz17_2 := blk_frozen BK570.out 2
        have hfz17_3 := blk_frozen BK570.out 3
        go_wp2
        repeat (go_quiet (fail); try go_wp2)
        go_meet
        case rel => exact ⟨_, (true), (by first | rfl | (simp; done) | (simp [*]; done) | (simp; rfl) | (simp; decide +kernel)), H', ⟨by first | omega | exact Nat.le_refl _⟩, ⟨by (with_reducible repeat (first | refine blk_drewN ?_ _ | refine blk_drew ?_ | refine blk_alloc ?_ _)); exact BK569.out⟩, ⟨by (with_reducible repeat (first | refine blk_drewN ?_ _ | refine blk_drew ?_ | refine blk_alloc ?_ _)); exact BK570.out⟩, ⟨by repeat (first | (with_reducible first | exact HB.out | apply below_alloc | apply pw_below_drewN | apply below_drew1 | refine below_set ?_ GE569.out | refine below_set ?_ GE570.out) | exact HB.out)⟩⟩
    · rw [if_neg c6] at H
      have c6b0 : (a0_0 == a1_0) = false := beq_eq_false_iff_ne.mpr c6
      have c6b1 : (a0_0 != a1_0) = true := bne_iff_ne.mpr c6
      (first | rw [c6b0] | (simp only [i64_w, i32_w]; rw [c6b0]) | skip)
      have H' := Aside0.mk H
      clear H
      have hnb18 := NB569_570.out
      have hnc18 := NB570_569.out
      have hcz19_0 : w5.cell? ⟨gb569, 0, none⟩ = some (.int .i64 a0_0) := (blk_cell BK569.out 0).trans rfl
      have hcz19_1 : w5.cell? ⟨gb569, 1, none⟩ = some (.int .i64 a0_1) := (blk_cell BK569.out 1).trans rfl
      have hcz19_2 : w5.cell? ⟨gb569, 2, none⟩ = some (.int .i64 a0_2) := (blk_cell BK569.out 2).trans rfl
      have hcz19_3 : w5.cell? ⟨gb569, 3, none⟩ = some (.slice A0_3 l0_3.length c0_3) := (blk_cell BK569.out 3).trans rfl
      have hfz19_0 := blk_frozen BK569.out 0
      have hfz19_1 := blk_frozen BK569.out 1
      have hfz19_2 := blk_frozen BK569.out 2
      have hfz19_3 := blk_frozen BK569.out 3
      have hcz20_0 : w5.cell? ⟨gb570, 0, none⟩ = some (.int .i64 a1_0) := (blk_cell BK570.out 0).trans rfl
      have hcz20_1 : w5.cell? ⟨gb570, 1, none⟩ = some (.int .i64 a1_1) := (blk_cell BK570.out 1).trans rfl
      have hcz20_2 : w5.cell? ⟨gb570, 2, none⟩ = some (.int .i64 a1_2) := (blk_cell BK570.out 2).trans rfl
      have hcz20_3 : w5.cell? ⟨gb570, 3, none⟩ = some (.slice A1_3 l1_3.length c1_3) := (blk_cell BK570.out 3).trans rfl
      have hfz20_0 := blk_frozen BK570.out 0
      have hfz20_1 := blk_frozen BK570.out 1
      have hfz20_2 := blk_frozen BK570.out 2
      have hfz20_3 := blk_frozen BK570.out 3
      go_wp2
      repeat (go_quiet (fail); try go_wp2)
      go_meet
      case rel => exact ⟨_, (true), (by first | rfl | (simp; done) | (simp [*]; done) | (simp; rfl) | (simp; decide +kernel)), H', ⟨by first | omega | exact Nat.le_refl _⟩, ⟨by (with_reducible repeat (first | refine blk_drewN ?_ _ | refine blk_drew ?_ | refine blk_alloc ?_ _)); exact BK569.out⟩, ⟨by (with_reducible repeat (first | refine blk_drewN ?_ _ | refine blk_drew ?_ | refine blk_alloc ?_ _)); exact BK570.out⟩, ⟨by repeat (first | (with_reducible first | exact HB.out | apply below_alloc | apply pw_below_drewN | apply below_drew1 | refine below_set ?_ GE569.out | refine below_set ?_ GE570.out) | exact HB.out)⟩⟩
  case rest =>
    clear HC3
    try clear c1
    try clear p2
    try clear c6
    try clear c6b0
    try clear c6b1
    try clear c7
    try clear c7b0
    try clear c7b1
    try clear c8
    try clear c8b0
    try clear c8b1
    try clear c9
    try clear c12
    try clear c15
    try clear c18
    try clear hcz10_0
    try clear hcz10_1
    try clear hcz10_2
    try clear hcz10_3
    try clear hcz11_0
    try clear hcz11_1
    try clear hcz11_2
    try clear hcz11_3
    try clear hcz13_0
    try clear hcz13_1
    try clear hcz13_2
    try clear hcz13_3
    try clear hcz14_0
    try clear hcz14_1
    try clear hcz14_2
    try clear hcz14_3
    try clear hcz16_0
    try clear hcz16_1
    try clear hcz16_2
    try clear hcz16_3
    try clear hcz17_0
    try clear hcz17_1
    try clear hcz17_2
    try clear hcz17_3
    try clear hcz19_0
    try clear hcz19_1
    try clear hcz19_2
    try clear hcz19_3
    try clear hcz20_0
    try clear hcz20_1
    try clear hcz20_2
    try clear hcz20_3
    try clear hfz10_0
    try clear hfz10_1
    try clear hfz10_2
    try clear hfz10_3
    try clear hfz11_0
    try clear hfz11_1
    try clear hfz11_2
    try clear hfz11_3
    try clear hfz13_0
    try clear hfz13_1
    try clear hfz13_2
    try clear hfz13_3
    try clear hfz14_0
    try clear hfz14_1
    try clear hfz14_2
    try clear hfz14_3
    try clear hfz16_0
    try clear hfz16_1
    try clear hfz16_2
    try clear hfz16_3
    try clear hfz17_0
    try clear hfz17_1
    try clear hfz17_2
    try clear hfz17_3
    try clear hfz19_0
    try clear hfz19_1
    try clear hfz19_2
    try clear hfz19_3
    try clear hfz20_0
    try clear hfz20_1
    try clear hfz20_2
    try clear hfz20_3
    obtain ⟨kq, x33_2, rfl, HA, HJ2, BK569, BK570, HB⟩ := hcut
    cases kq with
    | zero => exact absurd HA.out (by simp [attestorref07_Same.j0])
    | succ kj2 =>
      have H := HA.out
      clear HA
      simp only [attestorref07_Same.j0] at H
      by_cases c21 : x33_2 = true
      · subst c21
        have H1 : (some false) = some r := by rw [if_pos rfl] at H; exact H
        clear H
        have H := H1
        clear H1
        obtain rfl := Option.some.inj H
        go_wp2
        repeat (go_quiet (fail); try go_wp2)
        go_ret
        exact ⟨by first | rfl | (simp [errW_none, errW_some] <;> rfl) | (simp [*, errW_none, errW_some] <;> rfl), by repeat (first | (with_reducible first | exact HB.out | apply below_alloc | apply pw_below_drewN | apply below_drew1 | refine below_set ?_ GE569.out | refine below_set ?_ GE570.out) | exact HB.out)⟩
      · replace c21 := Bool.eq_false_iff.mpr c21
        subst c21
        have H1 : (attestorref07_Same.l0 kj2 0 a0_0 a0_1 a0_2 l0_3 a1_0 a1_1 a1_2 l1_3) = some r := by rw [if_neg (show ¬ (false = true) by decide)] at H; exact H
        clear H
        have H := H1
        clear H1
        have H' := Aside0.mk H
        clear H
        go_wp2
        repeat (go_quiet (fail); try go_wp2)
        go_loopg [5] kj2 (fun kq v5 w' => ∃ (x5_2 : Int), v5 = .int .i64 x5_2 ∧ Aside0 (attestorref07_Same.l0 kq x5_2 a0_0 a0_1 a0_2 l0_3 a1_0 a1_1 a1_2 l1_3 = some r) ∧ Aside0 (kq ≤ kj2) ∧ Aside0 (w'.heap[gb569]? = some (.cells #[.int .i64 a0_0, .int .i64 a0_1, .int .i64 a0_2, (.slice A0_3 l0_3.length c0_3)] 26 (0, 0))) ∧ Aside0 (w'.heap[gb570]? = some (.cells #[.int .i64 a1_0, .int .i64 a1_1, .int .i64 a1_2, (.slice A1_3 l1_3.length c1_3)] 26 (0, 0))) ∧ Aside0 (Below w.heap.size w w'))
        case atStart => exact ⟨(0), (by first | rfl | (simp; done) | (simp [*]; done) | (simp; rfl) | (simp; decide +kernel)), H', ⟨Nat.le_refl _⟩, ⟨by (with_reducible repeat (first | refine blk_drewN ?_ _ | refine blk_drew ?_ | refine blk_alloc ?_ _)); exact BK569.out⟩, ⟨by (with_reducible repeat (first | refine blk_drewN ?_ _ | refine blk_drew ?_ | refine blk_alloc ?_ _)); exact BK570.out⟩, ⟨by repeat (first | (with_reducible first | exact HB.out | apply below_alloc | apply pw_below_drewN | apply below_drew1 | refine below_set ?_ GE569.out | refine below_set ?_ GE570.out) | exact HB.out)⟩⟩
        case round =>
          clear H'
          try clear c1
          try clear c2
          try clear p2
          try clear c6
          try clear c6b0
          try clear c6b1
          try clear c7
          try clear c7b0
          try clear c7b1
          try clear c8
          try clear c8b0
          try clear c8b1
          try clear c9
          try clear c12
          try clear c15
          try clear c18
          try clear c21
          try clear hcz10_0
          try clear hcz10_1
          try clear hcz10_2
          try clear hcz10_3
          try clear hcz11_0
          try clear hcz11_1
          try clear hcz11_2
          try clear hcz11_3
          try clear hcz13_0
          try clear hcz13_1
          try clear hcz13_2
          try clear hcz13_3
          try clear hcz14_0
          try clear hcz14_1
          try clear hcz14_2
          try clear hcz14_3
          try clear hcz16_0
          try clear hcz16_1
          try clear hcz16_2
          try clear hcz16_3
          try clear hcz17_0
          try clear hcz17_1
          try clear hcz17_2
          try clear hcz17_3
          try clear hcz19_0
          try clear hcz19_1
          try clear hcz19_2
          try clear hcz19_3
          try clear hcz20_0
          try clear hcz20_1
          try clear hcz20_2
          try clear hcz20_3
          try clear hfz10_0
          try clear hfz10_1
          try clear hfz10_2
          try clear hfz10_3
          try clear hfz11_0
          try clear hfz11_1
          try clear hfz11_2
          try clear hfz11_3
          try clear hfz13_0
          try clear hfz13_1
          try clear hfz13_2
          try clear hfz13_3
          try clear hfz14_0
          try clear hfz14_1
          try clear hfz14_2
          try clear hfz14_3
          try clear hfz16_0
          try clear hfz16_1
          try clear hfz16_2
          try clear hfz16_3
          try clear hfz17_0
          try clear hfz17_1
          try clear hfz17_2
          try clear hfz17_3
          try clear hfz19_0
          try clear hfz19_1
          try clear hfz19_2
          try clear hfz19_3
          try clear hfz20_0
          try clear hfz20_1
          try clear hfz20_2
          try clear hfz20_3
          try clear p2
          obtain ⟨x5_2, rfl, HA, HK2, BK569, BK570, HB⟩ := hrel
          cases gk with
          | zero => exact absurd HA.out (by simp [attestorref07_Same.l0])
          | succ k2 =>
            have H := HA.out
            clear HA
            simp only [attestorref07_Same.l0] at H
            by_cases c22 : x5_2 < (l0_3.length : Int)
            · rw [if_pos c22] at H
              have c22b0 : decide (x5_2 < (l0_3.length : Int)) = true := decide_eq_true c22
              clear c22
              by_cases c23 : 0 ≤ x5_2
              · rw [if_pos c23] at H
                have c23b0 : decide (0 ≤ x5_2) = true := decide_eq_true c23
                clear c23
                by_cases c24 : x5_2 < (l1_3.length : Int)
                · rw [if_pos c24] at H
                  have c24b0 : decide (x5_2 < (l1_3.length : Int)) = true := decide_eq_true c24
                  clear c24
                  replace H := Option.bind_eq_some_iff.mp H
                  obtain ⟨t573, A250, H⟩ := H
                  replace H : (if t573 = true then (attestorref07_Same.l0 k2 (wrap64 (x5_2 + 1)) a0_0 a0_1 a0_2 l0_3 a1_0 a1_1 a1_2 l1_3) else (some false)) = some r := H
                  have A25 := Aside0.mk A250
                  clear A250
                  by_cases c26 : t573 = true
                  · subst c26
                    have H1 : (attestorref07_Same.l0 k2 (wrap64 (x5_2 + 1)) a0_0 a0_1 a0_2 l0_3 a1_0 a1_1 a1_2 l1_3) = some r := by rw [if_pos rfl] at H; exact H
                    clear H
                    have H := H1
                    clear H1
                    have H' := Aside0.mk H
                    clear H
                    have hnb27 := NB569_570.out
                    have hnc27 := NB570_569.out
                    have hcz28_0 : wr.cell? ⟨gb569, 0, none⟩ = some (.int .i64 a0_0) := (blk_cell BK569.out 0).trans rfl
                    have hcz28_1 : wr.cell? ⟨gb569, 1, none⟩ = some (.int .i64 a0_1) := (blk_cell BK569.out 1).trans rfl
                    have hcz28_2 : wr.cell? ⟨gb569, 2, none⟩ = some (.int .i64 a0_2) := (blk_cell BK569.out 2).trans rfl
                    have hcz28_3 : wr.cell? ⟨gb569, 3, none⟩ = some (.slice A0_3 l0_3.length c0_3) := (blk_cell BK569.out 3).trans rfl
                    have hfz28_0 := blk_frozen BK569.out 0
                    have hfz28_1 := blk_frozen BK569.out 1
                    have hfz28_2 := blk_frozen BK569.out 2
                    have hfz28_3 := blk_frozen BK569.out 3
                    have p571 : 0 ≤ (x5_2 : Int) := of_decide_eq_true (by first | (with_reducible assumption) | assumption)
                    have q571 : x5_2 < (l0_3.length : Int) := of_decide_eq_true (by first | (with_reducible assumption) | assumption)
                    obtain ⟨ad571, A571_0, c571_0, e571, hx571_0, hl571_0, hi571_0⟩ := at_L3 HR0_3.out x5_2 p571 q571
                    cases e571
                    replace hx571_0 := (HB.out.cell (World.block_lt_of_cell? w _ hx571_0)).trans hx571_0
                    have HR571_0 := Aside0.mk hi571_0
                    have HC571_0 := Aside0.mk hl571_0
                    clear hi571_0 hl571_0
                    replace p571 := eq_true p571
                    replace q571 := eq_true q571
                    have hcz29_0 : wr.cell? ⟨gb570, 0, none⟩ = some (.int .i64 a1_0) := (blk_cell BK570.out 0).trans rfl
                    have hcz29_1 : wr.cell? ⟨gb570, 1, none⟩ = some (.int .i64 a1_1) := (blk_cell BK570.out 1).trans rfl
                    have hcz29_2 : wr.cell? ⟨gb570, 2, none⟩ = some (.int .i64 a1_2) := (blk_cell BK570.out 2).trans rfl
                    have hcz29_3 : wr.cell? ⟨gb570, 3, none⟩ = some (.slice A1_3 l1_3.length c1_3) := (blk_cell BK570.out 3).trans rfl
                    have hfz29_0 := blk_frozen BK570.out 0
                    have hfz29_1 := blk_frozen BK570.out 1
                    have hfz29_2 := blk_frozen BK570.out 2
                    have hfz29_3 := blk_frozen BK570.out 3
                    have p572 : 0 ≤ (x5_2 : Int) := of_decide_eq_true (by first | (with_reducible assumption) | assumption)
                    have q572 : x5_2 < (l1_3.length : Int) := of_decide_eq_true (by first | (with_reducible assumption) | assumption)
                    obtain ⟨ad572, A572_0, c572_0, e572, hx572_0, hl572_0, hi572_0⟩ := at_L3 HR1_3.out x5_2 p572 q572
                    cases e572
                    replace hx572_0 := (HB.out.cell (World.block_lt_of_cell? w _ hx572_0)).trans hx572_0
                    have HR572_0 := Aside0.mk hi572_0
                    have HC572_0 := Aside0.mk hl572_0
                    clear hi572_0 hl572_0
                    replace p572 := eq_true p572
                    replace q572 := eq_true q572
                    go_wp2_with (first | (go_at_call 18; (with_reducible refine (attestorref07_Equal.calls k2 _ _ (rd_L3 l0_3 x5_2) _ _ (rd_L3 l1_3 x5_2) true _ ?side1 ?side2 ?side3 ?side4 A25.out).mono ?_); (case side1 => repeat (first | exact (Kd.C_below HR571_0.out HB.out) | (with_reducible refine Kd.C_alloc ?_ _) | (with_reducible refine Kd.C_drewN ?_ _) | (with_reducible refine Kd.C_drew ?_))); (case side2 => exact HC571_0.out); (case side3 => repeat (first | exact (Kd.C_below HR572_0.out HB.out) | (with_reducible refine Kd.C_alloc ?_ _) | (with_reducible refine Kd.C_drewN ?_ _) | (with_reducible refine Kd.C_drew ?_))); (case side4 => exact HC572_0.out); rintro e w' ⟨rfl, ⟨nd, rfl⟩⟩; (try first | exact ⟨rfl, _, World.drewN_drewN _ _ _⟩ | exact ⟨rfl, _, Eq.trans (World.drewN_drewN _ _ _) (congrArg (World.drewN _) (Nat.add_assoc _ _ _))⟩)))
                    repeat (go_quiet (first | (go_at_call 18; (with_reducible refine (attestorref07_Equal.calls k2 _ _ (rd_L3 l0_3 x5_2) _ _ (rd_L3 l1_3 x5_2) true _ ?side1 ?side2 ?side3 ?side4 A25.out).mono ?_); (case side1 => repeat (first | exact (Kd.C_below HR571_0.out HB.out) | (with_reducible refine Kd.C_alloc ?_ _) | (with_reducible refine Kd.C_drewN ?_ _) | (with_reducible refine Kd.C_drew ?_))); (case side2 => exact HC571_0.out); (case side3 => repeat (first | exact (Kd.C_below HR572_0.out HB.out) | (with_reducible refine Kd.C_alloc ?_ _) | (with_reducible refine Kd.C_drewN ?_ _) | (with_reducible refine Kd.C_drew ?_))); (case side4 => exact HC572_0.out); rintro e w' ⟨rfl, ⟨nd, rfl⟩⟩; (try first | exact ⟨rfl, _, World.drewN_drewN _ _ _⟩ | exact ⟨rfl, _, Eq.trans (World.drewN_drewN _ _ _) (congrArg (World.drewN _) (Nat.add_assoc _ _ _))⟩))); try go_wp2_with (first | (go_at_call 18; (with_reducible refine (attestorref07_Equal.calls k2 _ _ (rd_L3 l0_3 x5_2) _ _ (rd_L3 l1_3 x5_2) true _ ?side1 ?side2 ?side3 ?side4 A25.out).mono ?_); (case side1 => repeat (first | exact (Kd.C_below HR571_0.out HB.out) | (with_reducible refine Kd.C_alloc ?_ _) | (with_reducible refine Kd.C_drewN ?_ _) | (with_reducible refine Kd.C_drew ?_))); (case side2 => exact HC571_0.out); (case side3 => repeat (first | exact (Kd.C_below HR572_0.out HB.out) | (with_reducible refine Kd.C_alloc ?_ _) | (with_reducible refine Kd.C_drewN ?_ _) | (with_reducible refine Kd.C_drew ?_))); (case side4 => exact HC572_0.out); rintro e w' ⟨rfl, ⟨nd, rfl⟩⟩; (try first | exact ⟨rfl, _, World.drewN_drewN _ _ _⟩ | exact ⟨rfl, _, Eq.trans (World.drewN_drewN _ _ _) (congrArg (World.drewN _) (Nat.add_assoc _ _ _))⟩))))
                    go_roundg k2
                    case measure => have := HJ2.out; have := HK2.out; omega
                    case rel => exact ⟨(wrap64 (x5_2 + 1)), (by first | rfl | (simp; done) | (simp [*]; done) | (simp; rfl) | (simp; decide +kernel)), H', ⟨by have := HJ2.out; have := HK2.out; omega⟩, ⟨by (with_reducible repeat (first | refine blk_drewN ?_ _ | refine blk_drew ?_ | refine blk_alloc ?_ _)); exact BK569.out⟩, ⟨by (with_reducible repeat (first | refine blk_drewN ?_ _ | refine blk_drew ?_ | refine blk_alloc ?_ _)); exact BK570.out⟩, ⟨by repeat (first | (with_reducible first | exact HB.out | apply below_alloc | apply pw_below_drewN | apply below_drew1 | refine below_set ?_ GE569.out | refine below_set ?_ GE570.out) | exact HB.out)⟩⟩
                  · replace c26 := Bool.eq_false_iff.mpr c26
                    subst c26
                    have H1 : (some false) = some r := by rw [if_neg (show ¬ (false = true) by decide)] at H; exact H
                    clear H
                    have H := H1
                    clear H1
                    obtain rfl := Option.some.inj H
                    have hnb30 := NB569_570.out
                    have hnc30 := NB570_569.out
                    have hcz31_0 : wr.cell? ⟨gb569, 0, none⟩ = some (.int .i64 a0_0) := (blk_cell BK569.out 0).trans rfl
                    have hcz31_1 : wr.cell? ⟨gb569, 1, none⟩ = some (.int .i64 a0_1) := (blk_cell BK569.out 1).trans rfl
                    have hcz31_2 : wr.cell? ⟨gb569, 2, none⟩ = some (.int .i64 a0_2) := (blk_cell BK569.out 2).trans rfl
                    have hcz31_3 : wr.cell? ⟨gb569, 3, none⟩ = some (.slice A0_3 l0_3.length c0_3) := (blk_cell BK569.out 3).trans rfl
                    have hfz31_0 := blk_frozen BK569.out 0
                    have hfz31_1 := blk_frozen BK569.out 1
                    have hfz31_2 := blk_frozen BK569.out 2
                    have hfz31_3 := blk_frozen BK569.out 3
                    have p571 : 0 ≤ (x5_2 : Int) := of_decide_eq_true (by first | (with_reducible assumption) | assumption)
                    have q571 : x5_2 < (l0_3.length : Int) := of_decide_eq_true (by first | (with_reducible assumption) | assumption)
                    obtain ⟨ad571, A571_0, c571_0, e571, hx571_0, hl571_0, hi571_0⟩ := at_L3 HR0_3.out x5_2 p571 q571
                    cases e571
                    replace hx571_0 := (HB.out.cell (World.block_lt_of_cell? w _ hx571_0)).trans hx571_0
                    have HR571_0 := Aside0.mk hi571_0
                    have HC571_0 := Aside0.mk hl571_0
                    clear hi571_0 hl571_0
                    replace p571 := eq_true p571
                    replace q571 := eq_true q571
                    have hcz32_0 : wr.cell? ⟨gb570, 0, none⟩ = some (.int .i64 a1_0) := (blk_cell BK570.out 0).trans rfl
                    have hcz32_1 : wr.cell? ⟨gb570, 1, none⟩ = some (.int .i64 a1_1) := (blk_cell BK570.out 1).trans rfl
                    have hcz32_2 : wr.cell? ⟨gb570, 2, none⟩ = some (.int .i64 a1_2) := (blk_cell BK570.out 2).trans rfl
                    have hcz32_3 : wr.cell? ⟨gb570, 3, none⟩ = some (.slice A1_3 l1_3.length c1_3) := (blk_cell BK570.out 3).trans rfl
                    have hfz32_0 := blk_frozen BK570.out 0
                    have hfz32_1 := blk_frozen BK570.out 1
                    have hfz32_2 := blk_frozen BK570.out 2
                    have hfz32_3 := blk_frozen BK570.out 3
                    have p572 : 0 ≤ (x5_2 : Int) := of_decide_eq_true (by first | (with_reducible assumption) | assumption)
                    have q572 : x5_2 < (l1_3.length : Int) := of_decide_eq_true (by first | (with_reducible assumption) | assumption)
                    obtain ⟨ad572, A572_0, c572_0, e572, hx572_0, hl572_0, hi572_0⟩ := at_L3 HR1_3.out x5_2 p572 q572
                    cases e572
                    replace hx572_0 := (HB.out.cell (World.block_lt_of_cell? w _ hx572_0)).trans hx572_0
                    have HR572_0 := Aside0.mk hi572_0
                    have HC572_0 := Aside0.mk hl572_0
                    clear hi572_0 hl572_0
                    replace p572 := eq_true p572
                    replace q572 := eq_true q572
                    go_wp2_with (first | (go_at_call 18; (with_reducible refine (attestorref07_Equal.calls k2 _ _ (rd_L3 l0_3 x5_2) _ _ (rd_L3 l1_3 x5_2) false _ ?side1 ?side2 ?side3 ?side4 A25.out).mono ?_); (case side1 => repeat (first | exact (Kd.C_below HR571_0.out HB.out) | (with_reducible refine Kd.C_alloc ?_ _) | (with_reducible refine Kd.C_drewN ?_ _) | (with_reducible refine Kd.C_drew ?_))); (case side2 => exact HC571_0.out); (case side3 => repeat (first | exact (Kd.C_below HR572_0.out HB.out) | (with_reducible refine Kd.C_alloc ?_ _) | (with_reducible refine Kd.C_drewN ?_ _) | (with_reducible refine Kd.C_drew ?_))); (case side4 => exact HC572_0.out); rintro e w' ⟨rfl, ⟨nd, rfl⟩⟩; (try first | exact ⟨rfl, _, World.drewN_drewN _ _ _⟩ | exact ⟨rfl, _, Eq.trans (World.drewN_drewN _ _ _) (congrArg (World.drewN _) (Nat.add_assoc _ _ _))⟩)))
                    repeat (go_quiet (first | (go_at_call 18; (with_reducible refine (attestorref07_Equal.calls k2 _ _ (rd_L3 l0_3 x5_2) _ _ (rd_L3 l1_3 x5_2) false _ ?side1 ?side2 ?side3 ?side4 A25.out).mono ?_); (case side1 => repeat (first | exact (Kd.C_below HR571_0.out HB.out) | (with_reducible refine Kd.C_alloc ?_ _) | (with_reducible refine Kd.C_drewN ?_ _) | (with_reducible refine Kd.C_drew ?_))); (case side2 => exact HC571_0.out); (case side3 => repeat (first | exact (Kd.C_below HR572_0.out HB.out) | (with_reducible refine Kd.C_alloc ?_ _) | (with_reducible refine Kd.C_drewN ?_ _) | (with_reducible refine Kd.C_drew ?_))); (case side4 => exact HC572_0.out); rintro e w' ⟨rfl, ⟨nd, rfl⟩⟩; (try first | exact ⟨rfl, _, World.drewN_drewN _ _ _⟩ | exact ⟨rfl, _, Eq.trans (World.drewN_drewN _ _ _) (congrArg (World.drewN _) (Nat.add_assoc _ _ _))⟩))); try go_wp2_with (first | (go_at_call 18; (with_reducible refine (attestorref07_Equal.calls k2 _ _ (rd_L3 l0_3 x5_2) _ _ (rd_L3 l1_3 x5_2) false _ ?side1 ?side2 ?side3 ?side4 A25.out).mono ?_); (case side1 => repeat (first | exact (Kd.C_below HR571_0.out HB.out) | (with_reducible refine Kd.C_alloc ?_ _) | (with_reducible refine Kd.C_drewN ?_ _) | (with_reducible refine Kd.C_drew ?_))); (case side2 => exact HC571_0.out); (case side3 => repeat (first | exact (Kd.C_below HR572_0.out HB.out) | (with_reducible refine Kd.C_alloc ?_ _) | (with_reducible refine Kd.C_drewN ?_ _) | (with_reducible refine Kd.C_drew ?_))); (case side4 => exact HC572_0.out); rintro e w' ⟨rfl, ⟨nd, rfl⟩⟩; (try first | exact ⟨rfl, _, World.drewN_drewN _ _ _⟩ | exact ⟨rfl, _, Eq.trans (World.drewN_drewN _ _ _) (congrArg (World.drewN _) (Nat.add_assoc _ _ _))⟩))))
                    go_ret
                    exact ⟨by first | rfl | (simp [errW_none, errW_some] <;> rfl) | (simp [*, errW_none, errW_some] <;> rfl), by repeat (first | (with_reducible first | exact HB.out | apply below_alloc | apply pw_below_drewN | apply below_drew1 | refine below_set ?_ GE569.out | refine below_set ?_ GE570.out) | exact HB.out)⟩
                · rw [if_neg c24] at H
                  exact absurd H (by simp)
              · rw [if_neg c23] at H
                exact absurd H (by simp)
            · rw [if_neg c22] at H
              have c22b0 : decide (x5_2 < (l0_3.length : Int)) = false := decide_eq_false c22
              clear c22
              obtain rfl := Option.some.inj H
              have hnb33 := NB569_570.out
              have hnc33 := NB570_569.out
              have hcz34_0 : wr.cell? ⟨gb569, 0, none⟩ = some (.int .i64 a0_0) := (blk_cell BK569.out 0).trans rfl
              have hcz34_1 : wr.cell? ⟨gb569, 1, none⟩ = some (.int .i64 a0_1) := (blk_cell BK569.out 1).trans rfl
              have hcz34_2 : wr.cell? ⟨gb569, 2, none⟩ = some (.int .i64 a0_2) := (blk_cell BK569.out 2).trans rfl
              have hcz34_3 : wr.cell? ⟨gb569, 3, none⟩ = some (.slice A0_3 l0_3.length c0_3) := (blk_cell BK569.out 3).trans rfl
              have hfz34_0 := blk_frozen BK569.out 0
              have hfz34_1 := blk_frozen BK569.out 1
              have hfz34_2 := blk_frozen BK569.out 2
              have hfz34_3 := blk_frozen BK569.out 3
              go_wp2
              repeat (go_quiet (fail); try go_wp2)
              go_ret
              exact ⟨by first | rfl | (simp [errW_none, errW_some] <;> rfl) | (simp [*, errW_none, errW_some] <;> rfl), by repeat (first | (with_reducible first | exact HB.out | apply below_alloc | apply pw_below_drewN | apply below_drew1 | refine below_set ?_ GE569.out | refine below_set ?_ GE570.out) | exact HB.out)⟩

end Go.Proofs.YtpnpmeogffodgaaDoor.Q
end
section
namespace Go.Proofs.YtpnpmeogffodgaaDoor.Q
open Go.RowKit Go.Proofs.YtpnpmeogffodgaaDoorW.PrintWords Go.Proofs.YtpnpmeogffodgaaDoorW.PrintLast Go.Proofs.YtpnpmeogffodgaaDoorW.PrintMore
open Go.Proofs.YtpnpmeogffodgaaDoor.Num
set_option linter.unusedVariables false
set_option linter.unusedSimpArgs false
theorem upS_set (f : Int) : ∀ (n : Nat) (l : List S36) (i : Nat) (d : S36), l.length ≤ n → i < 2 * (l.length / 2) → upS f (l.set i d) = (upS f l).set (i / 2) (nodeS f ((l.set i d).getD (2 * (i / 2)) z36) ((l.set i d).getD (2 * (i / 2) + 1) z36))
  | n, [], i, d, _, h => by simp at h
  | n, [a], i, d, _, h => by simp at h
  | 0, a :: b :: l, i, d, hn, h => by simp at hn
  | n + 1, a :: b :: l, 0, d, _, _ => by rw [List.set_cons_zero, upS, upS]; rfl
  | n + 1, a :: b :: l, 1, d, _, _ => by rw [List.set_cons_succ, List.set_cons_zero, upS, upS]; rfl
  | n + 1, a :: b :: l, i + 2, d, hn, h => by
    have ih := upS_set f n l i d (by simp at hn; omega) (by simp at h; omega)
    rw [List.set_cons_succ, List.set_cons_succ, upS, upS, ih, show (i + 2) / 2 = i / 2 + 1 by omega, List.set_cons_succ, show 2 * (i / 2 + 1) = 2 * (i / 2) + 2 by omega]
    simp
theorem mem_set_p {f : Int} {l : List S36} {i : Nat} {d : S36} (h : ∀ x ∈ l, pD f x) (hd : pD f d) : ∀ x ∈ l.set i d, pD f x := fun x hx => by
  rcases List.mem_or_eq_of_mem_set hx with hx | rfl
  · exact h x hx
  · exact hd
theorem repl_lvl {f : Int} (hv : 0 ≤ f ∧ f < 4) (c : Nat) : ∀ (n : Nat) (l : List S36) (i : Nat) (d0 d : S36) (p : Option (List S36)), n + c ≤ 18 → l.length = 2 ^ (n + c) → (∀ x ∈ l, pD f x) → pD f d → i < l.length → leafL f p i d0 = some d → replL f p (lvl f n l) i d0 = some (lvl f n (l.set i d))
  | 0, l, i, d0, d, p, hn, hl, h, hd, hi, hq => by
    have hb : 2 ^ (0 + c) ≤ 2 ^ 18 := Nat.pow_le_pow_right (by omega) hn
    rw [lvl, replL]
    refine bnd hq ?_
    rw [if_pos ⟨hi, by omega⟩]
    rfl
  | n + 1, l, i, d0, d, p, hn, hl, h, hd, hi, hq => by
    have hb : 2 ^ (n + 1 + c) ≤ 2 ^ 18 := Nat.pow_le_pow_right (by omega) hn
    have e2 : 2 ^ (n + 1 + c) = 2 * 2 ^ (n + c) := by rw [show n + 1 + c = (n + c) + 1 by omega, Nat.pow_succ]; omega
    have hp' := mem_set_p (i := i) h hd
    have hl' : (l.set i d).length = l.length := List.length_set
    have hu : (upS f l).length = 2 ^ (n + c) := by rw [upS_len f _ l (Nat.le_refl _), hl]; omega
    have m0 : (l.set i d).getD (2 * (i / 2)) z36 ∈ l.set i d := getD_mem (by omega)
    have m1 : (l.set i d).getD (2 * (i / 2) + 1) z36 ∈ l.set i d := getD_mem (by omega)
    obtain ⟨hq2, hpn⟩ := node_s hv _ _ (hp' _ m0).nn (hp' _ m1).nn
    have ih := repl_lvl hv c n (upS f l) (i / 2) d (nodeS f ((l.set i d).getD (2 * (i / 2)) z36) ((l.set i d).getD (2 * (i / 2) + 1) z36)) (some (l.set i d)) (by omega) hu (upL_s hv _ l (Nat.le_refl _) fun x hx => (h x hx).nn).2 hpn (by omega) (by
      simp only [leafL]
      rw [if_pos (by omega)]
      exact bnd hq2 rfl)
    rw [lvl, replL]
    refine bnd hq ?_
    rw [if_pos ⟨hi, by omega⟩]
    refine bnd ih ?_
    rw [lvl, upS_set f _ l i d (Nat.le_refl _) (by omega)]
theorem trepl_f {f : Int} (hv : 0 ≤ f ∧ f < 4) (n c k i : Nat) (l : List S36) (d : S36) (hk : n + 2 < k) (hn : n + c ≤ 18) (hl : l.length = 2 ^ (n + c)) (h : ∀ x ∈ l, pD f x) (hd : pD f d) (hi : i < l.length) : tree_Replace.f k f ((n + c : Nat) : Int) (c : Int) (lvl f n l) (i : Int) d.f0 d.f1 = some (f, ((n + c : Nat) : Int), (c : Int), lvl f n (l.set i d), 0) := by
  unfold tree_Replace.f
  refine bnd (tplace_f hv n c k i l hk hn hl h) ?_
  rw [if_pos hi, if_pos rfl]
  refine bnd (proper_f f _) ?_
  rw [all_ok (l := [(⟨d.f0, d.f1⟩ : S36)]) (fun x hx => by rw [List.mem_singleton.mp hx]; exact hd), if_pos rfl, if_pos ⟨Int.natCast_nonneg _, by rw [lvl_len]; omega, by rw [lvl_len]; omega⟩, Int.toNat_natCast]
  exact bnd (repl_lvl hv c n l i ⟨d.f0, d.f1⟩ d none hn hl h hd hi rfl) rfl
theorem same_l (f h c : Int) (ls : List (List S36)) (hb : ls.length ≤ 100) (hr : ∀ r ∈ ls, r.length ≤ 1000) : ∀ m j k, m + j = ls.length → m + 1001 < k → attestorref07_Same.l0 k (j : Int) f h c ls f h c ls = some true
  | _, _, 0, _, hk => by omega
  | 0, j, k + 1, hj, _ => by rw [attestorref07_Same.l0, if_neg (by omega)]
  | m + 1, j, k + 1, hj, hk => by
    have hrd : rd_L3 ls (j : Int) ∈ ls := by
      have hlt : j < ls.length := by omega
      have e : rd_L3 ls (j : Int) = ls[j] := by unfold rd_L3; rw [Int.toNat_natCast]; simp [List.getD, hlt]
      rw [e]; exact List.getElem_mem hlt
    rw [attestorref07_Same.l0, if_pos (by omega), if_pos (by omega), if_pos (by omega)]
    refine bnd (equal_self _ (hr _ hrd) k (by omega)) ?_
    rw [if_pos rfl, show wrap64 ((j : Int) + 1) = ((j + 1 : Nat) : Int) by unfold wrap64; omega]
    exact same_l f h c ls hb hr m (j + 1) k (by omega) (by omega)
theorem same_self (f h c : Int) (ls : List (List S36)) (hb : ls.length ≤ 100) (hr : ∀ r ∈ ls, r.length ≤ 1000) (k : Nat) (hk : 1200 < k) : attestorref07_Same.f k f h c ls f h c ls = some true := by
  obtain ⟨k, rfl⟩ : ∃ q, k = q + 1 := ⟨k - 1, by omega⟩
  unfold attestorref07_Same.f
  rw [if_pos rfl, if_pos rfl, if_pos rfl, bne_self_eq_false, attestorref07_Same.j0, if_neg (by decide)]
  exact same_l f h c ls hb hr ls.length 0 k rfl (by omega)
theorem lvl_rows (f : Int) (N : Nat) : ∀ (n : Nat) (l : List S36), l.length ≤ N → ∀ r ∈ lvl f n l, r.length ≤ N
  | 0, l, h => fun r hr => by rw [lvl] at hr; rw [List.mem_singleton.mp hr]; exact h
  | n + 1, l, h => fun r hr => by
    rw [lvl] at hr
    rcases List.mem_cons.mp hr with rfl | hr
    · exact h
    · exact lvl_rows f N n (upS f l) (by rw [upS_len f _ l (Nat.le_refl _)]; omega) r hr
end Go.Proofs.YtpnpmeogffodgaaDoor.Q
end
