/- Several texts in one, in build order. What they prove, each by its own first remark:
Written by our own copy of a printing program (a twelfth state) out of the translation. Not trusted: Lean checks it.
Of PTreeA what this claim needs.
Of PChecks what this claim needs.
Of PTreeB what this claim needs.
Of POpensT what this claim needs.
For all arguments attestorlaw07.TreeOpens returns true and leaves them as they were, where the package-level variables hold what the program's text lays (the card ties that): no other condition. -/
import Derived.Test.YtpnpmeogffodgaaDoorM2
import Derived.Test.YtpnpmeogffodgaaDoorM3
import Derived.Test.YtpnpmeogffodgaaDoorM4
import Derived.Test.YtpnpmeogffodgaaDoorCards
import Derived.Test.YtpnpmeogffodgaaDoorTie
import Derived.SevenTiedAt
import Derived.SizedLaws
import Derived.ShutString
import Derived.ChangeOld
import Derived.ProofKit
import Derived.Below
import Derived.OpenShut
section
namespace Go.Proofs.YtpnpmeogffodgaaDoor.Q
open Go.RowKit Go.Proofs.YtpnpmeogffodgaaDoorW.PrintWords Go.Proofs.YtpnpmeogffodgaaDoorW.PrintLast Go.Proofs.YtpnpmeogffodgaaDoorW.PrintMore
attribute [local go_sem] max2_int min2_int max_two min_two max_three min_three max_four min_four run_store_fnV run_store_fnc run_store_nfn   -- for this text's walks alone
set_option linter.unusedVariables false
set_option linter.unusedSimpArgs false

/-! ### tree_Climb: function 24 -/
def tree_Climb.f (a0 : Int) (a1 : Int) (a2_0 : Int) (a2_1 : Int) (l3 : List (S36)) : Option (Int × Int) := (tree_opens.f a0 a1 a2_0 a2_1 l3).bind fun t227 => (if t227 = true then ((tree_climb.f a0 a1 a2_0 a2_1 l3).bind fun bt228 => (some (bt228.1, bt228.2))) else (some (0, 0)))
set_option maxHeartbeats 8000000 in
set_option maxRecDepth 100000 in
theorem tree_Climb.calls (a0 : Int) (a1 : Int) (a2_0 : Int) (a2_1 : Int) (A3 : Option Addr) (c3 : Nat) (l3 : List (S36)) (r1 : Int) (r2 : Int) (w : World) (hr3 : Kd.C k36 w A3 l3.length l3) (hc3 : l3.length ≤ c3) (hrG : GL w) (h : tree_Climb.f a0 a1 a2_0 a2_1 l3 = some (r1, r2)) :
  Calls Tryd.prog 24 #[.int .i64 a0, .int .i64 a1, .agg #[.int .u64 a2_0, .int .u64 a2_1], .slice A3 l3.length c3] w fun e w' => e = .returned (.agg #[.int .u64 r1, .int .u64 r2]) ∧ Below w.heap.size w w' := by
 have hu36 := Tryd.underlying36
 have HRG := Aside0.mk hrG
 clear hrG
 have HR3 := Aside0.mk hr3
 have HC3 := Aside0.mk hc3
 clear hr3 hc3
 have HB := Aside0.mk (Below.refl w.heap.size w)
 have H : ((tree_opens.f a0 a1 a2_0 a2_1 l3).bind fun t227 => (if t227 = true then ((tree_climb.f a0 a1 a2_0 a2_1 l3).bind fun bt228 => (some (bt228.1, bt228.2))) else (some (0, 0)))) = some (r1, r2) := h
 clear h
 replace H := Option.bind_eq_some_iff.mp H
 obtain ⟨t227, A50, H⟩ := H
 have A5 := Aside0.mk A50
 clear A50
 by_cases c6 : t227 = true
 ·subst c6
  have H1 : ((tree_climb.f a0 a1 a2_0 a2_1 l3).bind fun bt228 => (some (bt228.1, bt228.2))) = some (r1, r2) := by rw [if_pos rfl] at H; exact H
  clear H
  have H := H1
  clear H1
  replace H := Option.bind_eq_some_iff.mp H
  obtain ⟨⟨t228, t229⟩, A70, H⟩ := H
  replace H : (some (t228, t229)) = some (r1, r2) := H
  have A7 := Aside0.mk A70
  clear A70
  simp only [Option.some.injEq, Prod.mk.injEq] at H
  obtain ⟨rfl, rfl⟩ := H
  go_enter Tryd.func24, Tryd.ntmps24
  go_wp2_with (first | ((with_reducible refine gate_dst (N := 6) rfl ?_); refine box_event ?hg (N := 6) ?hd (cs := #[.int .u64 a2_0, .int .u64 a2_1]) (t := 36) ?hr ?_; (case hd => rfl); (case hg => rfl); (case hr => first | (go_simp; done) | (go_simp; rfl)); intro g225 hg w8 hbox hb; have n0_ := Aside0.mk (below_step (by repeat (first | (with_reducible first | exact HB.out | apply below_alloc | apply pw_below_drewN | apply below_drew1) | exact HB.out)) hb); have n1_ := Aside0.mk (hbox); have n2_ := Aside0.mk ((by rw [hg]; exact (below_size (by repeat (first | (with_reducible first | exact HB.out | apply below_alloc | apply pw_below_drewN | apply below_drew1) | exact HB.out))) : w.heap.size ≤ g225)); have n3_ := Aside0.mk ((by rw [hg]; exact (below_size (by repeat (first | (with_reducible first | exact HB.out | apply below_alloc | apply pw_below_drewN | apply below_drew1) | exact HB.out))) : w.heap.size ≤ g225)); clear HB; have HB := n0_; have B225 := n1_; have GW225 := n2_; have GE225 := n3_; clear n0_ n1_ n2_ n3_; clear hb hbox hg) | ((with_reducible refine gate_dst (N := 8) rfl ?_); refine box_event ?hg (N := 8) ?hd (cs := #[.int .u64 0, .int .u64 0]) (t := 36) ?hr ?_; (case hd => rfl); (case hg => rfl); (case hr => first | (go_simp; done) | (go_simp; rfl)); intro g226 hg w9 hbox hb; have n0_ := Aside0.mk (blk_below (g := g225) (o := .cells #[.int .u64 a2_0, .int .u64 a2_1] 36 (0, 0)) (by exact B225.out) hb); have n1_ := Aside0.mk (below_step (by repeat (first | (with_reducible first | exact HB.out | apply below_alloc | apply pw_below_drewN | apply below_drew1 | refine below_set ?_ GE225.out) | exact HB.out)) hb); have n2_ := Aside0.mk (hbox); have n3_ := Aside0.mk ((by rw [hg]; exact (below_size (by repeat (first | (with_reducible first | exact HB.out | apply below_alloc | apply pw_below_drewN | apply below_drew1 | refine below_set ?_ GE225.out) | exact HB.out))) : w.heap.size ≤ g226)); have n4_ := Aside0.mk ((by rw [hg]; exact (below_size (by repeat (first | (with_reducible first | exact HB.out | apply below_alloc | apply pw_below_drewN | apply below_drew1 | refine below_set ?_ GE225.out) | exact HB.out))) : w.heap.size ≤ g226)); have n5_ := Aside0.mk ((by rw [hg]; exact Nat.ne_of_lt (blk_lt (g := g225) (o := .cells #[.int .u64 a2_0, .int .u64 a2_1] 36 (0, 0)) (by exact B225.out)) : g225 ≠ g226)); have n6_ := Aside0.mk ((by rw [hg]; exact Nat.ne_of_gt (blk_lt (g := g225) (o := .cells #[.int .u64 a2_0, .int .u64 a2_1] 36 (0, 0)) (by exact B225.out)) : g226 ≠ g225)); clear B225; clear HB; have B225 := n0_; have HB := n1_; have B226 := n2_; have GW226 := n3_; have GE226 := n4_; have NB225_226 := n5_; have NB226_225 := n6_; clear n0_ n1_ n2_ n3_ n4_ n5_ n6_; clear hb hbox hg; have hnb10 := NB225_226.out; have hnc10 := NB226_225.out; have hcz11_0 : w9.cell? ⟨g225, 0, none⟩ = some (.int .u64 a2_0) := bq_ B225 0; have hcz11_1 : w9.cell? ⟨g225, 1, none⟩ = some (.int .u64 a2_1) := bq_ B225 1; have hfz11_0 := blk_frozen B225.out 0; have hfz11_1 := blk_frozen B225.out 1) | ((with_reducible refine gate_callee (f := 47) rfl ?_); refine goesL_ (some 13) rfl rfl Tryd.func47 (by kernel_rfl) rfl #[.int .i64 a0, .int .i64 a1, .agg #[.int .u64 a2_0, .int .u64 a2_1], .slice A3 l3.length c3] rfl (by (try simp only [List.map_toArray, List.map_cons, List.map_nil]); first | done | rfl | (go_simp; done)) ?_; (with_reducible refine (tree_opens.calls a0 a1 a2_0 a2_1 _ _ l3 true _ ?side1 ?side2 ?side3 A5.out).mono ?_); (case side1 => repeat (first | exact (Kd.C_below HR3.out HB.out) | (with_reducible refine Kd.C_alloc ?_ _) | (with_reducible refine Kd.C_drewN ?_ _) | (with_reducible refine Kd.C_drew ?_))); (case side2 => exact HC3.out); (case side3 => repeat (first | exact (GL.below HRG.out HB.out) | (with_reducible refine GL.alloc ?_ _) | (with_reducible refine GL.drewN ?_ _) | (with_reducible refine GL.drew ?_))); rintro e w12 ⟨rfl, hb⟩; refine ⟨_, rfl, ?_⟩; have n0_ := Aside0.mk (blk_below (g := g225) (o := .cells #[.int .u64 a2_0, .int .u64 a2_1] 36 (0, 0)) (by exact B225.out) hb); have n1_ := Aside0.mk (blk_below (g := g226) (o := .cells #[.int .u64 0, .int .u64 0] 36 (0, 0)) (by exact B226.out) hb); have n2_ := Aside0.mk (below_step (by repeat (first | (with_reducible first | exact HB.out | apply below_alloc | apply pw_below_drewN | apply below_drew1 | refine below_set ?_ GE225.out | refine below_set ?_ GE226.out) | exact HB.out)) hb); clear B225; clear B226; clear HB; have B225 := n0_; have B226 := n1_; have HB := n2_; clear n0_ n1_ n2_; (try clear hb); (try clear hb2); (try clear hk); (try clear hi); have hcz13_0 : w12.cell? ⟨g225, 0, none⟩ = some (.int .u64 a2_0) := bq_ B225 0; have hcz13_1 : w12.cell? ⟨g225, 1, none⟩ = some (.int .u64 a2_1) := bq_ B225 1; have hfz13_0 := blk_frozen B225.out 0; have hfz13_1 := blk_frozen B225.out 1) | ((with_reducible refine gate_callee (f := 48) rfl ?_); refine goesL_ (some 20) rfl rfl Tryd.func48 (by kernel_rfl) rfl #[.int .i64 a0, .int .i64 a1, .agg #[.int .u64 a2_0, .int .u64 a2_1], .slice A3 l3.length c3] rfl (by (try simp only [List.map_toArray, List.map_cons, List.map_nil]); first | done | rfl | (go_simp; done)) ?_; (with_reducible refine (tree_climb.calls a0 a1 a2_0 a2_1 _ _ l3 t228 t229 _ ?side1 ?side2 ?side3 A7.out).mono ?_); (case side1 => repeat (first | exact (Kd.C_below HR3.out HB.out) | (with_reducible refine Kd.C_alloc ?_ _) | (with_reducible refine Kd.C_drewN ?_ _) | (with_reducible refine Kd.C_drew ?_))); (case side2 => exact HC3.out); (case side3 => repeat (first | exact (GL.below HRG.out HB.out) | (with_reducible refine GL.alloc ?_ _) | (with_reducible refine GL.drewN ?_ _) | (with_reducible refine GL.drew ?_))); rintro e w14 ⟨rfl, hb⟩; refine ⟨_, rfl, ?_⟩; have n0_ := Aside0.mk (blk_below (g := g225) (o := .cells #[.int .u64 a2_0, .int .u64 a2_1] 36 (0, 0)) (by exact B225.out) hb); have n1_ := Aside0.mk (blk_below (g := g226) (o := .cells #[.int .u64 0, .int .u64 0] 36 (0, 0)) (by exact B226.out) hb); have n2_ := Aside0.mk (below_step (by repeat (first | (with_reducible first | exact HB.out | apply below_alloc | apply pw_below_drewN | apply below_drew1 | refine below_set ?_ GE225.out | refine below_set ?_ GE226.out) | exact HB.out)) hb); clear B225; clear B226; clear HB; have B225 := n0_; have B226 := n1_; have HB := n2_; clear n0_ n1_ n2_; (try clear hb); (try clear hb2); (try clear hk); (try clear hi); have hcz15_0 : w14.cell? ⟨g226, 0, none⟩ = some (.int .u64 0) := bq_ B226 0; have hcz15_1 : w14.cell? ⟨g226, 1, none⟩ = some (.int .u64 0) := bq_ B226 1; have hfz15_0 := blk_frozen B226.out 0; have hfz15_1 := blk_frozen B226.out 1))
  refine bodyPost_ret (results_cell_row rfl _ _ g226 36 #[.int .u64 t228, .int .u64 t229] (0, 0) _ rfl (by refine blk_put (cs := #[.int .u64 t228, .int .u64 0]) ?_ 1 _ rfl; refine blk_put (cs := #[.int .u64 0, .int .u64 0]) ?_ 0 _ rfl; exact B226.out) Tryd.underlying36 rfl (by kernel_rfl)) rfl ?_
  exact ⟨by first | rfl | (simp [errW_none, errW_some] <;> rfl) | (simp [*, errW_none, errW_some] <;> rfl), by repeat (first | (with_reducible first | exact HB.out | apply below_alloc | apply pw_below_drewN | apply below_drew1 | refine below_set ?_ GE225.out | refine below_set ?_ GE226.out) | exact HB.out)⟩
 ·replace c6 := Bool.eq_false_iff.mpr c6
  subst c6
  have H1 : (some (0, 0)) = some (r1, r2) := by rw [if_neg (show ¬ (false = true) by decide)] at H; exact H
  clear H
  have H := H1
  clear H1
  simp only [Option.some.injEq, Prod.mk.injEq] at H
  obtain ⟨rfl, rfl⟩ := H
  go_enter Tryd.func24, Tryd.ntmps24
  go_wp2_with (first | ((with_reducible refine gate_dst (N := 6) rfl ?_); refine box_event ?hg (N := 6) ?hd (cs := #[.int .u64 a2_0, .int .u64 a2_1]) (t := 36) ?hr ?_; (case hd => rfl); (case hg => rfl); (case hr => first | (go_simp; done) | (go_simp; rfl)); intro g225 hg w16 hbox hb; have n0_ := Aside0.mk (below_step (by repeat (first | (with_reducible first | exact HB.out | apply below_alloc | apply pw_below_drewN | apply below_drew1) | exact HB.out)) hb); have n1_ := Aside0.mk (hbox); have n2_ := Aside0.mk ((by rw [hg]; exact (below_size (by repeat (first | (with_reducible first | exact HB.out | apply below_alloc | apply pw_below_drewN | apply below_drew1) | exact HB.out))) : w.heap.size ≤ g225)); have n3_ := Aside0.mk ((by rw [hg]; exact (below_size (by repeat (first | (with_reducible first | exact HB.out | apply below_alloc | apply pw_below_drewN | apply below_drew1) | exact HB.out))) : w.heap.size ≤ g225)); clear HB; have HB := n0_; have B225 := n1_; have GW225 := n2_; have GE225 := n3_; clear n0_ n1_ n2_ n3_; clear hb hbox hg) | ((with_reducible refine gate_dst (N := 8) rfl ?_); refine box_event ?hg (N := 8) ?hd (cs := #[.int .u64 0, .int .u64 0]) (t := 36) ?hr ?_; (case hd => rfl); (case hg => rfl); (case hr => first | (go_simp; done) | (go_simp; rfl)); intro g226 hg w17 hbox hb; have n0_ := Aside0.mk (blk_below (g := g225) (o := .cells #[.int .u64 a2_0, .int .u64 a2_1] 36 (0, 0)) (by exact B225.out) hb); have n1_ := Aside0.mk (below_step (by repeat (first | (with_reducible first | exact HB.out | apply below_alloc | apply pw_below_drewN | apply below_drew1 | refine below_set ?_ GE225.out) | exact HB.out)) hb); have n2_ := Aside0.mk (hbox); have n3_ := Aside0.mk ((by rw [hg]; exact (below_size (by repeat (first | (with_reducible first | exact HB.out | apply below_alloc | apply pw_below_drewN | apply below_drew1 | refine below_set ?_ GE225.out) | exact HB.out))) : w.heap.size ≤ g226)); have n4_ := Aside0.mk ((by rw [hg]; exact (below_size (by repeat (first | (with_reducible first | exact HB.out | apply below_alloc | apply pw_below_drewN | apply below_drew1 | refine below_set ?_ GE225.out) | exact HB.out))) : w.heap.size ≤ g226)); have n5_ := Aside0.mk ((by rw [hg]; exact Nat.ne_of_lt (blk_lt (g := g225) (o := .cells #[.int .u64 a2_0, .int .u64 a2_1] 36 (0, 0)) (by exact B225.out)) : g225 ≠ g226)); have n6_ := Aside0.mk ((by rw [hg]; exact Nat.ne_of_gt (blk_lt (g := g225) (o := .cells #[.int .u64 a2_0, .int .u64 a2_1] 36 (0, 0)) (by exact B225.out)) : g226 ≠ g225)); clear B225; clear HB; have B225 := n0_; have HB := n1_; have B226 := n2_; have GW226 := n3_; have GE226 := n4_; have NB225_226 := n5_; have NB226_225 := n6_; clear n0_ n1_ n2_ n3_ n4_ n5_ n6_; clear hb hbox hg; have hnb18 := NB225_226.out; have hnc18 := NB226_225.out; have hcz19_0 : w17.cell? ⟨g225, 0, none⟩ = some (.int .u64 a2_0) := bq_ B225 0; have hcz19_1 : w17.cell? ⟨g225, 1, none⟩ = some (.int .u64 a2_1) := bq_ B225 1; have hfz19_0 := blk_frozen B225.out 0; have hfz19_1 := blk_frozen B225.out 1) | ((with_reducible refine gate_callee (f := 47) rfl ?_); refine goesL_ (some 13) rfl rfl Tryd.func47 (by kernel_rfl) rfl #[.int .i64 a0, .int .i64 a1, .agg #[.int .u64 a2_0, .int .u64 a2_1], .slice A3 l3.length c3] rfl (by (try simp only [List.map_toArray, List.map_cons, List.map_nil]); first | done | rfl | (go_simp; done)) ?_; (with_reducible refine (tree_opens.calls a0 a1 a2_0 a2_1 _ _ l3 false _ ?side1 ?side2 ?side3 A5.out).mono ?_); (case side1 => repeat (first | exact (Kd.C_below HR3.out HB.out) | (with_reducible refine Kd.C_alloc ?_ _) | (with_reducible refine Kd.C_drewN ?_ _) | (with_reducible refine Kd.C_drew ?_))); (case side2 => exact HC3.out); (case side3 => repeat (first | exact (GL.below HRG.out HB.out) | (with_reducible refine GL.alloc ?_ _) | (with_reducible refine GL.drewN ?_ _) | (with_reducible refine GL.drew ?_))); rintro e w20 ⟨rfl, hb⟩; refine ⟨_, rfl, ?_⟩; have n0_ := Aside0.mk (blk_below (g := g225) (o := .cells #[.int .u64 a2_0, .int .u64 a2_1] 36 (0, 0)) (by exact B225.out) hb); have n1_ := Aside0.mk (blk_below (g := g226) (o := .cells #[.int .u64 0, .int .u64 0] 36 (0, 0)) (by exact B226.out) hb); have n2_ := Aside0.mk (below_step (by repeat (first | (with_reducible first | exact HB.out | apply below_alloc | apply pw_below_drewN | apply below_drew1 | refine below_set ?_ GE225.out | refine below_set ?_ GE226.out) | exact HB.out)) hb); clear B225; clear B226; clear HB; have B225 := n0_; have B226 := n1_; have HB := n2_; clear n0_ n1_ n2_; (try clear hb); (try clear hb2); (try clear hk); (try clear hi); have hcz21_0 : w20.cell? ⟨g226, 0, none⟩ = some (.int .u64 0) := bq_ B226 0; have hcz21_1 : w20.cell? ⟨g226, 1, none⟩ = some (.int .u64 0) := bq_ B226 1; have hfz21_0 := blk_frozen B226.out 0; have hfz21_1 := blk_frozen B226.out 1))
  refine bodyPost_ret (results_cell_row rfl _ _ g226 36 #[.int .u64 0, .int .u64 0] (0, 0) _ rfl (by refine blk_put (cs := #[.int .u64 0, .int .u64 0]) ?_ 1 _ rfl; refine blk_put (cs := #[.int .u64 0, .int .u64 0]) ?_ 0 _ rfl; exact B226.out) Tryd.underlying36 rfl (by kernel_rfl)) rfl ?_
  exact ⟨by first | rfl | (simp [errW_none, errW_some] <;> rfl) | (simp [*, errW_none, errW_some] <;> rfl), by repeat (first | (with_reducible first | exact HB.out | apply below_alloc | apply pw_below_drewN | apply below_drew1 | refine below_set ?_ GE225.out | refine below_set ?_ GE226.out) | exact HB.out)⟩

/-! ### attestorref01_Valid: function 42 -/
def attestorref01_Valid.f (a0 : Int) : Option (Bool) := if a0 ≥ 0 then (some (decide (a0 ≤ 3))) else (some false)
set_option maxHeartbeats 8000000 in
set_option maxRecDepth 100000 in
theorem attestorref01_Valid.calls (a0 : Int) (r : Bool) (w : World) (h : attestorref01_Valid.f a0 = some r) :
  Calls Tryd.prog 42 #[.int .i64 a0] w fun e w' => e = .returned (.bool r) ∧ Drawn0 w w' := by
 have H : (if a0 ≥ 0 then (some (decide (a0 ≤ 3))) else (some false)) = some r := h
 clear h
 by_cases c2 : a0 ≥ 0
 ·rw [if_pos c2] at H
  have c2b0 : decide (0 ≤ a0) = true := decide_eq_true c2
  clear c2
  obtain rfl := Option.some.inj H
  go_enter Tryd.func42, Tryd.ntmps42
  go_wp2
  go_ret
  exact ⟨by first | rfl | (simp; done) | (simp [*]; done), by repeat (first | exact Drawn0.refl _ | apply Drawn0.step)⟩
 ·rw [if_neg c2] at H
  have c2b0 : decide (0 ≤ a0) = false := decide_eq_false c2
  clear c2
  obtain rfl := Option.some.inj H
  go_enter Tryd.func42, Tryd.ntmps42
  go_wp2
  go_ret
  exact ⟨by first | rfl | (simp; done) | (simp [*]; done), by repeat (first | exact Drawn0.refl _ | apply Drawn0.step)⟩

/-! ### attestorref01_P: function 34 -/
def attestorref01_P.f (a0 : Int) : Option (Int) := if a0 = 0 then (some 97) else (if a0 = 1 then (some 257) else (if a0 = 2 then (some 12289) else (if a0 = 3 then (some 998244353) else (some 0))))
set_option maxHeartbeats 8000000 in
set_option maxRecDepth 100000 in
theorem attestorref01_P.calls (a0 : Int) (r : Int) (w : World) (h : attestorref01_P.f a0 = some r) :
  Calls Tryd.prog 34 #[.int .i64 a0] w fun e w' => e = .returned (.int .u64 r) ∧ Drawn0 w w' := by
 have H : (if a0 = 0 then (some 97) else (if a0 = 1 then (some 257) else (if a0 = 2 then (some 12289) else (if a0 = 3 then (some 998244353) else (some 0))))) = some r := h
 clear h
 by_cases c2 : a0 = 0
 ·rw [if_pos c2] at H
  have c2b0 : (a0 == 0) = true := beq_iff_eq.mpr c2
  have c2b1 : (a0 != 0) = false := bne_eq_false_iff_eq.mpr c2
  clear c2
  obtain rfl := Option.some.inj H
  go_enter Tryd.func34, Tryd.ntmps34
  go_wp2
  go_ret
  exact ⟨by first | rfl | (simp; done) | (simp [*]; done), by repeat (first | exact Drawn0.refl _ | apply Drawn0.step)⟩
 ·rw [if_neg c2] at H
  have c2b0 : (a0 == 0) = false := beq_eq_false_iff_ne.mpr c2
  have c2b1 : (a0 != 0) = true := bne_iff_ne.mpr c2
  by_cases c3 : a0 = 1
  ·rw [if_pos c3] at H
   have c3b0 : (a0 == 1) = true := beq_iff_eq.mpr c3
   have c3b1 : (a0 != 1) = false := bne_eq_false_iff_eq.mpr c3
   clear c3
   obtain rfl := Option.some.inj H
   go_enter Tryd.func34, Tryd.ntmps34
   go_wp2
   go_ret
   exact ⟨by first | rfl | (simp; done) | (simp [*]; done), by repeat (first | exact Drawn0.refl _ | apply Drawn0.step)⟩
  ·rw [if_neg c3] at H
   have c3b0 : (a0 == 1) = false := beq_eq_false_iff_ne.mpr c3
   have c3b1 : (a0 != 1) = true := bne_iff_ne.mpr c3
   by_cases c4 : a0 = 2
   ·rw [if_pos c4] at H
    have c4b0 : (a0 == 2) = true := beq_iff_eq.mpr c4
    have c4b1 : (a0 != 2) = false := bne_eq_false_iff_eq.mpr c4
    clear c4
    obtain rfl := Option.some.inj H
    go_enter Tryd.func34, Tryd.ntmps34
    go_wp2
    go_ret
    exact ⟨by first | rfl | (simp; done) | (simp [*]; done), by repeat (first | exact Drawn0.refl _ | apply Drawn0.step)⟩
   ·rw [if_neg c4] at H
    have c4b0 : (a0 == 2) = false := beq_eq_false_iff_ne.mpr c4
    have c4b1 : (a0 != 2) = true := bne_iff_ne.mpr c4
    by_cases c5 : a0 = 3
    ·rw [if_pos c5] at H
     have c5b0 : (a0 == 3) = true := beq_iff_eq.mpr c5
     have c5b1 : (a0 != 3) = false := bne_eq_false_iff_eq.mpr c5
     clear c5
     obtain rfl := Option.some.inj H
     go_enter Tryd.func34, Tryd.ntmps34
     go_wp2
     go_ret
     exact ⟨by first | rfl | (simp; done) | (simp [*]; done), by repeat (first | exact Drawn0.refl _ | apply Drawn0.step)⟩
    ·rw [if_neg c5] at H
     have c5b0 : (a0 == 3) = false := beq_eq_false_iff_ne.mpr c5
     have c5b1 : (a0 != 3) = true := bne_iff_ne.mpr c5
     obtain rfl := Option.some.inj H
     go_enter Tryd.func34, Tryd.ntmps34
     go_wp2
     go_ret
     exact ⟨by first | rfl | (simp; done) | (simp [*]; done), by repeat (first | exact Drawn0.refl _ | apply Drawn0.step)⟩

end Go.Proofs.YtpnpmeogffodgaaDoor.Q
end
section
namespace Go.Proofs.YtpnpmeogffodgaaDoor.Q
open Go.RowKit Go.Proofs.YtpnpmeogffodgaaDoorW.PrintWords Go.Proofs.YtpnpmeogffodgaaDoorW.PrintLast Go.Proofs.YtpnpmeogffodgaaDoorW.PrintMore
open Go.Proofs.YtpnpmeogffodgaaDoor.Num
set_option linter.unusedVariables false
set_option linter.unusedSimpArgs false
def okD (p : Int) (d : S36) : Bool := decide (d.f0 < p) && decide (d.f1 < p)
theorem bad_ok (p : Int) (d : S36) : badD p d = !(okD p d) := by
  unfold badD okD
  by_cases h0 : d.f0 < p
  · by_cases h1 : d.f1 < p
    · simp [h0, h1, Int.not_le.mpr h0, Int.not_le.mpr h1]
    · simp [h0, h1, Int.not_le.mpr h0, Int.not_lt.mp h1]
  · simp [h0, Int.not_lt.mp h0]
theorem proper_f (f : Int) (l : List S36) : tree_proper.f f l = some (l.all (okD (fp f))) := by
  have h : ∀ l : List S36, (!(l.any (badD (fp f)))) = l.all (okD (fp f)) := by
    intro l
    induction l with
    | nil => rfl
    | cons d l ih => rw [List.any_cons, List.all_cons, Bool.not_or, ih, bad_ok, Bool.not_not]
  unfold tree_proper.f
  rw [show field_P.f f = some (fp f) from rfl, Option.bind_some, h]
theorem P_f (f : Int) : attestorref01_P.f f = some (fp f) := by
  unfold attestorref01_P.f fp
  repeat' split
  all_goals rfl
theorem lgI_neg (n : Int) (h : n < 1) : lgI n = -1 := lgI_none n fun k hk e => by have := Nat.pow_pos (n := k) (show 0 < 2 by decide); omega
theorem height_f (n : Int) : tree_height.f n = some (lgI n) := by
  unfold tree_height.f
  by_cases h : n < 1
  · rw [if_pos h, lgI_neg n h]
  · rw [if_neg h]
theorem bits_and_one (i : Int) : Go.bits .and .i64 i 1 = i % 2 := by
  have h1 : (BitVec.ofInt 64 1).toNat = 2 ^ 1 - 1 := by decide
  have key : (BitVec.ofInt 64 i &&& BitVec.ofInt 64 1).toNat = (i % ((2 ^ 64 : Nat) : Int)).toNat % 2 ^ 1 := by
    rw [BitVec.toNat_and, BitVec.toNat_ofInt, h1, Nat.and_two_pow_sub_one_eq_mod]
  show IntKind.i64.wrap ((BitVec.ofInt 64 i &&& BitVec.ofInt 64 1).toNat : Nat) = i % 2
  rw [key, IntKind.wrap_i64]
  omega
def nnD (d : S36) : Prop := 0 ≤ d.f0 ∧ 0 ≤ d.f1
set_option maxRecDepth 100000 in
theorem lives_true (k : Nat) (hk : 80 ≤ k) : attestorlaw07_lives.f k = some true :=
  at_rounds (g := fun k => attestorlaw07_lives.f k) attestorlaw07_lives.mono hk (by decide +kernel)
end Go.Proofs.YtpnpmeogffodgaaDoor.Q
end
section
namespace Go.Proofs.YtpnpmeogffodgaaDoor.Q
open Go.RowKit Go.Proofs.YtpnpmeogffodgaaDoorW.PrintWords Go.Proofs.YtpnpmeogffodgaaDoorW.PrintLast Go.Proofs.YtpnpmeogffodgaaDoorW.PrintMore
open Go.Proofs.YtpnpmeogffodgaaDoor.Num
set_option linter.unusedVariables false
set_option linter.unusedSimpArgs false
theorem valid_f (f : Int) : field_Valid.f f = some (decide (0 ≤ f ∧ f < 4)) := by
  by_cases h : 0 ≤ f ∧ f < 4
  · obtain ⟨p, g, e, D⟩ := fd_of h.1 h.2
    rw [valid_yes D.F, decide_eq_true h]
  · rw [valid_no h, decide_eq_false h]
def OpD (f i a b : Int) (l : List S36) : Prop := (0 ≤ f ∧ f < 4) ∧ 0 ≤ i ∧ l.length ≤ 18 ∧ okD (fp f) ⟨a, b⟩ = true ∧ l.all (okD (fp f)) = true
instance (f i a b : Int) (l : List S36) : Decidable (OpD f i a b l) := by unfold OpD; infer_instance
theorem opens_f (f i a b : Int) (l : List S36) : tree_opens.f f i a b l = some (decide (OpD f i a b l)) := by
  unfold tree_opens.f
  rw [valid_f, Option.bind_some]
  by_cases h1 : 0 ≤ f ∧ f < 4
  · rw [decide_eq_true h1, if_pos rfl]
    by_cases h2 : 0 ≤ i
    · rw [if_pos h2]
      by_cases h3 : l.length ≤ 18
      · rw [if_pos (by omega), proper_f, Option.bind_some]
        by_cases h4 : okD (fp f) ⟨a, b⟩ = true
        · rw [if_pos (by simp [h4]), proper_f, Option.bind_some]
          cases h5 : l.all (okD (fp f)) <;> simp [OpD, h1, h2, h3, h4, h5]
        · rw [if_neg (by simp [h4])]
          simp [OpD, h4]
      · rw [if_neg (by omega)]
        simp [OpD, h3]
    · rw [if_neg h2]
      simp [OpD, h2]
  · rw [decide_eq_false h1, if_neg (by decide)]
    simp only [OpD, h1, false_and, decide_false]
theorem shl_pow : ∀ j : Fin 40, shl .i64 1 ((j : Nat) : Int) = ((2 ^ (j : Nat) : Nat) : Int) := by decide +kernel
theorem shl_of (d : Nat) (h : d < 40) : shl .i64 1 (d : Int) = ((2 ^ d : Nat) : Int) := shl_pow ⟨d, h⟩
theorem shr_of (i : Int) (d : Nat) (h : d < 40) : shr .i64 i (d : Int) = i / ((2 ^ d : Nat) : Int) := by
  show i / 2 ^ min ((d : Int).toNat) 64 = _
  rw [Int.toNat_natCast, Nat.min_eq_left (by omega)]
  simp
end Go.Proofs.YtpnpmeogffodgaaDoor.Q
end
section
namespace Go.Proofs.YtpnpmeogffodgaaDoor.Q
open Go.RowKit Go.Proofs.YtpnpmeogffodgaaDoorW.PrintWords Go.Proofs.YtpnpmeogffodgaaDoorW.PrintLast Go.Proofs.YtpnpmeogffodgaaDoorW.PrintMore
attribute [local go_sem] max2_int min2_int max_two min_two max_three min_three max_four min_four run_store_fnV run_store_fnc run_store_nfn   -- for this text's walks alone
set_option linter.unusedVariables false
set_option linter.unusedSimpArgs false

abbrev z22_0_ : Array Bool := #[false, false, false, false, false, false, false, false, false, false, false]
abbrev z22_1_ : Array Bool := #[true, false, false, false, false, false, false, false, false, false, false]
abbrev z22_2_ : Array Bool := #[true, true, false, false, false, false, false, false, false, false, false]
abbrev z22_3_ : Array Bool := #[true, true, true, false, false, false, false, false, false, false, false]
abbrev z22_4_ : Array Bool := #[true, true, true, false, true, false, false, false, false, false, false]
abbrev z22_5_ : Array Bool := #[true, true, true, false, true, true, false, false, false, false, false]
abbrev z22_6_ : Array Bool := #[true, true, true, false, true, true, true, false, false, false, false]
abbrev z22_7_ : Array Bool := #[true, true, true, true, true, true, true, false, false, false, false]
abbrev z22_8_ : Array Bool := #[true, true, true, true, true, true, true, true, false, false, false]
abbrev z22_9_ : Array Bool := #[true, true, true, true, true, true, true, true, true, false, false]
abbrev z22_10_ : Array Bool := #[true, true, true, true, true, true, true, true, true, true, false]
abbrev z22_11_ : Array Bool := #[true, true, true, true, true, true, true, true, true, true, true]
abbrev z22_12_ : Array Bool := #[false, false, false, false, false, false, false, false, false, false, false, false, false, false, false]
abbrev z22_13_ : Array Bool := #[true, false, false, false, false, false, false, false, false, false, false, false, false, false, false]
abbrev z22_14_ : Array Bool := #[true, true, false, false, false, false, false, false, false, false, false, false, false, false, false]
abbrev z22_15_ : Array Bool := #[true, true, false, true, false, false, false, false, false, false, false, false, false, false, false]
abbrev z22_16_ : Array Bool := #[true, true, false, true, false, false, true, false, false, false, false, false, false, false, false]
abbrev z22_17_ : Array Bool := #[true, true, false, true, false, false, true, false, true, false, false, false, false, false, false]
abbrev z22_18_ : Array Bool := #[true, true, true, true, false, false, true, false, true, false, false, false, false, false, false]
abbrev z22_19_ : Array Bool := #[true, true, true, true, false, false, true, true, true, false, false, false, false, false, false]
abbrev z22_20_ : Array Bool := #[true, true, true, true, true, false, true, true, true, false, false, false, false, false, false]
abbrev z22_21_ : Array Bool := #[true, true, true, true, true, true, true, true, true, false, false, false, false, false, false]
abbrev z22_22_ : Array Bool := #[true, true, true, true, true, true, true, true, true, true, false, false, false, false, false]
abbrev z22_23_ : Array Bool := #[true, true, true, true, true, true, true, true, true, true, true, false, false, false, false]
abbrev z22_24_ : Array Bool := #[true, true, true, true, true, true, true, true, true, true, true, true, false, false, false]
abbrev z22_25_ : Array Bool := #[true, true, true, true, true, true, true, true, true, true, true, true, true, false, false]
abbrev z22_26_ : Array Bool := #[true, true, true, true, true, true, true, true, true, true, true, true, true, true, false]
abbrev z22_27_ : Array Bool := #[true, true, true, true, true, true, true, true, true, true, true, true, true, true, true]
/-! ### attestorlaw07_leaves: function 22 -/
def attestorlaw07_leaves.l0 : Nat → Int → Int → List Int → List (S36) → Int → Option ((List (S36)))
  | 0, _, _, _, _, _ => none
  | k + 1, x0, x1, x2, x7, x8 => if 0 ≤ x1 then (if x8 < (shl .i64 1 x1) then (if x8 < (x2.length : Int) then (if 0 ≤ x8 then ((attestorref01_P.f x0).bind fun t628 => (if t628 = 0 then (none) else ((attestorref01_P.f x0).bind fun t629 => (if t629 = 0 then (none) else (if x7.length < 8796093022208 then (attestorlaw07_leaves.l0 k x0 x1 x2 (x7 ++ [(⟨Int.tmod (rd x2 x8) t628, Int.tmod (IntKind.u64.wrap (Int.tdiv (rd x2 x8) 3)) t629⟩ : S36)]) (wrap64 (x8 + 1))) else (none)))))) else (none)) else ((attestorref01_P.f x0).bind fun t633 => (if t633 = 0 then (none) else ((attestorref01_P.f x0).bind fun t634 => (if t634 = 0 then (none) else (if x7.length < 8796093022208 then (attestorlaw07_leaves.l0 k x0 x1 x2 (x7 ++ [(⟨Int.tmod (IntKind.u64.wrap (x8)) t633, Int.tmod (IntKind.u64.wrap (wrap64 ((wrap64 (2 * x8)) + 1))) t634⟩ : S36)]) (wrap64 (x8 + 1))) else (none))))))) else (some x7)) else (none)
def attestorlaw07_leaves.f (k : Nat) (a0 : Int) (a1 : Int) (l2 : List Int) : Option ((List (S36))) := attestorlaw07_leaves.l0 k a0 a1 l2 ([] : List (S36)) 0
theorem attestorlaw07_leaves.mono_l : ∀ k, (∀ y0 y1 y2 y3 y4, LeO (attestorlaw07_leaves.l0 k y0 y1 y2 y3 y4) (attestorlaw07_leaves.l0 (k + 1) y0 y1 y2 y3 y4))
  | 0 => fun _ _ _ _ _ r h => by simp [attestorlaw07_leaves.l0] at h
  | k + 1 => by
    have ih0 := attestorlaw07_leaves.mono_l k
    · intro y0 y1 y2 y3 y4
      unfold attestorlaw07_leaves.l0
      repeat' first
      | (with_reducible exact ih0 _ _ _ _ _)
      | (with_reducible exact LeO.refl _)
      | (with_reducible exact LeO.none _)
      | (with_reducible refine LeO.ite ?_ ?_)
      | (with_reducible refine LeO.bind ?_ (fun _ => ?_))
      | exact ih0 _ _ _ _ _
      | exact LeO.none _
      | refine LeO.ite ?_ ?_
      | refine LeO.bind ?_ (fun _ => ?_)
theorem attestorlaw07_leaves.mono : ∀ a0 a1 a2 k, LeO (attestorlaw07_leaves.f k a0 a1 a2) (attestorlaw07_leaves.f (k + 1) a0 a1 a2) := by
  intro a0 a1 a2 k
  have ih0 := attestorlaw07_leaves.mono_l k
  unfold attestorlaw07_leaves.f
  repeat' first
      | (with_reducible exact ih0 _ _ _ _ _)
      | (with_reducible exact LeO.refl _)
      | (with_reducible exact LeO.none _)
      | (with_reducible refine LeO.ite ?_ ?_)
      | (with_reducible refine LeO.bind ?_ (fun _ => ?_))
      | exact ih0 _ _ _ _ _
      | exact LeO.none _
      | refine LeO.ite ?_ ?_
      | refine LeO.bind ?_ (fun _ => ?_)
def attestorlaw07_leaves.T7 : Bool × List (List Nat × List Nat) := (true, [([], []), ([], []), ([0, 1], [0, 1]), ([2], [2]), ([], []), ([], []), ([4, 5], [4, 5]), ([6], [6]), ([7], [7]), ([3, 8], [3, 8]), ([9, 0, 1, 2, 3, 4, 5, 6, 7, 8, 9], [9])])
def attestorlaw07_leaves.B7 : List Nat := [0, 0, 3, 7, 0, 0, 48, 112, 240, 511, 1023]
theorem attestorlaw07_leaves.tab7 : rtab .any (opsOf Tryd.f22 7) = attestorlaw07_leaves.T7 := by kernel_rfl
theorem attestorlaw07_leaves.bits7 : waitsOk attestorlaw07_leaves.T7.2 attestorlaw07_leaves.B7 = true := by kernel_rfl
def attestorlaw07_leaves.T8 : Bool × List (List Nat × List Nat) := (true, [([], []), ([], []), ([1], [1]), ([], []), ([3], [3]), ([2, 4], [2, 4]), ([], []), ([6], [6]), ([], []), ([8, 4], [8]), ([7, 9], [7, 9]), ([5, 10], [5, 10]), ([11], [11]), ([0, 12, 9], [0, 12]), ([13, 13, 0, 1, 2, 3, 4, 5, 6, 7, 8, 9, 10, 11, 12, 13], [0, 13])])
def attestorlaw07_leaves.B8 : List Nat := [0, 0, 2, 0, 8, 30, 0, 64, 0, 280, 984, 2046, 4094, 8191, 16383]
theorem attestorlaw07_leaves.tab8 : rtab .any (opsOf Tryd.f22 8) = attestorlaw07_leaves.T8 := by kernel_rfl
theorem attestorlaw07_leaves.bits8 : waitsOk attestorlaw07_leaves.T8.2 attestorlaw07_leaves.B8 = true := by kernel_rfl
set_option maxHeartbeats 8000000 in
set_option maxRecDepth 100000 in
theorem attestorlaw07_leaves.calls (k : Nat) (a0 : Int) (a1 : Int) (A2 : Option Addr) (c2 : Nat) (l2 : List Int) (r : List (S36)) (w : World) (hr2 : Kd.C (Kd.int .u64) w A2 l2.length l2) (hc2 : l2.length ≤ c2) (h : attestorlaw07_leaves.f k a0 a1 l2 = some r) :
  Calls Tryd.prog 22 #[.int .i64 a0, .int .i64 a1, .slice A2 l2.length c2] w fun e w' => ∃ v0_ : Value, e = .returned (v0_) ∧ Kd.R k36 36 w' w.heap.size (fun _ => True) v0_ r ∧ Below w.heap.size w w' := by
 have hu36 := Tryd.underlying36
 have HR2 := Aside0.mk hr2
 have HC2 := Aside0.mk hc2
 clear hr2 hc2
 have HB := Aside0.mk (Below.refl w.heap.size w)
 have H : (attestorlaw07_leaves.l0 k a0 a1 l2 ([] : List (S36)) 0) = some r := h
 clear h
 have H' := Aside0.mk H
 clear H
 go_enter Tryd.func22, Tryd.ntmps22
 go_wp2
 go_loopg [7, 8] k (fun kq v7 v8 w' => ∃ (x7_1 : List (S36)) (x8_1 : Int), v8 = .int .i64 x8_1 ∧ Aside0 (attestorlaw07_leaves.l0 kq a0 a1 l2 x7_1 x8_1 = some r) ∧ Aside0 (kq ≤ k) ∧ Aside0 (Kd.R k36 36 w' w.heap.size (fun _ => True) v7 x7_1) ∧ Aside0 (Below w.heap.size w w'))
 case atStart => exact ⟨(([] : List (S36))), (0), (by first | rfl | (simp; done) | (simp [*]; done) | (simp; rfl) | (simp; decide +kernel)), H', ⟨Nat.le_refl _⟩, ⟨by first | exact Kd.R_nil _ _ _ _ _ | exact Kd.N_nil _ _ _ _ _ | exact Kd.V_nil _ _ _ _ _ | exact Kd.Q_nil _ _ _ _ _ | exact Kd.S_nil _ _ _ _ _⟩, ⟨by repeat (first | (with_reducible first | exact HB.out | apply below_alloc | apply pw_below_drewN | apply below_drew1) | exact HB.out)⟩⟩
 case round =>
  clear H'
  try clear c2
  try clear p2
  obtain ⟨x7_1, x8_1, rfl, HA, HK1, HO_7, HB⟩ := hrel
  cases gk with
  | zero => exact absurd HA.out (by simp [attestorlaw07_leaves.l0])
  | succ k1 =>
   have H := HA.out
   clear HA
   simp only [attestorlaw07_leaves.l0] at H
   by_cases c4 : 0 ≤ a1
   ·rw [if_pos c4] at H
    have c4b0 := eq_true c4
    have c4b1 : decide (0 ≤ a1) = true := decide_eq_true c4
    clear c4
    obtain ⟨ji5, hji5⟩ : ∃ j_ : Int, (shl .i64 1 a1) = j_ := ⟨_, rfl⟩
    replace H : (if x8_1 < (ji5) then (if x8_1 < (l2.length : Int) then (if 0 ≤ x8_1 then ((attestorref01_P.f a0).bind fun t628 => (if t628 = 0 then (none) else ((attestorref01_P.f a0).bind fun t629 => (if t629 = 0 then (none) else (if x7_1.length < 8796093022208 then (attestorlaw07_leaves.l0 k1 a0 a1 l2 (x7_1 ++ [(⟨Int.tmod (rd l2 x8_1) t628, Int.tmod (IntKind.u64.wrap (Int.tdiv (rd l2 x8_1) 3)) t629⟩ : S36)]) (wrap64 (x8_1 + 1))) else (none)))))) else (none)) else ((attestorref01_P.f a0).bind fun t633 => (if t633 = 0 then (none) else ((attestorref01_P.f a0).bind fun t634 => (if t634 = 0 then (none) else (if x7_1.length < 8796093022208 then (attestorlaw07_leaves.l0 k1 a0 a1 l2 (x7_1 ++ [(⟨Int.tmod (IntKind.u64.wrap (x8_1)) t633, Int.tmod (IntKind.u64.wrap (wrap64 ((wrap64 (2 * x8_1)) + 1))) t634⟩ : S36)]) (wrap64 (x8_1 + 1))) else (none))))))) else (some x7_1)) = some r := by first | (rw [hji5] at H; exact H) | (simp only [hji5] at H ⊢; exact H)
    have hji5_ : (IntKind.i64.wrap (1 * 2 ^ min a1.toNat 64)) = ji5 := hji5
    have hji5z : a1 ≤ 64 → (IntKind.i64.wrap (1 * 2 ^ a1.toNat)) = ji5 := shl_small hji5
    have hji5u : (IntKind.i64.wrap (2 ^ min a1.toNat 64)) = ji5 := by have h_ := hji5_; rw [Int.one_mul] at h_; exact h_
    have hji5v : a1 ≤ 64 → (IntKind.i64.wrap (2 ^ a1.toNat)) = ji5 := fun hle_ => by have h_ := hji5z hle_; rw [Int.one_mul] at h_; exact h_
    have hji5y : (wrap64 (1 * 2 ^ min a1.toNat 64)) = ji5 := (i64_w _).symm.trans hji5_
    have hji5x : a1 ≤ 64 → (wrap64 (1 * 2 ^ a1.toNat)) = ji5 := fun h_ => (i64_w _).symm.trans (hji5z h_)
    by_cases c6 : x8_1 < (ji5)
    ·rw [if_pos c6] at H
     have c6b0 : decide (x8_1 < (ji5)) = true := decide_eq_true c6
     clear c6
     by_cases c7 : x8_1 < (l2.length : Int)
     ·rw [if_pos c7] at H
      have c7b0 : decide (x8_1 < (l2.length : Int)) = true := decide_eq_true c7
      clear c7
      by_cases c8 : 0 ≤ x8_1
      ·rw [if_pos c8] at H
       have c8b0 : decide (0 ≤ x8_1) = true := decide_eq_true c8
       clear c8
       replace H := Option.bind_eq_some_iff.mp H
       obtain ⟨t628, A90, H⟩ := H
       have A9 := Aside0.mk A90
       clear A90
       by_cases c10 : t628 = 0
       ·rw [if_pos c10] at H
        exact absurd H (by simp)
       ·rw [if_neg c10] at H
        have c10b0 : (t628 == 0) = false := beq_eq_false_iff_ne.mpr c10
        have c10b1 : (t628 != 0) = true := bne_iff_ne.mpr c10
        replace H := Option.bind_eq_some_iff.mp H
        obtain ⟨t629, A110, H⟩ := H
        have A11 := Aside0.mk A110
        clear A110
        by_cases c12 : t629 = 0
        ·rw [if_pos c12] at H
         exact absurd H (by simp)
        ·rw [if_neg c12] at H
         have c12b0 : (t629 == 0) = false := beq_eq_false_iff_ne.mpr c12
         have c12b1 : (t629 != 0) = true := bne_iff_ne.mpr c12
         by_cases c13 : x7_1.length < 8796093022208
         ·rw [if_pos c13] at H
          have LMc13 := Aside0.mk c13
          clear c13
          obtain ⟨y630, hy630⟩ : ∃ y_ : List (S36), y_ = (x7_1 ++ [(⟨Int.tmod (rd l2 x8_1) t628, Int.tmod (IntKind.u64.wrap (Int.tdiv (rd l2 x8_1) 3)) t629⟩ : S36)]) := ⟨_, rfl⟩
          replace H : (attestorlaw07_leaves.l0 k1 a0 a1 l2 y630 (wrap64 (x8_1 + 1))) = some r := by first | (rw [hy630]; with_reducible exact H) | (have H2_ := (Option.bind_some _ _).symm.trans H; rw [hy630]; with_reducible exact H2_) | (have H2_ := (Option.bind_some _ _).symm.trans H; with_reducible exact H2_) | with_reducible exact H | (rw [hy630]; exact H) | exact H
          have Ny630 := Aside0.mk hy630
          clear hy630
          have H' := Aside0.mk H
          clear H
          try go_wp2_with (first | ((with_reducible refine gate_dst (N := 9) rfl ?_); refine box_event ?hg (N := 9) ?hd (cs := #[.int .u64 0, .int .u64 0]) (t := 36) ?hr ?_; (case hd => rfl); (case hg => rfl); (case hr => first | (go_simp; done) | (go_simp; rfl)); intro g625 hg w14 hbox hb; have n0_ := Aside0.mk (Kd.R_below (Kd.R_elderB (by (with_reducible repeat (first | apply Kd.R_alloc | apply Kd.R_drewN | apply Kd.R_drew)); exact HO_7.out) g625 (Nat.le_of_eq hg.symm)) hb); have n1_ := Aside0.mk (below_step (by repeat (first | (with_reducible first | exact HB.out | apply below_alloc | apply pw_below_drewN | apply below_drew1) | exact HB.out)) hb); have n2_ := Aside0.mk (hbox); have n3_ := Aside0.mk ((by rw [hg]; exact (below_size (by repeat (first | (with_reducible first | exact HB.out | apply below_alloc | apply pw_below_drewN | apply below_drew1) | exact HB.out))) : w.heap.size ≤ g625)); have n4_ := Aside0.mk ((by rw [hg]; exact (below_size (by repeat (first | (with_reducible first | exact HB.out | apply below_alloc | apply pw_below_drewN | apply below_drew1) | exact HB.out))) : w.heap.size ≤ g625)); clear HO_7; clear HB; have HO_7 := n0_; have HB := n1_; have B625 := n2_; have GW625 := n3_; have GE625 := n4_; clear n0_ n1_ n2_ n3_ n4_; clear hb hbox hg; have hcz15_0 : w14.cell? ⟨g625, 0, none⟩ = some (.int .u64 0) := bq_ B625 0; have hcz15_1 : w14.cell? ⟨g625, 1, none⟩ = some (.int .u64 0) := bq_ B625 1; have hfz15_0 := blk_frozen B625.out 0; have hfz15_1 := blk_frozen B625.out 1))
          have n0_ : Aside0 (Kd.R k36 36 ((w14.setCell ⟨g625, 0, none⟩ (.int .u64 (IntKind.u64.wrap (x8_1)))).setCell ⟨g625, 1, none⟩ (.int .u64 (IntKind.u64.wrap (wrap64 ((wrap64 (2 * x8_1)) + 1))))) w.heap.size (fun k_ => k_ ≠ g625) u7 x7_1) := ⟨by (with_reducible repeat (first | apply Kd.R_alloc | apply Kd.R_drewN | apply Kd.R_drew)); exact Kd.R_mono (Kd.R_far (p := ⟨g625, 1, none⟩) (Kd.R_far (p := ⟨g625, 0, none⟩) (Kd.R_mono HO_7.out (fun k_ hk => (⟨hk, hk.2⟩ : _ ∧ k_ ≠ g625))) (fun _ hk => hk.2) (.int .u64 (IntKind.u64.wrap (x8_1)))) (fun _ hk => hk.2) (.int .u64 (IntKind.u64.wrap (wrap64 ((wrap64 (2 * x8_1)) + 1))))) (fun _ hk => hk.1.2)⟩
          have n1_ : Aside0 (((w14.setCell ⟨g625, 0, none⟩ (.int .u64 (IntKind.u64.wrap (x8_1)))).setCell ⟨g625, 1, none⟩ (.int .u64 (IntKind.u64.wrap (wrap64 ((wrap64 (2 * x8_1)) + 1))))).heap[g625]? = some (.cells #[.int .u64 (IntKind.u64.wrap (x8_1)), .int .u64 (IntKind.u64.wrap (wrap64 ((wrap64 (2 * x8_1)) + 1)))] 36 (0, 0))) := ⟨by refine blk_put (cs := #[.int .u64 (IntKind.u64.wrap (x8_1)), .int .u64 0]) ?_ 1 _ rfl; refine blk_put (cs := #[.int .u64 0, .int .u64 0]) ?_ 0 _ rfl; exact B625.out⟩
          have n2_ : Aside0 (Below w.heap.size w ((w14.setCell ⟨g625, 0, none⟩ (.int .u64 (IntKind.u64.wrap (x8_1)))).setCell ⟨g625, 1, none⟩ (.int .u64 (IntKind.u64.wrap (wrap64 ((wrap64 (2 * x8_1)) + 1)))))) := ⟨by repeat (first | (with_reducible first | exact HB.out | apply below_alloc | apply pw_below_drewN | apply below_drew1 | refine below_set ?_ GE625.out) | exact HB.out)⟩
          (try clear HO_7)
          (try clear B625)
          (try clear HB)
          generalize ((w14.setCell ⟨g625, 0, none⟩ (.int .u64 (IntKind.u64.wrap (x8_1)))).setCell ⟨g625, 1, none⟩ (.int .u64 (IntKind.u64.wrap (wrap64 ((wrap64 (2 * x8_1)) + 1))))) = w16 at n0_ n1_ n2_ ⊢
          have HO_7 := n0_
          have B625 := n1_
          have HB := n2_
          clear n0_ n1_ n2_
          have n0_ := Aside0.mk (Kd.R_drew HO_7.out)
          have n1_ := Aside0.mk (blk_drew B625.out)
          have n2_ := Aside0.mk (below_drew1 HB.out)
          clear HO_7
          clear B625
          clear HB
          have HO_7 := n0_
          have B625 := n1_
          have HB := n2_
          clear n0_ n1_ n2_
          have p626 : 0 ≤ (x8_1 : Int) := of_decide_eq_true (by first | (with_reducible assumption) | assumption)
          have q626 : x8_1 < (l2.length : Int) := of_decide_eq_true (by first | (with_reducible assumption) | assumption)
          obtain ⟨ad626, e626, hx626_0⟩ := Kd.at_int HR2.out x8_1 p626 q626
          have hw626_0 := hx626_0
          cases e626
          replace hx626_0 := (HB.out.cell (World.block_lt_of_cell? w _ hx626_0)).trans hx626_0
          replace p626 := eq_true p626
          replace q626 := eq_true q626
          have p627 : 0 ≤ (x8_1 : Int) := of_decide_eq_true (by first | (with_reducible assumption) | assumption)
          have q627 : x8_1 < (l2.length : Int) := of_decide_eq_true (by first | (with_reducible assumption) | assumption)
          obtain ⟨ad627, e627, hx627_0⟩ := Kd.at_int HR2.out x8_1 p627 q627
          have hw627_0 := hx627_0
          obtain rfl : ad626 = ad627 := (by injection e627)
          replace hx627_0 := (HB.out.cell (World.block_lt_of_cell? w _ hx627_0)).trans hx627_0
          replace p627 := eq_true p627
          replace q627 := eq_true q627
          refine start_ (n := 11) (S := fun w' => w'.cell? (ad626.add (x8_1).toNat) = some (.int .u64 (rd l2 x8_1)) ∧ w'.cell? (ad626.add (x8_1).toNat) = some (.int .u64 (rd l2 x8_1))) (ds := []) z22_0_ (by kernel_rfl) rfl rfl ⟨((HB.out.cell (World.block_lt_of_cell? w _ hw626_0)).trans hw626_0), ((HB.out.cell (World.block_lt_of_cell? w _ hw627_0)).trans hw627_0)⟩ (fun hL => ?_); refine with_tabW attestorlaw07_leaves.tab7 attestorlaw07_leaves.bits7 (fun T_ W_ => ?_)
          generalize w16.drew = w17 at HO_7 B625 HB hx626_0 hx627_0 hL ⊢
          refine pure_ (i := 0) (N := some 27) (v := ?_) (a' := ?_) z22_1_ rfl rfl (an_ T_) (fun _ _ _ h => h) (Or.inl ⟨by rfl, ?_⟩) ?_ ?_
          rotate_left; · intro w'; go_simp; with_reducible rfl
          rotate_left; · simp only [Act.put, sa_, sb_, sc_, i64_w, i32_w]; rfl
          refine pure_ (i := 1) (N := some 28) (v := ?_) (a' := ?_) z22_2_ rfl rfl (an_ T_) (fun _ _ _ h => h) (Or.inl ⟨by rfl, ?_⟩) ?_ ?_
          rotate_left; · intro w'; go_simp; with_reducible rfl
          rotate_left; · simp only [Act.put, sa_, sb_, sc_, i64_w, i32_w]; rfl
          refine pure_ (i := 2) (N := some 29) (v := ?_) (a' := ?_) z22_3_ rfl rfl (an_ T_) (fun _ _ _ h => h) (Or.inl ⟨by rfl, ?_⟩) ?_ ?_
          rotate_left; · intro w'; go_simp; with_reducible rfl
          rotate_left; · simp only [Act.put, sa_, sb_, sc_, i64_w, i32_w]; rfl
          refine pure_ (i := 4) (N := some 31) (v := ?_) (a' := ?_) z22_4_ rfl rfl (an_ T_) (fun _ _ _ h => h) (Or.inl ⟨by rfl, ?_⟩) ?_ ?_
          rotate_left; · intro w'; go_simp; with_reducible rfl
          rotate_left; · simp only [Act.put, sa_, sb_, sc_, i64_w, i32_w]; rfl
          refine pure_ (i := 5) (N := some 32) (v := ?_) (a' := ?_) z22_5_ rfl rfl (an_ T_) (fun _ _ _ h => h) (Or.inl ⟨by rfl, ?_⟩) ?_ ?_
          rotate_left; · intro w'; go_simp; with_reducible rfl
          rotate_left; · simp only [Act.put, sa_, sb_, sc_, i64_w, i32_w]; rfl
          refine pure_ (i := 6) (N := some 33) (v := ?_) (a' := ?_) z22_6_ rfl rfl (an_ T_) (fun _ _ _ h => h) (Or.inl ⟨by rfl, ?_⟩) ?_ ?_
          rotate_left; · intro w'; go_simp; with_reducible rfl
          rotate_left; · simp only [Act.put, sa_, sb_, sc_, i64_w, i32_w]; rfl
          refine take_ (i := 3) (N := some 30) (v := ?_) (a' := ?_) z22_7_ rfl rfl (tk_ T_ W_) (fun _ _ _ h => h) (Or.inl ⟨by rfl, ?_⟩) hL ?_ ?_
          rotate_left
          ·rintro w' ⟨s0, s1⟩
           go_simp
           with_reducible rfl
          rotate_left
          ·simp only [Act.put, sa_, sb_, sc_, i64_w, i32_w]
           rfl
          refine take_ (i := 7) (N := some 34) (v := ?_) (a' := ?_) z22_8_ rfl rfl (tk_ T_ W_) (fun _ _ _ h => h) (Or.inl ⟨by rfl, ?_⟩) hL ?_ ?_
          rotate_left
          ·rintro w' ⟨s0, s1⟩
           go_simp
           with_reducible rfl
          rotate_left
          ·simp only [Act.put, sa_, sb_, sc_, i64_w, i32_w]
           rfl
          refine pure_ (i := 8) (N := some 35) (v := ?_) (a' := ?_) z22_9_ rfl rfl (an_ T_) (fun _ _ _ h => h) (Or.inl ⟨by rfl, ?_⟩) ?_ ?_
          rotate_left; · intro w'; go_simp; with_reducible rfl
          rotate_left; · simp only [Act.put, sa_, sb_, sc_, i64_w, i32_w]; rfl
          refine pure_ (i := 9) (N := some 36) (v := ?_) (a' := ?_) z22_10_ rfl rfl (an_ T_) (fun _ _ _ h => h) (Or.inl ⟨by rfl, ?_⟩) ?_ ?_
          rotate_left; · intro w'; go_simp; with_reducible rfl
          rotate_left; · simp only [Act.put, sa_, sb_, sc_, i64_w, i32_w]; rfl
          refine one_ (i := 10) (N := none) z22_11_ rfl rfl (on_ T_) (by decide) (fun K hK => ?_)
          have hs18 : w17.cell? ⟨g625, 0, none⟩ = some (.int .u64 (IntKind.u64.wrap (x8_1))) := bq_ B625 0
          have hfs18 := blk_frozen B625.out 0
          have hs19 : w17.cell? ⟨g625, 1, none⟩ = some (.int .u64 (IntKind.u64.wrap (wrap64 ((wrap64 (2 * x8_1)) + 1)))) := bq_ B625 1
          have hfs19 := blk_frozen B625.out 1
          refine skip_ (w1 := ?_) (by rfl) rfl ?_ ?_
          rotate_left
          ·go_simp
           rfl
          refine hK.out _ _ ⟨((cell_far (p := ⟨g625, _, none⟩) (by first | exact Nat.ne_of_lt (Nat.lt_of_lt_of_le (by have := World.block_lt_of_cell? _ _ hw626_0; first | rwa [add_block] at this | exact this) GW625.out) | (rw [add_block]; exact Nat.ne_of_lt (Nat.lt_of_lt_of_le (by have := World.block_lt_of_cell? _ _ hw626_0; first | rwa [add_block] at this | exact this) GW625.out)) | (show (Addr.add _ _).block ≠ _; rw [add_block]; exact Nat.ne_of_lt (Nat.lt_of_lt_of_le (by have := World.block_lt_of_cell? _ _ hw626_0; first | rwa [add_block] at this | exact this) GW625.out)) | (dsimp only; exact Nat.ne_of_lt (Nat.lt_of_lt_of_le (by have := World.block_lt_of_cell? _ _ hw626_0; first | rwa [add_block] at this | exact this) GW625.out))) _).trans (((cell_far (p := ⟨g625, _, none⟩) (by first | exact Nat.ne_of_lt (Nat.lt_of_lt_of_le (by have := World.block_lt_of_cell? _ _ hw626_0; first | rwa [add_block] at this | exact this) GW625.out) | (rw [add_block]; exact Nat.ne_of_lt (Nat.lt_of_lt_of_le (by have := World.block_lt_of_cell? _ _ hw626_0; first | rwa [add_block] at this | exact this) GW625.out)) | (show (Addr.add _ _).block ≠ _; rw [add_block]; exact Nat.ne_of_lt (Nat.lt_of_lt_of_le (by have := World.block_lt_of_cell? _ _ hw626_0; first | rwa [add_block] at this | exact this) GW625.out)) | (dsimp only; exact Nat.ne_of_lt (Nat.lt_of_lt_of_le (by have := World.block_lt_of_cell? _ _ hw626_0; first | rwa [add_block] at this | exact this) GW625.out))) _).trans (hL.1)))), ((cell_far (p := ⟨g625, _, none⟩) (by first | exact Nat.ne_of_lt (Nat.lt_of_lt_of_le (by have := World.block_lt_of_cell? _ _ hw627_0; first | rwa [add_block] at this | exact this) GW625.out) | (rw [add_block]; exact Nat.ne_of_lt (Nat.lt_of_lt_of_le (by have := World.block_lt_of_cell? _ _ hw627_0; first | rwa [add_block] at this | exact this) GW625.out)) | (show (Addr.add _ _).block ≠ _; rw [add_block]; exact Nat.ne_of_lt (Nat.lt_of_lt_of_le (by have := World.block_lt_of_cell? _ _ hw627_0; first | rwa [add_block] at this | exact this) GW625.out)) | (dsimp only; exact Nat.ne_of_lt (Nat.lt_of_lt_of_le (by have := World.block_lt_of_cell? _ _ hw627_0; first | rwa [add_block] at this | exact this) GW625.out))) _).trans (((cell_far (p := ⟨g625, _, none⟩) (by first | exact Nat.ne_of_lt (Nat.lt_of_lt_of_le (by have := World.block_lt_of_cell? _ _ hw627_0; first | rwa [add_block] at this | exact this) GW625.out) | (rw [add_block]; exact Nat.ne_of_lt (Nat.lt_of_lt_of_le (by have := World.block_lt_of_cell? _ _ hw627_0; first | rwa [add_block] at this | exact this) GW625.out)) | (show (Addr.add _ _).block ≠ _; rw [add_block]; exact Nat.ne_of_lt (Nat.lt_of_lt_of_le (by have := World.block_lt_of_cell? _ _ hw627_0; first | rwa [add_block] at this | exact this) GW625.out)) | (dsimp only; exact Nat.ne_of_lt (Nat.lt_of_lt_of_le (by have := World.block_lt_of_cell? _ _ hw627_0; first | rwa [add_block] at this | exact this) GW625.out))) _).trans (hL.2))))⟩ (fun hL => ?_)
          clear hK K
          refine done_ (done_of T_.out (by kernel_rfl)) ?_
          try go_wp2
          have n0_ : Aside0 (Kd.R k36 36 ((w17.setCell ⟨g625, 0, none⟩ (.int .u64 (rd l2 x8_1))).setCell ⟨g625, 1, none⟩ (.int .u64 (IntKind.u64.wrap (Int.tdiv (rd l2 x8_1) 3)))) w.heap.size (fun k_ => k_ ≠ g625) u7 x7_1) := ⟨by (with_reducible repeat (first | apply Kd.R_alloc | apply Kd.R_drewN | apply Kd.R_drew)); exact Kd.R_mono (Kd.R_far (p := ⟨g625, 1, none⟩) (Kd.R_far (p := ⟨g625, 0, none⟩) (Kd.R_mono HO_7.out (fun k_ hk => (⟨hk, hk⟩ : _ ∧ k_ ≠ g625))) (fun _ hk => hk.2) (.int .u64 (rd l2 x8_1))) (fun _ hk => hk.2) (.int .u64 (IntKind.u64.wrap (Int.tdiv (rd l2 x8_1) 3)))) (fun _ hk => hk.1)⟩
          have n1_ : Aside0 (((w17.setCell ⟨g625, 0, none⟩ (.int .u64 (rd l2 x8_1))).setCell ⟨g625, 1, none⟩ (.int .u64 (IntKind.u64.wrap (Int.tdiv (rd l2 x8_1) 3)))).heap[g625]? = some (.cells #[.int .u64 (rd l2 x8_1), .int .u64 (IntKind.u64.wrap (Int.tdiv (rd l2 x8_1) 3))] 36 (0, 0))) := ⟨by refine blk_put (cs := #[.int .u64 (rd l2 x8_1), .int .u64 (IntKind.u64.wrap (wrap64 ((wrap64 (2 * x8_1)) + 1)))]) ?_ 1 _ rfl; refine blk_put (cs := #[.int .u64 (IntKind.u64.wrap (x8_1)), .int .u64 (IntKind.u64.wrap (wrap64 ((wrap64 (2 * x8_1)) + 1)))]) ?_ 0 _ rfl; exact B625.out⟩
          have n2_ : Aside0 (Below w.heap.size w ((w17.setCell ⟨g625, 0, none⟩ (.int .u64 (rd l2 x8_1))).setCell ⟨g625, 1, none⟩ (.int .u64 (IntKind.u64.wrap (Int.tdiv (rd l2 x8_1) 3))))) := ⟨by repeat (first | (with_reducible first | exact HB.out | apply below_alloc | apply pw_below_drewN | apply below_drew1 | refine below_set ?_ GE625.out) | exact HB.out)⟩
          (try clear HO_7)
          (try clear B625)
          (try clear HB)
          generalize ((w17.setCell ⟨g625, 0, none⟩ (.int .u64 (rd l2 x8_1))).setCell ⟨g625, 1, none⟩ (.int .u64 (IntKind.u64.wrap (Int.tdiv (rd l2 x8_1) 3)))) = w20 at n0_ n1_ n2_ ⊢
          have HO_7 := n0_
          have B625 := n1_
          have HB := n2_
          clear n0_ n1_ n2_
          have n0_ := Aside0.mk (Kd.R_drew HO_7.out)
          have n1_ := Aside0.mk (blk_drew B625.out)
          have n2_ := Aside0.mk (below_drew1 HB.out)
          clear HO_7
          clear B625
          clear HB
          have HO_7 := n0_
          have B625 := n1_
          have HB := n2_
          clear n0_ n1_ n2_
          refine start_ (n := 15) (S := fun w' => w'.cell? ⟨g625, 0, none⟩ = some (.int .u64 (rd l2 x8_1)) ∧ w'.cell? ⟨g625, 1, none⟩ = some (.int .u64 (IntKind.u64.wrap (Int.tdiv (rd l2 x8_1) 3)))) (ds := []) z22_12_ (by kernel_rfl) rfl rfl ⟨bq_ B625 0, bq_ B625 1⟩ (fun hL => ?_); refine with_tabW attestorlaw07_leaves.tab8 attestorlaw07_leaves.bits8 (fun T_ W_ => ?_)
          generalize w20.drew = w21 at HO_7 B625 HB hL ⊢
          refine pure_ (i := 0) (N := some 37) (v := ?_) (a' := ?_) z22_13_ rfl rfl (an_ T_) (fun _ _ _ h => h) (Or.inl ⟨by rfl, ?_⟩) ?_ ?_
          rotate_left; · intro w'; go_simp; with_reducible rfl
          rotate_left; · simp only [Act.put, sa_, sb_, sc_, i64_w, i32_w]; rfl
          refine pure_ (i := 1) (N := some 38) (v := ?_) (a' := ?_) z22_14_ rfl rfl (an_ T_) (fun _ _ _ h => h) (Or.inl ⟨by rfl, ?_⟩) ?_ ?_
          rotate_left; · intro w'; go_simp; with_reducible rfl
          rotate_left; · simp only [Act.put, sa_, sb_, sc_, i64_w, i32_w]; rfl
          refine pure_ (i := 3) (N := some 40) (v := ?_) (a' := ?_) z22_15_ rfl rfl (an_ T_) (fun _ _ _ h => h) (Or.inl ⟨by rfl, ?_⟩) ?_ ?_
          rotate_left; · intro w'; go_simp; with_reducible rfl
          rotate_left; · simp only [Act.put, sa_, sb_, sc_, i64_w, i32_w]; rfl
          refine pure_ (i := 6) (N := some 43) (v := ?_) (a' := ?_) z22_16_ rfl rfl (an_ T_) (fun _ _ _ h => h) (Or.inl ⟨by rfl, ?_⟩) ?_ ?_
          rotate_left; · intro w'; go_simp; with_reducible rfl
          rotate_left; · simp only [Act.put, sa_, sb_, sc_, i64_w, i32_w]; rfl
          refine pure_ (i := 8) (N := some 45) (v := ?_) (a' := ?_) z22_17_ rfl rfl (an_ T_) (fun _ _ _ h => h) (Or.inl ⟨by rfl, ?_⟩) ?_ ?_
          rotate_left; · intro w'; go_simp; with_reducible rfl
          rotate_left; · simp only [Act.put, sa_, sb_, sc_, i64_w, i32_w]; rfl
          refine take_ (i := 2) (N := some 39) (v := ?_) (a' := ?_) z22_18_ rfl rfl (tk_ T_ W_) (fun _ _ _ h => h) (Or.inl ⟨by rfl, ?_⟩) hL ?_ ?_
          rotate_left
          ·rintro w' ⟨s0, s1⟩
           go_simp
           with_reducible rfl
          rotate_left
          ·simp only [Act.put, sa_, sb_, sc_, i64_w, i32_w]
           rfl
          refine take_ (i := 7) (N := some 44) (v := ?_) (a' := ?_) z22_19_ rfl rfl (tk_ T_ W_) (fun _ _ _ h => h) (Or.inl ⟨by rfl, ?_⟩) hL ?_ ?_
          rotate_left
          ·rintro w' ⟨s0, s1⟩
           go_simp
           with_reducible rfl
          rotate_left
          ·simp only [Act.put, sa_, sb_, sc_, i64_w, i32_w]
           rfl
          refine one_ (i := 4) (N := some 41) z22_20_ rfl rfl (on_ T_) (by decide) (fun K hK => ?_)
          refine goes_ Tryd.func34 (by kernel_rfl) rfl #[.int .i64 a0] (by rfl) rfl rfl (by (try simp only [List.map_toArray, List.map_cons, List.map_nil]); first | done | rfl | (go_simp; done)) ?_
          with_reducible refine (attestorref01_P.calls a0 t628 _ A9.out).mono ?_
          rintro e w' ⟨rfl, ⟨nd, rfl⟩⟩
          refine ⟨_, rfl, ?_⟩
          refine hK.out _ _ ⟨bq_ B625 0, bq_ B625 1⟩ (fun hL => ?_)
          clear hK K
          refine norm_ (a' := ?_) ?_ ?_
          rotate_left
          ·show Act.put _ (some 41) _ = _
           simp only [Act.put, sa_, sb_, sc_, i64_w, i32_w]
           rfl
          refine pure_ (i := 5) (N := some 42) (v := ?_) (a' := ?_) z22_21_ rfl rfl (an_ T_) (fun _ _ _ h => h) (Or.inl ⟨by rfl, ?_⟩) ?_ ?_
          rotate_left; · intro w'; go_simp; with_reducible rfl
          rotate_left; · simp only [Act.put, sa_, sb_, sc_, i64_w, i32_w]; rfl
          refine one_ (i := 9) (N := some 46) z22_22_ rfl rfl (on_ T_) (by decide) (fun K hK => ?_)
          refine goes_ Tryd.func34 (by kernel_rfl) rfl #[.int .i64 a0] (by rfl) rfl rfl (by (try simp only [List.map_toArray, List.map_cons, List.map_nil]); first | done | rfl | (go_simp; done)) ?_
          with_reducible refine (attestorref01_P.calls a0 t629 _ A11.out).mono ?_
          rintro e w' ⟨rfl, ⟨nd, rfl⟩⟩
          refine ⟨_, rfl, ?_⟩
          refine hK.out _ _ ⟨bq_ B625 0, bq_ B625 1⟩ (fun hL => ?_)
          clear hK K
          refine norm_ (a' := ?_) ?_ ?_
          rotate_left
          ·show Act.put _ (some 46) _ = _
           simp only [Act.put, sa_, sb_, sc_, i64_w, i32_w]
           rfl
          refine pure_ (i := 10) (N := some 47) (v := ?_) (a' := ?_) z22_23_ rfl rfl (an_ T_) (fun _ _ _ h => h) (Or.inl ⟨by rfl, ?_⟩) ?_ ?_
          rotate_left; · intro w'; go_simp; with_reducible rfl
          rotate_left; · simp only [Act.put, sa_, sb_, sc_, i64_w, i32_w]; rfl
          refine pure_ (i := 11) (N := some 48) (v := ?_) (a' := ?_) z22_24_ rfl rfl (an_ T_) (fun _ _ _ h => h) (Or.inl ⟨by rfl, ?_⟩) ?_ ?_
          rotate_left; · intro w'; go_simp; with_reducible rfl
          rotate_left; · simp only [Act.put, sa_, sb_, sc_, i64_w, i32_w]; rfl
          refine one_ (i := 12) (N := some 49) z22_25_ rfl rfl (on_ T_) (by decide) (fun K hK => ?_)
          refine value_ (w1 := ?_) (v := ?_) (by rfl) rfl ?_ ?_
          rotate_left 2
          ·go_simp
           constructor
           ·rfl
           ·rfl
          refine hK.out _ _ ⟨(blk_cell (blk_alloc B625.out _) 0).trans rfl, (blk_cell (blk_alloc B625.out _) 1).trans rfl⟩ (fun hL => ?_)
          clear hK K
          refine norm_ (a' := ?_) ?_ ?_
          rotate_left
          ·show Act.put _ (some 49) _ = _
           simp only [Act.put, sa_, sb_, sc_, i64_w, i32_w]
           rfl
          refine one_ (i := 13) (N := some 50) z22_26_ rfl rfl (on_ T_) (by decide) (fun K hK => ?_)
          refine Kd.R_append_step k36 (w0 := w) w.heap.size (by rfl) (.tmp 37) (.tmp 49) 22 36 (.agg #[(.int .u64 0), (.int .u64 0)]) 16 rfl Tryd.underlying22 info36 rfl (by decide) (by omega) u7 x7_1 (⟨Int.tmod (rd l2 x8_1) t628, Int.tmod (IntKind.u64.wrap (Int.tdiv (rd l2 x8_1) 3)) t629⟩ : S36) [.int .u64 (Int.tmod (rd l2 x8_1) t628), .int .u64 (Int.tmod (IntKind.u64.wrap (Int.tdiv (rd l2 x8_1) 3)) t629)] (fun k_ => k_ ≠ g625) (fun _ => False) rfl rfl ?aP (fun _ hk => hk.elim) ?aF ?aO ?aB ?aS ?aL ?_
          (case aP => exact k36_mkM _ _ _ (⟨Int.tmod (rd l2 x8_1) t628, Int.tmod (IntKind.u64.wrap (Int.tdiv (rd l2 x8_1) 3)) t629⟩ : S36))
          (case aB => exact (by repeat (first | (with_reducible first | exact HB.out | apply below_alloc | apply pw_below_drewN | apply below_drew1 | refine below_set ?_ GE625.out) | exact HB.out)))
          (case aF => exact (fun k_ hk => Kd.freshB (g := g625) (o := .cells #[.int .u64 (rd l2 x8_1), .int .u64 (IntKind.u64.wrap (Int.tdiv (rd l2 x8_1) 3))] 36 (0, 0)) (by exact B625.out) k_ hk))
          (case aO => exact (by (with_reducible repeat (first | apply Kd.R_alloc | apply Kd.R_drewN | apply Kd.R_drew)); exact HO_7.out))
          (case aS => exact (below_size (by repeat (first | (with_reducible first | exact HB.out | apply below_alloc | apply pw_below_drewN | apply below_drew1 | refine below_set ?_ GE625.out) | exact HB.out))))
          (case aL => have := LMc13.out; omega)
          intro v631 w22 ho hb hg hat
          rw [← Ny630.out] at ho
          have n0_ := Aside0.mk (blk_grown (g := g625) (o := .cells #[.int .u64 (rd l2 x8_1), .int .u64 (IntKind.u64.wrap (Int.tdiv (rd l2 x8_1) 3))] 36 (0, 0)) (by exact B625.out) hg (Kd.R_away HO_7.out (fun _ hk => hk)))
          have n1_ := Aside0.mk (hb)
          have n2_ := Aside0.mk (ho)
          clear B625
          clear HB
          clear HO_7
          have B625 := n0_
          have HB := n1_
          have HO632 := n2_
          clear n0_ n1_ n2_
          clear ho hb hg hat
          refine hK.out _ _ ⟨bq_ B625 0, bq_ B625 1⟩ (fun hL => ?_)
          clear hK K
          refine norm_ (a' := ?_) ?_ ?_
          rotate_left
          ·show Act.put _ (some 50) _ = _
           simp only [Act.put, sa_, sb_, sc_, i64_w, i32_w]
           rfl
          refine pure_ (i := 14) (N := some 7) (v := ?_) (a' := ?_) z22_27_ rfl rfl (an_ T_) (fun _ _ _ h => h) (Or.inl ⟨by rfl, ?_⟩) ?_ ?_
          rotate_left; · intro w'; go_simp; with_reducible rfl
          rotate_left; · simp only [Act.put, sa_, sb_, sc_, i64_w, i32_w]; rfl
          refine done_ (done_of T_.out (by kernel_rfl)) ?_
          try go_wp2
          go_roundg k1
          case measure => have := HK1.out; omega
          case rel => exact ⟨(y630), (wrap64 (x8_1 + 1)), (by first | rfl | (simp; done) | (simp [*]; done) | (simp; rfl) | (simp; decide +kernel)), H', ⟨by have := HK1.out; omega⟩, ⟨by (with_reducible repeat (first | apply Kd.R_alloc | apply Kd.R_drewN | apply Kd.R_drew)); exact Kd.R_mono HO632.out (fun _ hk => trivial)⟩, ⟨by repeat (first | (with_reducible first | exact HB.out | apply below_alloc | apply pw_below_drewN | apply below_drew1 | refine below_set ?_ GE625.out) | exact HB.out)⟩⟩
         ·rw [if_neg c13] at H
          exact absurd H (by simp)
      ·rw [if_neg c8] at H
       exact absurd H (by simp)
     ·rw [if_neg c7] at H
      have c7b0 : decide (x8_1 < (l2.length : Int)) = false := decide_eq_false c7
      clear c7
      replace H := Option.bind_eq_some_iff.mp H
      obtain ⟨t633, A230, H⟩ := H
      have A23 := Aside0.mk A230
      clear A230
      by_cases c24 : t633 = 0
      ·rw [if_pos c24] at H
       exact absurd H (by simp)
      ·rw [if_neg c24] at H
       have c24b0 : (t633 == 0) = false := beq_eq_false_iff_ne.mpr c24
       have c24b1 : (t633 != 0) = true := bne_iff_ne.mpr c24
       replace H := Option.bind_eq_some_iff.mp H
       obtain ⟨t634, A250, H⟩ := H
       have A25 := Aside0.mk A250
       clear A250
       by_cases c26 : t634 = 0
       ·rw [if_pos c26] at H
        exact absurd H (by simp)
       ·rw [if_neg c26] at H
        have c26b0 : (t634 == 0) = false := beq_eq_false_iff_ne.mpr c26
        have c26b1 : (t634 != 0) = true := bne_iff_ne.mpr c26
        by_cases c27 : x7_1.length < 8796093022208
        ·rw [if_pos c27] at H
         have LMc27 := Aside0.mk c27
         clear c27
         obtain ⟨y635, hy635⟩ : ∃ y_ : List (S36), y_ = (x7_1 ++ [(⟨Int.tmod (IntKind.u64.wrap (x8_1)) t633, Int.tmod (IntKind.u64.wrap (wrap64 ((wrap64 (2 * x8_1)) + 1))) t634⟩ : S36)]) := ⟨_, rfl⟩
         replace H : (attestorlaw07_leaves.l0 k1 a0 a1 l2 y635 (wrap64 (x8_1 + 1))) = some r := by first | (rw [hy635]; with_reducible exact H) | (have H2_ := (Option.bind_some _ _).symm.trans H; rw [hy635]; with_reducible exact H2_) | (have H2_ := (Option.bind_some _ _).symm.trans H; with_reducible exact H2_) | with_reducible exact H | (rw [hy635]; exact H) | exact H
         have Ny635 := Aside0.mk hy635
         clear hy635
         have H' := Aside0.mk H
         clear H
         try go_wp2_with (first | ((with_reducible refine gate_dst (N := 9) rfl ?_); refine box_event ?hg (N := 9) ?hd (cs := #[.int .u64 0, .int .u64 0]) (t := 36) ?hr ?_; (case hd => rfl); (case hg => rfl); (case hr => first | (go_simp; done) | (go_simp; rfl)); intro g625 hg w28 hbox hb; have n0_ := Aside0.mk (Kd.R_below (Kd.R_elderB (by (with_reducible repeat (first | apply Kd.R_alloc | apply Kd.R_drewN | apply Kd.R_drew)); exact HO_7.out) g625 (Nat.le_of_eq hg.symm)) hb); have n1_ := Aside0.mk (below_step (by repeat (first | (with_reducible first | exact HB.out | apply below_alloc | apply pw_below_drewN | apply below_drew1) | exact HB.out)) hb); have n2_ := Aside0.mk (hbox); have n3_ := Aside0.mk ((by rw [hg]; exact (below_size (by repeat (first | (with_reducible first | exact HB.out | apply below_alloc | apply pw_below_drewN | apply below_drew1) | exact HB.out))) : w.heap.size ≤ g625)); have n4_ := Aside0.mk ((by rw [hg]; exact (below_size (by repeat (first | (with_reducible first | exact HB.out | apply below_alloc | apply pw_below_drewN | apply below_drew1) | exact HB.out))) : w.heap.size ≤ g625)); clear HO_7; clear HB; have HO_7 := n0_; have HB := n1_; have B625 := n2_; have GW625 := n3_; have GE625 := n4_; clear n0_ n1_ n2_ n3_ n4_; clear hb hbox hg; have hcz29_0 : w28.cell? ⟨g625, 0, none⟩ = some (.int .u64 0) := bq_ B625 0; have hcz29_1 : w28.cell? ⟨g625, 1, none⟩ = some (.int .u64 0) := bq_ B625 1; have hfz29_0 := blk_frozen B625.out 0; have hfz29_1 := blk_frozen B625.out 1))
         have n0_ : Aside0 (Kd.R k36 36 ((w28.setCell ⟨g625, 0, none⟩ (.int .u64 (IntKind.u64.wrap (x8_1)))).setCell ⟨g625, 1, none⟩ (.int .u64 (IntKind.u64.wrap (wrap64 ((wrap64 (2 * x8_1)) + 1))))) w.heap.size (fun k_ => k_ ≠ g625) u7 x7_1) := ⟨by (with_reducible repeat (first | apply Kd.R_alloc | apply Kd.R_drewN | apply Kd.R_drew)); exact Kd.R_mono (Kd.R_far (p := ⟨g625, 1, none⟩) (Kd.R_far (p := ⟨g625, 0, none⟩) (Kd.R_mono HO_7.out (fun k_ hk => (⟨hk, hk.2⟩ : _ ∧ k_ ≠ g625))) (fun _ hk => hk.2) (.int .u64 (IntKind.u64.wrap (x8_1)))) (fun _ hk => hk.2) (.int .u64 (IntKind.u64.wrap (wrap64 ((wrap64 (2 * x8_1)) + 1))))) (fun _ hk => hk.1.2)⟩
         have n1_ : Aside0 (((w28.setCell ⟨g625, 0, none⟩ (.int .u64 (IntKind.u64.wrap (x8_1)))).setCell ⟨g625, 1, none⟩ (.int .u64 (IntKind.u64.wrap (wrap64 ((wrap64 (2 * x8_1)) + 1))))).heap[g625]? = some (.cells #[.int .u64 (IntKind.u64.wrap (x8_1)), .int .u64 (IntKind.u64.wrap (wrap64 ((wrap64 (2 * x8_1)) + 1)))] 36 (0, 0))) := ⟨by refine blk_put (cs := #[.int .u64 (IntKind.u64.wrap (x8_1)), .int .u64 0]) ?_ 1 _ rfl; refine blk_put (cs := #[.int .u64 0, .int .u64 0]) ?_ 0 _ rfl; exact B625.out⟩
         have n2_ : Aside0 (Below w.heap.size w ((w28.setCell ⟨g625, 0, none⟩ (.int .u64 (IntKind.u64.wrap (x8_1)))).setCell ⟨g625, 1, none⟩ (.int .u64 (IntKind.u64.wrap (wrap64 ((wrap64 (2 * x8_1)) + 1)))))) := ⟨by repeat (first | (with_reducible first | exact HB.out | apply below_alloc | apply pw_below_drewN | apply below_drew1 | refine below_set ?_ GE625.out) | exact HB.out)⟩
         (try clear HO_7)
         (try clear B625)
         (try clear HB)
         generalize ((w28.setCell ⟨g625, 0, none⟩ (.int .u64 (IntKind.u64.wrap (x8_1)))).setCell ⟨g625, 1, none⟩ (.int .u64 (IntKind.u64.wrap (wrap64 ((wrap64 (2 * x8_1)) + 1))))) = w30 at n0_ n1_ n2_ ⊢
         have HO_7 := n0_
         have B625 := n1_
         have HB := n2_
         clear n0_ n1_ n2_
         have n0_ := Aside0.mk (Kd.R_drew HO_7.out)
         have n1_ := Aside0.mk (blk_drew B625.out)
         have n2_ := Aside0.mk (below_drew1 HB.out)
         clear HO_7
         clear B625
         clear HB
         have HO_7 := n0_
         have B625 := n1_
         have HB := n2_
         clear n0_ n1_ n2_
         refine start_ (n := 15) (S := fun w' => w'.cell? ⟨g625, 0, none⟩ = some (.int .u64 (IntKind.u64.wrap (x8_1))) ∧ w'.cell? ⟨g625, 1, none⟩ = some (.int .u64 (IntKind.u64.wrap (wrap64 ((wrap64 (2 * x8_1)) + 1))))) (ds := []) z22_12_ (by kernel_rfl) rfl rfl ⟨bq_ B625 0, bq_ B625 1⟩ (fun hL => ?_); refine with_tabW attestorlaw07_leaves.tab8 attestorlaw07_leaves.bits8 (fun T_ W_ => ?_)
         generalize w30.drew = w31 at HO_7 B625 HB hL ⊢
         refine pure_ (i := 0) (N := some 37) (v := ?_) (a' := ?_) z22_13_ rfl rfl (an_ T_) (fun _ _ _ h => h) (Or.inl ⟨by rfl, ?_⟩) ?_ ?_
         rotate_left; · intro w'; go_simp; with_reducible rfl
         rotate_left; · simp only [Act.put, sa_, sb_, sc_, i64_w, i32_w]; rfl
         refine pure_ (i := 1) (N := some 38) (v := ?_) (a' := ?_) z22_14_ rfl rfl (an_ T_) (fun _ _ _ h => h) (Or.inl ⟨by rfl, ?_⟩) ?_ ?_
         rotate_left; · intro w'; go_simp; with_reducible rfl
         rotate_left; · simp only [Act.put, sa_, sb_, sc_, i64_w, i32_w]; rfl
         refine pure_ (i := 3) (N := some 40) (v := ?_) (a' := ?_) z22_15_ rfl rfl (an_ T_) (fun _ _ _ h => h) (Or.inl ⟨by rfl, ?_⟩) ?_ ?_
         rotate_left; · intro w'; go_simp; with_reducible rfl
         rotate_left; · simp only [Act.put, sa_, sb_, sc_, i64_w, i32_w]; rfl
         refine pure_ (i := 6) (N := some 43) (v := ?_) (a' := ?_) z22_16_ rfl rfl (an_ T_) (fun _ _ _ h => h) (Or.inl ⟨by rfl, ?_⟩) ?_ ?_
         rotate_left; · intro w'; go_simp; with_reducible rfl
         rotate_left; · simp only [Act.put, sa_, sb_, sc_, i64_w, i32_w]; rfl
         refine pure_ (i := 8) (N := some 45) (v := ?_) (a' := ?_) z22_17_ rfl rfl (an_ T_) (fun _ _ _ h => h) (Or.inl ⟨by rfl, ?_⟩) ?_ ?_
         rotate_left; · intro w'; go_simp; with_reducible rfl
         rotate_left; · simp only [Act.put, sa_, sb_, sc_, i64_w, i32_w]; rfl
         refine take_ (i := 2) (N := some 39) (v := ?_) (a' := ?_) z22_18_ rfl rfl (tk_ T_ W_) (fun _ _ _ h => h) (Or.inl ⟨by rfl, ?_⟩) hL ?_ ?_
         rotate_left
         ·rintro w' ⟨s0, s1⟩
          go_simp
          with_reducible rfl
         rotate_left
         ·simp only [Act.put, sa_, sb_, sc_, i64_w, i32_w]
          rfl
         refine take_ (i := 7) (N := some 44) (v := ?_) (a' := ?_) z22_19_ rfl rfl (tk_ T_ W_) (fun _ _ _ h => h) (Or.inl ⟨by rfl, ?_⟩) hL ?_ ?_
         rotate_left
         ·rintro w' ⟨s0, s1⟩
          go_simp
          with_reducible rfl
         rotate_left
         ·simp only [Act.put, sa_, sb_, sc_, i64_w, i32_w]
          rfl
         refine one_ (i := 4) (N := some 41) z22_20_ rfl rfl (on_ T_) (by decide) (fun K hK => ?_)
         refine goes_ Tryd.func34 (by kernel_rfl) rfl #[.int .i64 a0] (by rfl) rfl rfl (by (try simp only [List.map_toArray, List.map_cons, List.map_nil]); first | done | rfl | (go_simp; done)) ?_
         with_reducible refine (attestorref01_P.calls a0 t633 _ A23.out).mono ?_
         rintro e w' ⟨rfl, ⟨nd, rfl⟩⟩
         refine ⟨_, rfl, ?_⟩
         refine hK.out _ _ ⟨bq_ B625 0, bq_ B625 1⟩ (fun hL => ?_)
         clear hK K
         refine norm_ (a' := ?_) ?_ ?_
         rotate_left
         ·show Act.put _ (some 41) _ = _
          simp only [Act.put, sa_, sb_, sc_, i64_w, i32_w]
          rfl
         refine pure_ (i := 5) (N := some 42) (v := ?_) (a' := ?_) z22_21_ rfl rfl (an_ T_) (fun _ _ _ h => h) (Or.inl ⟨by rfl, ?_⟩) ?_ ?_
         rotate_left; · intro w'; go_simp; with_reducible rfl
         rotate_left; · simp only [Act.put, sa_, sb_, sc_, i64_w, i32_w]; rfl
         refine one_ (i := 9) (N := some 46) z22_22_ rfl rfl (on_ T_) (by decide) (fun K hK => ?_)
         refine goes_ Tryd.func34 (by kernel_rfl) rfl #[.int .i64 a0] (by rfl) rfl rfl (by (try simp only [List.map_toArray, List.map_cons, List.map_nil]); first | done | rfl | (go_simp; done)) ?_
         with_reducible refine (attestorref01_P.calls a0 t634 _ A25.out).mono ?_
         rintro e w' ⟨rfl, ⟨nd, rfl⟩⟩
         refine ⟨_, rfl, ?_⟩
         refine hK.out _ _ ⟨bq_ B625 0, bq_ B625 1⟩ (fun hL => ?_)
         clear hK K
         refine norm_ (a' := ?_) ?_ ?_
         rotate_left
         ·show Act.put _ (some 46) _ = _
          simp only [Act.put, sa_, sb_, sc_, i64_w, i32_w]
          rfl
         refine pure_ (i := 10) (N := some 47) (v := ?_) (a' := ?_) z22_23_ rfl rfl (an_ T_) (fun _ _ _ h => h) (Or.inl ⟨by rfl, ?_⟩) ?_ ?_
         rotate_left; · intro w'; go_simp; with_reducible rfl
         rotate_left; · simp only [Act.put, sa_, sb_, sc_, i64_w, i32_w]; rfl
         refine pure_ (i := 11) (N := some 48) (v := ?_) (a' := ?_) z22_24_ rfl rfl (an_ T_) (fun _ _ _ h => h) (Or.inl ⟨by rfl, ?_⟩) ?_ ?_
         rotate_left; · intro w'; go_simp; with_reducible rfl
         rotate_left; · simp only [Act.put, sa_, sb_, sc_, i64_w, i32_w]; rfl
         refine one_ (i := 12) (N := some 49) z22_25_ rfl rfl (on_ T_) (by decide) (fun K hK => ?_)
         refine value_ (w1 := ?_) (v := ?_) (by rfl) rfl ?_ ?_
         rotate_left 2
         ·go_simp
          constructor
          ·rfl
          ·rfl
         refine hK.out _ _ ⟨(blk_cell (blk_alloc B625.out _) 0).trans rfl, (blk_cell (blk_alloc B625.out _) 1).trans rfl⟩ (fun hL => ?_)
         clear hK K
         refine norm_ (a' := ?_) ?_ ?_
         rotate_left
         ·show Act.put _ (some 49) _ = _
          simp only [Act.put, sa_, sb_, sc_, i64_w, i32_w]
          rfl
         refine one_ (i := 13) (N := some 50) z22_26_ rfl rfl (on_ T_) (by decide) (fun K hK => ?_)
         refine Kd.R_append_step k36 (w0 := w) w.heap.size (by rfl) (.tmp 37) (.tmp 49) 22 36 (.agg #[(.int .u64 0), (.int .u64 0)]) 16 rfl Tryd.underlying22 info36 rfl (by decide) (by omega) u7 x7_1 (⟨Int.tmod (IntKind.u64.wrap (x8_1)) t633, Int.tmod (IntKind.u64.wrap (wrap64 ((wrap64 (2 * x8_1)) + 1))) t634⟩ : S36) [.int .u64 (Int.tmod (IntKind.u64.wrap (x8_1)) t633), .int .u64 (Int.tmod (IntKind.u64.wrap (wrap64 ((wrap64 (2 * x8_1)) + 1))) t634)] (fun k_ => k_ ≠ g625) (fun _ => False) rfl rfl ?aP (fun _ hk => hk.elim) ?aF ?aO ?aB ?aS ?aL ?_
         (case aP => exact k36_mkM _ _ _ (⟨Int.tmod (IntKind.u64.wrap (x8_1)) t633, Int.tmod (IntKind.u64.wrap (wrap64 ((wrap64 (2 * x8_1)) + 1))) t634⟩ : S36))
         (case aB => exact (by repeat (first | (with_reducible first | exact HB.out | apply below_alloc | apply pw_below_drewN | apply below_drew1 | refine below_set ?_ GE625.out) | exact HB.out)))
         (case aF => exact (fun k_ hk => Kd.freshB (g := g625) (o := .cells #[.int .u64 (IntKind.u64.wrap (x8_1)), .int .u64 (IntKind.u64.wrap (wrap64 ((wrap64 (2 * x8_1)) + 1)))] 36 (0, 0)) (by exact B625.out) k_ hk))
         (case aO => exact (by (with_reducible repeat (first | apply Kd.R_alloc | apply Kd.R_drewN | apply Kd.R_drew)); exact HO_7.out))
         (case aS => exact (below_size (by repeat (first | (with_reducible first | exact HB.out | apply below_alloc | apply pw_below_drewN | apply below_drew1 | refine below_set ?_ GE625.out) | exact HB.out))))
         (case aL => have := LMc27.out; omega)
         intro v636 w32 ho hb hg hat
         rw [← Ny635.out] at ho
         have n0_ := Aside0.mk (blk_grown (g := g625) (o := .cells #[.int .u64 (IntKind.u64.wrap (x8_1)), .int .u64 (IntKind.u64.wrap (wrap64 ((wrap64 (2 * x8_1)) + 1)))] 36 (0, 0)) (by exact B625.out) hg (Kd.R_away HO_7.out (fun _ hk => hk)))
         have n1_ := Aside0.mk (hb)
         have n2_ := Aside0.mk (ho)
         clear B625
         clear HB
         clear HO_7
         have B625 := n0_
         have HB := n1_
         have HO637 := n2_
         clear n0_ n1_ n2_
         clear ho hb hg hat
         refine hK.out _ _ ⟨bq_ B625 0, bq_ B625 1⟩ (fun hL => ?_)
         clear hK K
         refine norm_ (a' := ?_) ?_ ?_
         rotate_left
         ·show Act.put _ (some 50) _ = _
          simp only [Act.put, sa_, sb_, sc_, i64_w, i32_w]
          rfl
         refine pure_ (i := 14) (N := some 7) (v := ?_) (a' := ?_) z22_27_ rfl rfl (an_ T_) (fun _ _ _ h => h) (Or.inl ⟨by rfl, ?_⟩) ?_ ?_
         rotate_left; · intro w'; go_simp; with_reducible rfl
         rotate_left; · simp only [Act.put, sa_, sb_, sc_, i64_w, i32_w]; rfl
         refine done_ (done_of T_.out (by kernel_rfl)) ?_
         try go_wp2
         go_roundg k1
         case measure => have := HK1.out; omega
         case rel => exact ⟨(y635), (wrap64 (x8_1 + 1)), (by first | rfl | (simp; done) | (simp [*]; done) | (simp; rfl) | (simp; decide +kernel)), H', ⟨by have := HK1.out; omega⟩, ⟨by (with_reducible repeat (first | apply Kd.R_alloc | apply Kd.R_drewN | apply Kd.R_drew)); exact Kd.R_mono HO637.out (fun _ hk => trivial)⟩, ⟨by repeat (first | (with_reducible first | exact HB.out | apply below_alloc | apply pw_below_drewN | apply below_drew1 | refine below_set ?_ GE625.out) | exact HB.out)⟩⟩
        ·rw [if_neg c27] at H
         exact absurd H (by simp)
    ·rw [if_neg c6] at H
     have c6b0 : decide (x8_1 < (ji5)) = false := decide_eq_false c6
     clear c6
     obtain rfl := Option.some.inj H
     go_wp2
     go_ret
     exact ⟨_, by first | rfl | (simp [errW_none, errW_some] <;> rfl) | (simp only [← hji5]; first | rfl | (simp [errW_none, errW_some] <;> rfl)) | (simp [*, errW_none, errW_some] <;> rfl), by (with_reducible repeat (first | apply Kd.R_alloc | apply Kd.R_drewN | apply Kd.R_drew)); exact HO_7.out, by repeat (first | (with_reducible first | exact HB.out | apply below_alloc | apply pw_below_drewN | apply below_drew1) | exact HB.out)⟩
   ·rw [if_neg c4] at H
    exact absurd H (by simp)

end Go.Proofs.YtpnpmeogffodgaaDoor.Q
end
section
namespace Go.Proofs.YtpnpmeogffodgaaDoor.Q
open Go.RowKit Go.Proofs.YtpnpmeogffodgaaDoorW.PrintWords Go.Proofs.YtpnpmeogffodgaaDoorW.PrintLast Go.Proofs.YtpnpmeogffodgaaDoorW.PrintMore
open Go.Proofs.YtpnpmeogffodgaaDoor.Num
set_option linter.unusedVariables false
set_option linter.unusedSimpArgs false
def pD (f : Int) (d : S36) : Prop := (0 ≤ d.f0 ∧ d.f0 < fp f) ∧ 0 ≤ d.f1 ∧ d.f1 < fp f
theorem pD.nn {f : Int} {d : S36} (h : pD f d) : nnD d := ⟨h.1.1, h.2.1⟩
theorem pD_ok {f : Int} {d : S36} (h : pD f d) : okD (fp f) d = true := by
  unfold okD
  rw [decide_eq_true h.1.2, decide_eq_true h.2.2]
  rfl
theorem all_ok {f : Int} {l : List S36} (h : ∀ d ∈ l, pD f d) : l.all (okD (fp f)) = true := List.all_eq_true.mpr fun d hd => pD_ok (h d hd)
def nodeS (f : Int) (a b : S36) : S36 := ((sponge_Node.f 200 f a.f0 a.f1 b.f0 b.f1).map fun n => (⟨n.1, n.2⟩ : S36)).getD z36
theorem node_s {f : Int} (hv : 0 ≤ f ∧ f < 4) (a b : S36) (ha : nnD a) (hb : nnD b) : sponge_Node.f 200 f a.f0 a.f1 b.f0 b.f1 = some ((nodeS f a b).f0, (nodeS f a b).f1) ∧ pD f (nodeS f a b) := by
  obtain ⟨p, g, e, D⟩ := fd_of hv.1 hv.2
  obtain ⟨a0, h0⟩ := Int.eq_ofNat_of_zero_le ha.1
  obtain ⟨a1, h1⟩ := Int.eq_ofNat_of_zero_le ha.2
  obtain ⟨b0, h2⟩ := Int.eq_ofNat_of_zero_le hb.1
  obtain ⟨b1, h3⟩ := Int.eq_ofNat_of_zero_le hb.2
  have hp : 0 < p := by have := D.p96; omega
  obtain ⟨n0, n1, h, l0, l1⟩ : ∃ n0 n1 : Nat, sponge_Node.f 200 f a0 a1 b0 b1 = some ((n0 : Int), (n1 : Int)) ∧ n0 < p ∧ n1 < p := ⟨_, _, Node_f D 200 (by omega) ⟨a0, a1, b0, b1⟩, Nat.mod_lt _ hp, Nat.mod_lt _ hp⟩
  have hq : nodeS f a b = ⟨(n0 : Int), (n1 : Int)⟩ := by
    unfold nodeS
    rw [h0, h1, h2, h3, h]
    rfl
  rw [h0, h1, h2, h3, hq]
  refine ⟨h, ⟨Int.natCast_nonneg _, ?_⟩, Int.natCast_nonneg _, ?_⟩
  · rw [D.F.eq]; exact Int.ofNat_lt.mpr l0
  · rw [D.F.eq]; exact Int.ofNat_lt.mpr l1
def upS (f : Int) : List S36 → List S36
  | a :: b :: l => nodeS f a b :: upS f l
  | _ => []
theorem upL_s {f : Int} (hv : 0 ≤ f ∧ f < 4) : ∀ (n : Nat) (l : List S36), l.length ≤ n → (∀ d ∈ l, nnD d) → upL f l = some (upS f l) ∧ ∀ d ∈ upS f l, pD f d
  | n, [], _, _ => ⟨rfl, fun d hd => by simp [upS] at hd⟩
  | n, [a], _, _ => ⟨rfl, fun d hd => by simp [upS] at hd⟩
  | 0, a :: b :: l, hn, _ => by simp at hn
  | n + 1, a :: b :: l, hn, h => by
    obtain ⟨hq, hp⟩ := node_s hv a b (h a (by simp)) (h b (by simp))
    obtain ⟨hl, hm⟩ := upL_s hv n l (by simp at hn; omega) (fun d hd => h d (by simp [hd]))
    refine ⟨?_, fun d hd => ?_⟩
    · rw [upL, upS]
      refine bnd hq (bnd hl ?_)
      rfl
    · rw [upS] at hd
      rcases List.mem_cons.mp hd with rfl | hd
      · exact hp
      · exact hm d hd
theorem upS_len (f : Int) : ∀ (n : Nat) (l : List S36), l.length ≤ n → (upS f l).length = l.length / 2
  | n, [], _ => rfl
  | n, [a], _ => by simp [upS]
  | 0, a :: b :: l, hn => by simp at hn
  | n + 1, a :: b :: l, hn => by
    have := upS_len f n l (by simp at hn; omega)
    rw [upS, List.length_cons, this, List.length_cons, List.length_cons]
    omega
theorem upS_get (f : Int) : ∀ (n : Nat) (l : List S36) (i : Nat), l.length ≤ n → 2 * i + 1 < l.length → (upS f l).getD i z36 = nodeS f (l.getD (2 * i) z36) (l.getD (2 * i + 1) z36)
  | n, [], i, _, h => by simp at h
  | n, [a], i, _, h => by simp at h
  | 0, a :: b :: l, i, hn, h => by simp at hn
  | n + 1, a :: b :: l, 0, _, _ => by rw [upS]; rfl
  | n + 1, a :: b :: l, i + 1, hn, h => by
    have := upS_get f n l i (by simp at hn; omega) (by simp at h; omega)
    rw [upS, show 2 * (i + 1) = 2 * i + 2 by omega, show 2 * i + 2 + 1 = (2 * i + 1) + 2 from rfl]
    simpa using this
def lvl (f : Int) : Nat → List S36 → List (List S36)
  | 0, l => [l]
  | n + 1, l => l :: lvl f n (upS f l)
def top (f : Int) : Nat → List S36 → List S36
  | 0, l => l
  | n + 1, l => top f n (upS f l)
def xo (i : Nat) : Nat := if i % 2 = 0 then i + 1 else i - 1
def pth (f : Int) : Nat → List S36 → Nat → List S36
  | 0, _, _ => []
  | n + 1, l, i => l.getD (xo i) z36 :: pth f n (upS f l) (i / 2)
theorem top_p {f : Int} (hv : 0 ≤ f ∧ f < 4) : ∀ (n : Nat) (l : List S36), (∀ d ∈ l, pD f d) → ∀ d ∈ top f n l, pD f d
  | 0, l, h => h
  | n + 1, l, h => top_p hv n (upS f l) (upL_s hv _ l (Nat.le_refl _) fun d hd => (h d hd).nn).2
theorem top_succ (f : Int) : ∀ (n : Nat) (l : List S36), top f (n + 1) l = upS f (top f n l)
  | 0, l => rfl
  | n + 1, l => top_succ f n (upS f l)
theorem top_len (f : Int) : ∀ (n m : Nat) (l : List S36), l.length = 2 ^ (n + m) → (top f n l).length = 2 ^ m
  | 0, m, l, h => by rw [Nat.zero_add] at h; exact h
  | n + 1, m, l, h => top_len f n m (upS f l) (by rw [upS_len f _ l (Nat.le_refl _), h, show n + 1 + m = (n + m) + 1 by omega, Nat.pow_succ]; omega)
theorem lvl_len (f : Int) : ∀ (n : Nat) (l : List S36), (lvl f n l).length = n + 1
  | 0, l => rfl
  | n + 1, l => by rw [lvl, List.length_cons, lvl_len f n (upS f l)]
theorem lvl_get (f : Int) : ∀ (n j : Nat) (l : List S36), j ≤ n → (lvl f n l).getD j [] = top f j l
  | 0, 0, l, _ => rfl
  | n + 1, 0, l, _ => rfl
  | n + 1, j + 1, l, h => by
    have := lvl_get f n j (upS f l) (by omega)
    rw [lvl, top, ← this]
    rfl
theorem pth_len (f : Int) : ∀ (n : Nat) (l : List S36) (i : Nat), (pth f n l i).length = n
  | 0, l, i => rfl
  | n + 1, l, i => by rw [pth, List.length_cons, pth_len f n]
theorem getD_mem {l : List S36} {i : Nat} (h : i < l.length) : l.getD i z36 ∈ l := by
  have e : l.getD i z36 = l[i] := by simp [List.getD, h]
  rw [e]; exact List.getElem_mem h
theorem xo_lt {i n : Nat} (h : i < 2 * n) : xo i < 2 * n := by unfold xo; split <;> omega
theorem pth_p {f : Int} (hv : 0 ≤ f ∧ f < 4) : ∀ (n m : Nat) (l : List S36) (i : Nat), l.length = 2 ^ n * m → i < l.length → (∀ d ∈ l, pD f d) → ∀ d ∈ pth f n l i, pD f d
  | 0, m, l, i, _, _, _ => fun d hd => by simp [pth] at hd
  | n + 1, m, l, i, hl, hi, h => fun d hd => by
    have e : l.length = 2 * (2 ^ n * m) := by rw [hl, Nat.pow_succ, Nat.mul_comm (2 ^ n) 2, Nat.mul_assoc]
    have eu : (upS f l).length = 2 ^ n * m := by rw [upS_len f _ l (Nat.le_refl _), e]; omega
    rw [pth] at hd
    rcases List.mem_cons.mp hd with rfl | hd
    · exact h _ (getD_mem (by rw [e]; rw [e] at hi; exact xo_lt hi))
    · exact pth_p hv n m (upS f l) (i / 2) eu (by rw [eu]; omega) (upL_s hv _ l (Nat.le_refl _) fun d hd => (h d hd).nn).2 d hd
theorem bits_xor_one (i : Nat) (h : i < 4611686018427387904) : Go.bits .xor .i64 (i : Int) 1 = (xo i : Nat) := by
  have h1 : (BitVec.ofInt 64 1).toNat = 1 := by decide
  have key : (BitVec.ofInt 64 (i : Int) ^^^ BitVec.ofInt 64 1).toNat = i ^^^ 1 := by
    rw [BitVec.toNat_xor, BitVec.toNat_ofInt, h1]
    congr 1
    omega
  have hx : i ^^^ 1 = xo i := by
    have a := Nat.xor_div_two (a := i) (b := 1)
    have b := @Nat.xor_mod_two_eq_one i 1
    rw [show (1 : Nat) / 2 = 0 from rfl, Nat.xor_zero] at a
    unfold xo
    split
    · have : (i ^^^ 1) % 2 = 1 := b.mpr (by omega)
      omega
    · have : ¬ (i ^^^ 1) % 2 = 1 := fun hc => (b.mp hc) (by constructor <;> omega)
      omega
  show IntKind.i64.wrap ((BitVec.ofInt 64 (i : Int) ^^^ BitVec.ofInt 64 1).toNat : Nat) = _
  rw [key, hx, IntKind.wrap_i64]
  have : xo i ≤ i + 1 := by unfold xo; split <;> omega
  omega
theorem climb_top {f : Int} (hv : 0 ≤ f ∧ f < 4) : ∀ (n m : Nat) (l : List S36) (i : Nat), l.length = 2 ^ n * m → i < l.length → (∀ d ∈ l, pD f d) → climbL f (i : Int) (l.getD i z36).f0 (l.getD i z36).f1 (pth f n l i) = some (((top f n l).getD (i / 2 ^ n) z36).f0, ((top f n l).getD (i / 2 ^ n) z36).f1)
  | 0, m, l, i, _, _, _ => by rw [Nat.pow_zero, Nat.div_one]; rfl
  | n + 1, m, l, i, hl, hi, h => by
    have e : l.length = 2 * (2 ^ n * m) := by rw [hl, Nat.pow_succ, Nat.mul_comm (2 ^ n) 2, Nat.mul_assoc]
    have eu : (upS f l).length = 2 ^ n * m := by rw [upS_len f _ l (Nat.le_refl _), e]; omega
    have hx : xo i < l.length := by rw [e]; rw [e] at hi; exact xo_lt hi
    have ih := climb_top hv n m (upS f l) (i / 2) eu (by rw [eu]; omega) (upL_s hv _ l (Nat.le_refl _) fun d hd => (h d hd).nn).2
    rw [upS_get f _ l (i / 2) (Nat.le_refl _) (by rw [e]; omega)] at ih
    rw [pth, climbL, bits_and_one, show ((i : Int) / 2) = ((i / 2 : Nat) : Int) by omega, Nat.pow_succ, Nat.mul_comm (2 ^ n) 2, ← Nat.div_div_eq_div_mul, top]
    by_cases ho : i % 2 = 0
    · rw [show ((i : Int) % 2 == 1) = false by rw [beq_eq_false_iff_ne]; omega, if_neg (by decide)]
      have ex : xo i = 2 * (i / 2) + 1 := by unfold xo; rw [if_pos ho]; omega
      rw [ex] at hx ⊢
      rw [show l.getD i z36 = l.getD (2 * (i / 2)) z36 by congr 1; omega]
      refine bnd (node_s hv _ _ (h _ (getD_mem (by rw [e]; rw [e] at hi; omega))).nn (h _ (getD_mem hx)).nn).1 ih
    · rw [show ((i : Int) % 2 == 1) = true by rw [beq_iff_eq]; omega, if_pos rfl]
      have ex : xo i = 2 * (i / 2) := by unfold xo; rw [if_neg ho]; omega
      rw [ex] at hx ⊢
      rw [show l.getD i z36 = l.getD (2 * (i / 2) + 1) z36 by congr 1; omega]
      refine bnd (node_s hv _ _ (h _ (getD_mem hx)).nn (h _ (getD_mem (by rw [e]; rw [e] at hi; omega))).nn).1 ih
theorem riseL_s {f : Int} (hv : 0 ≤ f ∧ f < 4) (c : Nat) : ∀ (n k : Nat) (l : List S36), n < k → l.length = 2 ^ (n + c) → (∀ d ∈ l, nnD d) → riseL f ((2 ^ c : Nat) : Int) k l = some (lvl f n l)
  | _, 0, _, hk, _, _ => by omega
  | 0, k + 1, l, _, hl, _ => by
    rw [riseL, if_neg (by rw [Nat.zero_add] at hl; omega), lvl]
  | n + 1, k + 1, l, hk, hl, h => by
    have hp : 2 ^ c < 2 ^ (n + 1 + c) := Nat.pow_lt_pow_right (by omega) (by omega)
    obtain ⟨hu, hn⟩ := upL_s hv _ l (Nat.le_refl _) h
    rw [riseL, if_pos (by omega), lvl]
    refine bnd hu (bnd (riseL_s hv c n k (upS f l) (by omega) ?_ fun d hd => (hn d hd).nn) rfl)
    rw [upS_len f _ l (Nat.le_refl _), hl, show n + 1 + c = (n + c) + 1 by omega, Nat.pow_succ]; omega
theorem rd_top (f : Int) (n j : Nat) (l : List S36) (h : j ≤ n) : rd_L3 (lvl f n l) (j : Int) = top f j l := by
  unfold rd_L3
  rw [Int.toNat_natCast, lvl_get f n j l h]
theorem build_f {f : Int} (hv : 0 ≤ f ∧ f < 4) (n c k : Nat) (l : List S36) (hk : n < k) (hn : n + c ≤ 18) (hl : l.length = 2 ^ (n + c)) (h : ∀ d ∈ l, pD f d) : tree_Build.f k f l (c : Int) = some (f, ((n + c : Nat) : Int), (c : Int), lvl f n l, 0) := by
  have hh : tree_height.f (l.length : Int) = some ((n + c : Nat) : Int) := by rw [hl, height_f, (keys ⟨n + c, by omega⟩).2.2.2]
  unfold tree_Build.f
  refine bnd hh (bnd (valid_f f) ?_)
  rw [decide_eq_true hv, if_pos rfl, if_neg (by omega), if_neg (by omega), if_neg (by omega)]
  refine bnd (proper_f f l) ?_
  rw [all_ok h, if_pos rfl, shl_of c (by omega)]
  exact bnd (riseL_s hv c n k l hk hl fun d hd => (h d hd).nn) rfl
theorem valid_l {f : Int} (hv : 0 ≤ f ∧ f < 4) (n c : Nat) (l : List S36) (hn : n + c ≤ 18) (hl : l.length = 2 ^ (n + c)) (h : ∀ d ∈ l, pD f d) : ∀ m j k, m + j = n + 1 → m < k → tree_Valid.l0 k (lvl f n l) ((n + 1 : Nat) : Int) (j : Int) f ((n + c : Nat) : Int) (c : Int) (lvl f n l) = some true
  | _, _, 0, _, hk => by omega
  | 0, j, k + 1, hj, _ => by rw [tree_Valid.l0, if_neg (by omega)]
  | m + 1, j, k + 1, hj, hk => by
    have w : wrap64 (((n + c : Nat) : Int) - (j : Int)) = ((n + c - j : Nat) : Int) := by unfold wrap64; omega
    have ht : (top f j l).length = 2 ^ (n + c - j) := top_len f j (n + c - j) l (by rw [hl]; congr 1; omega)
    rw [tree_Valid.l0, if_pos (by omega), if_pos (by omega), if_pos (by rw [lvl_len]; omega), w, if_pos (by omega), rd_top f n j l (by omega), shl_of _ (by omega), if_pos (by rw [ht])]
    refine bnd (proper_f f _) ?_
    rw [all_ok (top_p hv j l h), if_pos rfl, show wrap64 ((j : Int) + 1) = ((j + 1 : Nat) : Int) by unfold wrap64; omega]
    exact valid_l hv n c l hn hl h m (j + 1) k (by omega) (by omega)
theorem tvalid_f {f : Int} (hv : 0 ≤ f ∧ f < 4) (n c k : Nat) (l : List S36) (hk : n + 2 < k) (hn : n + c ≤ 18) (hl : l.length = 2 ^ (n + c)) (h : ∀ d ∈ l, pD f d) : tree_Valid.f k f ((n + c : Nat) : Int) (c : Int) (lvl f n l) = some true := by
  unfold tree_Valid.f
  refine bnd (valid_f f) ?_
  obtain ⟨k, rfl⟩ : ∃ q, k = q + 1 := ⟨k - 1, by omega⟩
  have w : wrap64 (wrap64 (((n + c : Nat) : Int) - (c : Int)) + 1) = ((n + 1 : Nat) : Int) := by
    rw [show wrap64 (((n + c : Nat) : Int) - (c : Int)) = (n : Int) by unfold wrap64; omega]
    unfold wrap64; omega
  rw [decide_eq_true hv, if_pos rfl, if_neg (by omega), if_neg (by omega), if_neg (by omega), if_neg (by omega), w, lvl_len, bne_self_eq_false, tree_Valid.j0, if_neg (by decide), lvl_len]
  exact valid_l hv n c l hn hl h (n + 1) 0 k (by omega) (by omega)
theorem tcap_f {f : Int} (hv : 0 ≤ f ∧ f < 4) (n c k : Nat) (l : List S36) (hk : n + 2 < k) (hn : n + c ≤ 18) (hl : l.length = 2 ^ (n + c)) (h : ∀ d ∈ l, pD f d) : tree_Cap.f k f ((n + c : Nat) : Int) (c : Int) (lvl f n l) = some (top f n l) := by
  have w : wrap64 (((n + 1 : Nat) : Int) - 1) = (n : Int) := by unfold wrap64; omega
  have hc : 2 ^ c ≤ 2 ^ 18 := Nat.pow_le_pow_right (by omega) (by omega)
  unfold tree_Cap.f
  refine bnd (tvalid_f hv n c k l hk hn hl h) ?_
  rw [if_pos rfl, lvl_len, w, if_pos (by omega), if_pos (by omega), rd_top f n n l (Nat.le_refl _)]
  refine bnd (clone_f _ ?_) rfl
  rw [top_len f n c l hl]
  omega
theorem tplace_f {f : Int} (hv : 0 ≤ f ∧ f < 4) (n c k i : Nat) (l : List S36) (hk : n + 2 < k) (hn : n + c ≤ 18) (hl : l.length = 2 ^ (n + c)) (h : ∀ d ∈ l, pD f d) : tree_place.f k f ((n + c : Nat) : Int) (c : Int) (lvl f n l) (i : Int) = some (if i < l.length then 0 else 2) := by
  unfold tree_place.f
  refine bnd (tvalid_f hv n c k l hk hn hl h) ?_
  rw [if_pos rfl, if_neg (by omega), lvl_len, if_pos (by omega), show rd_L3 (lvl f n l) 0 = l from rd_top f n 0 l (Nat.zero_le _)]
  by_cases hi : i < l.length
  · rw [if_neg (by omega), if_pos hi]
  · rw [if_pos (by omega), if_neg hi]
theorem path_l (f : Int) (n c : Nat) (l : List S36) (hn : n + c ≤ 18) (hl : l.length = 2 ^ (n + c)) : ∀ (m j k i : Nat) (acc : List S36), m + j = n → m < k → acc.length = j → i < 2 ^ (n + c - j) → tree_Path.l0 k (i : Int) acc ((lvl f n l).take n) (n : Int) (j : Int) = some (acc ++ pth f m (top f j l) i, 0)
  | _, _, 0, _, _, _, hk, _, _ => by omega
  | 0, j, k + 1, i, acc, hj, _, _, _ => by rw [tree_Path.l0, if_neg (by omega), pth, List.append_nil]
  | m + 1, j, k + 1, i, acc, hj, hk, ha, hi => by
    have ht : (top f j l).length = 2 ^ (n + c - j) := top_len f j (n + c - j) l (by rw [hl]; congr 1; omega)
    have hp : 2 ^ (n + c - j) = 2 * 2 ^ (n + c - (j + 1)) := by rw [show n + c - j = (n + c - (j + 1)) + 1 by omega, Nat.pow_succ]; omega
    have hb : 2 ^ (n + c - j) ≤ 2 ^ 18 := Nat.pow_le_pow_right (by omega) (by omega)
    have hr : rd_L3 ((lvl f n l).take n) (j : Int) = top f j l := by
      unfold rd_L3
      rw [Int.toNat_natCast, ← lvl_get f n j l (by omega)]
      simp [List.getD, List.getElem?_take, show j < n by omega]
    have hx : xo i < 2 ^ (n + c - j) := by rw [hp]; rw [hp] at hi; exact xo_lt hi
    have hlen : ((lvl f n l).take n).length = n := by rw [List.length_take, lvl_len]; omega
    rw [tree_Path.l0, if_pos (by omega), if_pos (by omega), if_pos (by rw [hlen]; omega), bits_xor_one i (by omega), if_pos (by omega), hr, if_pos (by rw [ht]; omega), if_pos (by omega), show wrap64 ((j : Int) + 1) = ((j + 1 : Nat) : Int) by unfold wrap64; omega, show ((i : Int) / 2) = ((i / 2 : Nat) : Int) by omega]
    have ih := path_l f n c l hn hl m (j + 1) k (i / 2) (acc ++ [(top f j l).getD (xo i) z36]) (by omega) (by omega) (by rw [List.length_append, ha]; rfl) (by omega)
    rw [top_succ, List.append_assoc] at ih
    exact ih
theorem tpath_f {f : Int} (hv : 0 ≤ f ∧ f < 4) (n c k i : Nat) (l : List S36) (hk : n + 2 < k) (hn : n + c ≤ 18) (hl : l.length = 2 ^ (n + c)) (h : ∀ d ∈ l, pD f d) (hi : i < l.length) : tree_Path.f k f ((n + c : Nat) : Int) (c : Int) (lvl f n l) (i : Int) = some (pth f n l i, 0) := by
  have w : wrap64 (((n + 1 : Nat) : Int) - 1) = (n : Int) := by unfold wrap64; omega
  unfold tree_Path.f
  refine bnd (tplace_f hv n c k i l hk hn hl h) ?_
  rw [if_pos hi, if_pos rfl, lvl_len, w, if_pos (by omega), if_pos (by omega), Int.toNat_natCast]
  refine bnd rfl ?_
  rw [show ((lvl f n l).take n).length = n by rw [List.length_take, lvl_len]; omega]
  exact path_l f n c l hn hl n 0 k i [] (by omega) (by omega) rfl (by rw [Nat.sub_zero, ← hl]; exact hi)
theorem tpath_no {f : Int} (hv : 0 ≤ f ∧ f < 4) (n c k i : Nat) (l : List S36) (hk : n + 2 < k) (hn : n + c ≤ 18) (hl : l.length = 2 ^ (n + c)) (h : ∀ d ∈ l, pD f d) (hi : ¬ i < l.length) : tree_Path.f k f ((n + c : Nat) : Int) (c : Int) (lvl f n l) (i : Int) = some ([], 2) := by
  unfold tree_Path.f
  refine bnd (tplace_f hv n c k i l hk hn hl h) ?_
  rw [if_neg hi, if_neg (by decide)]
theorem rd_nn {l : List Int} (h : ∀ x ∈ l, 0 ≤ x) (i : Int) : 0 ≤ rd l i := by
  unfold rd
  by_cases hi : i.toNat < l.length
  · have e : l.getD i.toNat 0 = l[i.toNat] := by simp [List.getD, hi]
    rw [e]; exact h _ (List.getElem_mem hi)
  · have e : l.getD i.toNat 0 = 0 := by simp [List.getD, Nat.not_lt.mp hi]
    rw [e]; omega
theorem leaves_l {f : Int} (hv : 0 ≤ f ∧ f < 4) (x : Nat) (hx : x ≤ 18) (s : List Int) (hs : ∀ y ∈ s, 0 ≤ y) : ∀ m j k (acc : List S36), m + j = 2 ^ x → m < k → acc.length = j → (∀ d ∈ acc, pD f d) → ∃ L, attestorlaw07_leaves.l0 k f (x : Int) s acc (j : Int) = some L ∧ L.length = 2 ^ x ∧ ∀ d ∈ L, pD f d
  | _, _, 0, _, _, hk, _, _ => by omega
  | 0, j, k + 1, acc, hj, _, ha, hp => ⟨acc, by rw [attestorlaw07_leaves.l0, if_pos (by omega), shl_of x (by omega), if_neg (by omega)], by omega, hp⟩
  | m + 1, j, k + 1, acc, hj, hk, ha, hp => by
    have hb : 2 ^ x ≤ 2 ^ 18 := Nat.pow_le_pow_right (by omega) hx
    have hf : 0 < fp f := by
      obtain ⟨p, g, e, D⟩ := fd_of hv.1 hv.2
      rw [D.F.eq]; have := D.p96; omega
    have next : ∀ u v : Int, 0 ≤ u → 0 ≤ v → ∃ L, attestorlaw07_leaves.l0 k f (x : Int) s (acc ++ [(⟨Int.tmod u (fp f), Int.tmod v (fp f)⟩ : S36)]) (wrap64 ((j : Int) + 1)) = some L ∧ L.length = 2 ^ x ∧ ∀ d ∈ L, pD f d := by
      intro u v hu hw
      rw [show wrap64 ((j : Int) + 1) = ((j + 1 : Nat) : Int) by unfold wrap64; omega]
      refine leaves_l hv x hx s hs m (j + 1) k _ (by omega) (by omega) (by rw [List.length_append, ha]; rfl) fun d hd => ?_
      rcases List.mem_append.mp hd with hd | hd
      · exact hp d hd
      · obtain rfl := List.mem_singleton.mp hd
        exact ⟨⟨Int.tmod_nonneg _ hu, Int.tmod_lt_of_pos _ hf⟩, Int.tmod_nonneg _ hw, Int.tmod_lt_of_pos _ hf⟩
    have un : ∀ y : Int, 0 ≤ IntKind.u64.wrap y := fun y => by rw [IntKind.wrap_u64]; omega
    rw [attestorlaw07_leaves.l0, if_pos (by omega), shl_of x (by omega), if_pos (by omega), P_f]
    by_cases hjs : (j : Int) < (s.length : Int)
    · rw [if_pos hjs, if_pos (by omega), Option.bind_some, if_neg (by omega), Option.bind_some, if_neg (by omega), if_pos (by omega)]
      exact next _ _ (rd_nn hs _) (un _)
    · rw [if_neg hjs, Option.bind_some, if_neg (by omega), Option.bind_some, if_neg (by omega), if_pos (by omega)]
      exact next _ _ (un _) (un _)
theorem leaves_f {f : Int} (hv : 0 ≤ f ∧ f < 4) (x k : Nat) (hx : x ≤ 18) (hk : 2 ^ x < k) (s : List Int) (hs : ∀ y ∈ s, 0 ≤ y) : ∃ L, attestorlaw07_leaves.f k f (x : Int) s = some L ∧ L.length = 2 ^ x ∧ ∀ d ∈ L, pD f d :=
  leaves_l hv x hx s hs (2 ^ x) 0 k [] (by omega) hk rfl fun d hd => by simp at hd
end Go.Proofs.YtpnpmeogffodgaaDoor.Q
end
section
namespace Go.Proofs.YtpnpmeogffodgaaDoor.Q
open Go.RowKit Go.Proofs.YtpnpmeogffodgaaDoorW.PrintWords Go.Proofs.YtpnpmeogffodgaaDoorW.PrintLast Go.Proofs.YtpnpmeogffodgaaDoorW.PrintMore
attribute [local go_sem] max2_int min2_int max_two min_two max_three min_three max_four min_four run_store_fnV run_store_fnc run_store_nfn   -- for this text's walks alone
set_option linter.unusedVariables false
set_option linter.unusedSimpArgs false

attribute [local go_sem high] eqA36
abbrev z6_0_ : Array Bool := #[false, false, false, false, false, false, false, false, false, false, false, false, false, false, false, false, false, false, false, false, false, false, false, false, false, false, false, false, false, false, false, false, false, false, false, false, false, false, false, false, false]
abbrev z6_1_ : Array Bool := #[true, false, false, false, false, false, false, false, false, false, false, false, false, false, false, false, false, false, false, false, false, false, false, false, false, false, false, false, false, false, false, false, false, false, false, false, false, false, false, false, false]
abbrev z6_2_ : Array Bool := #[true, true, false, false, false, false, false, false, false, false, false, false, false, false, false, false, false, false, false, false, false, false, false, false, false, false, false, false, false, false, false, false, false, false, false, false, false, false, false, false, false]
abbrev z6_3_ : Array Bool := #[true, true, true, false, false, false, false, false, false, false, false, false, false, false, false, false, false, false, false, false, false, false, false, false, false, false, false, false, false, false, false, false, false, false, false, false, false, false, false, false, false]
abbrev z6_4_ : Array Bool := #[true, true, true, true, false, false, false, false, false, false, false, false, false, false, false, false, false, false, false, false, false, false, false, false, false, false, false, false, false, false, false, false, false, false, false, false, false, false, false, false, false]
abbrev z6_5_ : Array Bool := #[true, true, true, true, true, false, false, false, false, false, false, false, false, false, false, false, false, false, false, false, false, false, false, false, false, false, false, false, false, false, false, false, false, false, false, false, false, false, false, false, false]
abbrev z6_6_ : Array Bool := #[true, true, true, true, true, true, false, false, false, false, false, false, false, false, false, false, false, false, false, false, false, false, false, false, false, false, false, false, false, false, false, false, false, false, false, false, false, false, false, false, false]
abbrev z6_7_ : Array Bool := #[true, true, true, true, true, true, true, false, false, false, false, false, false, false, false, false, false, false, false, false, false, false, false, false, false, false, false, false, false, false, false, false, false, false, false, false, false, false, false, false, false]
abbrev z6_8_ : Array Bool := #[true, true, true, true, true, true, true, true, false, false, false, false, false, false, false, false, false, false, false, false, false, false, false, false, false, false, false, false, false, false, false, false, false, false, false, false, false, false, false, false, false]
abbrev z6_9_ : Array Bool := #[true, true, true, true, true, true, true, true, true, false, false, false, false, false, false, false, false, false, false, false, false, false, false, false, false, false, false, false, false, false, false, false, false, false, false, false, false, false, false, false, false]
abbrev z6_10_ : Array Bool := #[true, true, true, true, true, true, true, true, true, true, false, false, false, false, false, false, false, false, false, false, false, false, false, false, false, false, false, false, false, false, false, false, false, false, false, false, false, false, false, false, false]
abbrev z6_11_ : Array Bool := #[true, true, true, true, true, true, true, true, true, true, true, false, false, false, false, false, false, false, false, false, false, false, false, false, false, false, false, false, false, false, false, false, false, false, false, false, false, false, false, false, false]
abbrev z6_12_ : Array Bool := #[true, true, true, true, true, true, true, true, true, true, true, true, false, false, false, false, false, false, false, false, false, false, false, false, false, false, false, false, false, false, false, false, false, false, false, false, false, false, false, false, false]
abbrev z6_13_ : Array Bool := #[true, true, true, true, true, true, true, true, true, true, true, true, true, false, false, false, false, false, false, false, false, false, false, false, false, false, false, false, false, false, false, false, false, false, false, false, false, false, false, false, false]
abbrev z6_14_ : Array Bool := #[true, true, true, true, true, true, true, true, true, true, true, true, true, true, false, false, false, false, false, false, false, false, false, false, false, false, false, false, false, false, false, false, false, false, false, false, false, false, false, false, false]
abbrev z6_15_ : Array Bool := #[true, true, true, true, true, true, true, true, true, true, true, true, true, true, true, false, false, false, false, false, false, false, false, false, false, false, false, false, false, false, false, false, false, false, false, false, false, false, false, false, false]
abbrev z6_16_ : Array Bool := #[true, true, true, true, true, true, true, true, true, true, true, true, true, true, true, true, false, false, false, false, false, false, false, false, false, false, false, false, false, false, false, false, false, false, false, false, false, false, false, false, false]
abbrev z6_17_ : Array Bool := #[true, true, true, true, true, true, true, true, true, true, true, true, true, true, true, true, true, false, false, false, false, false, false, false, false, false, false, false, false, false, false, false, false, false, false, false, false, false, false, false, false]
abbrev z6_18_ : Array Bool := #[true, true, true, true, true, true, true, true, true, true, true, true, true, true, true, true, true, false, true, false, false, false, false, false, false, false, false, false, false, false, false, false, false, false, false, false, false, false, false, false, false]
abbrev z6_19_ : Array Bool := #[true, true, true, true, true, true, true, true, true, true, true, true, true, true, true, true, true, true, true, false, false, false, false, false, false, false, false, false, false, false, false, false, false, false, false, false, false, false, false, false, false]
abbrev z6_20_ : Array Bool := #[true, true, true, true, true, true, true, true, true, true, true, true, true, true, true, true, true, true, true, true, false, false, false, false, false, false, false, false, false, false, false, false, false, false, false, false, false, false, false, false, false]
abbrev z6_21_ : Array Bool := #[true, true, true, true, true, true, true, true, true, true, true, true, true, true, true, true, true, true, true, true, true, false, false, false, false, false, false, false, false, false, false, false, false, false, false, false, false, false, false, false, false]
abbrev z6_22_ : Array Bool := #[true, true, true, true, true, true, true, true, true, true, true, true, true, true, true, true, true, true, true, true, true, true, false, false, false, false, false, false, false, false, false, false, false, false, false, false, false, false, false, false, false]
abbrev z6_23_ : Array Bool := #[true, true, true, true, true, true, true, true, true, true, true, true, true, true, true, true, true, true, true, true, true, true, true, false, false, false, false, false, false, false, false, false, false, false, false, false, false, false, false, false, false]
abbrev z6_24_ : Array Bool := #[true, true, true, true, true, true, true, true, true, true, true, true, true, true, true, true, true, true, true, true, true, true, true, true, false, false, false, false, false, false, false, false, false, false, false, false, false, false, false, false, false]
abbrev z6_25_ : Array Bool := #[true, true, true, true, true, true, true, true, true, true, true, true, true, true, true, true, true, true, true, true, true, true, true, true, true, false, false, false, false, false, false, false, false, false, false, false, false, false, false, false, false]
abbrev z6_26_ : Array Bool := #[true, true, true, true, true, true, true, true, true, true, true, true, true, true, true, true, true, true, true, true, true, true, true, true, true, true, false, false, false, false, false, false, false, false, false, false, false, false, false, false, false]
abbrev z6_27_ : Array Bool := #[true, true, true, true, true, true, true, true, true, true, true, true, true, true, true, true, true, true, true, true, true, true, true, true, true, true, true, false, false, false, false, false, false, false, false, false, false, false, false, false, false]
abbrev z6_28_ : Array Bool := #[true, true, true, true, true, true, true, true, true, true, true, true, true, true, true, true, true, true, true, true, true, true, true, true, true, true, true, true, false, false, false, false, false, false, false, false, false, false, false, false, false]
abbrev z6_29_ : Array Bool := #[true, true, true, true, true, true, true, true, true, true, true, true, true, true, true, true, true, true, true, true, true, true, true, true, true, true, true, true, false, true, false, false, false, false, false, false, false, false, false, false, false]
abbrev z6_30_ : Array Bool := #[true, true, true, true, true, true, true, true, true, true, true, true, true, true, true, true, true, true, true, true, true, true, true, true, true, true, true, true, false, true, false, true, false, false, false, false, false, false, false, false, false]
abbrev z6_31_ : Array Bool := #[true, true, true, true, true, true, true, true, true, true, true, true, true, true, true, true, true, true, true, true, true, true, true, true, true, true, true, true, false, true, false, true, true, false, false, false, false, false, false, false, false]
abbrev z6_32_ : Array Bool := #[true, true, true, true, true, true, true, true, true, true, true, true, true, true, true, true, true, true, true, true, true, true, true, true, true, true, true, true, false, true, false, true, true, true, false, false, false, false, false, false, false]
abbrev z6_33_ : Array Bool := #[true, true, true, true, true, true, true, true, true, true, true, true, true, true, true, true, true, true, true, true, true, true, true, true, true, true, true, true, false, true, false, true, true, true, true, false, false, false, false, false, false]
abbrev z6_34_ : Array Bool := #[true, true, true, true, true, true, true, true, true, true, true, true, true, true, true, true, true, true, true, true, true, true, true, true, true, true, true, true, false, true, false, true, true, true, true, true, false, false, false, false, false]
abbrev z6_35_ : Array Bool := #[true, true, true, true, true, true, true, true, true, true, true, true, true, true, true, true, true, true, true, true, true, true, true, true, true, true, true, true, false, true, false, true, true, true, true, true, true, false, false, false, false]
abbrev z6_36_ : Array Bool := #[true, true, true, true, true, true, true, true, true, true, true, true, true, true, true, true, true, true, true, true, true, true, true, true, true, true, true, true, false, true, false, true, true, true, true, true, true, true, false, false, false]
abbrev z6_37_ : Array Bool := #[true, true, true, true, true, true, true, true, true, true, true, true, true, true, true, true, true, true, true, true, true, true, true, true, true, true, true, true, true, true, false, true, true, true, true, true, true, true, false, false, false]
abbrev z6_38_ : Array Bool := #[true, true, true, true, true, true, true, true, true, true, true, true, true, true, true, true, true, true, true, true, true, true, true, true, true, true, true, true, true, true, false, true, true, true, true, true, true, true, true, false, false]
abbrev z6_39_ : Array Bool := #[true, true, true, true, true, true, true, true, true, true, true, true, true, true, true, true, true, true, true, true, true, true, true, true, true, true, true, true, true, true, true, true, true, true, true, true, true, true, true, false, false]
abbrev z6_40_ : Array Bool := #[true, true, true, true, true, true, true, true, true, true, true, true, true, true, true, true, true, true, true, true, true, true, true, true, true, true, true, true, true, true, true, true, true, true, true, true, true, true, true, true, false]
abbrev z6_41_ : Array Bool := #[true, true, true, true, true, true, true, true, true, true, true, true, true, true, true, true, true, true, true, true, true, true, true, true, true, true, true, true, true, true, true, true, true, true, true, true, true, true, true, true, true]
/-! ### attestorlaw07_TreeOpens: function 6 -/
mutual
def attestorlaw07_TreeOpens.j0 : Nat → Int → Int → Int → List (S36) → List (S36) → Bool → Int → Int → Int → List (List (S36)) → Option (Bool)
  | 0, _, _, _, _, _, _, _, _, _, _ => none
  | k + 1, x9, x10, x11, x12, x15, x58, x649000, x649001, x649002, x649003 => if x58 = true then (none) else (attestorlaw07_TreeOpens.l0 k x9 x10 x11 x12 x15 0 x649000 x649001 x649002 x649003)
def attestorlaw07_TreeOpens.l0 : Nat → Int → Int → Int → List (S36) → List (S36) → Int → Int → Int → Int → List (List (S36)) → Option (Bool)
  | 0, _, _, _, _, _, _, _, _, _, _ => none
  | k + 1, x9, x10, x11, x12, x15, x16, x649000, x649001, x649002, x649003 => if x16 < (x12.length : Int) then ((tree_Path.f k x649000 x649001 x649002 x649003 x16).bind fun bt658 => (if bt658.2 = 0 then (if (bt658.1.length : Int) = (wrap64 (x10 - x11)) then (if 0 ≤ x16 then ((tree_Check.f x9 x15 x16 ((rd_T36 x12 x16).f0) ((rd_T36 x12 x16).f1) bt658.1).bind fun t663 => (if t663 = true then ((tree_Climb.f x9 x16 ((rd_T36 x12 x16).f0) ((rd_T36 x12 x16).f1) bt658.1).bind fun bt665 => (if 0 ≤ (wrap64 (x10 - x11)) then (if 0 ≤ (shr .i64 x16 (wrap64 (x10 - x11))) then (if (shr .i64 x16 (wrap64 (x10 - x11))) < (x15.length : Int) then (if (!(bt665.1 == ((rd_T36 x15 (shr .i64 x16 (wrap64 (x10 - x11)))).f0)) || (!(bt665.2 == ((rd_T36 x15 (shr .i64 x16 (wrap64 (x10 - x11)))).f1)))) = true then (none) else (attestorlaw07_TreeOpens.l0 k x9 x10 x11 x12 x15 (wrap64 (x16 + 1)) x649000 x649001 x649002 x649003)) else (none)) else (none)) else (none))) else (none))) else (none)) else (none)) else (none))) else ((tree_Path.f k x649000 x649001 x649002 x649003 (x12.length : Int)).bind fun bt653 => (if bt653.2 = 2 then ((attestorlaw07_lives.f k).bind fun t657 => (some t657)) else (none)))
end
def attestorlaw07_TreeOpens.f (k : Nat) (a0 : Int) (a1 : Int) (a2 : Int) (l3 : List Int) : Option (Bool) := if (wrap64 ((wrap64 (Int.tmod a1 6)) + 1)) = 0 then (none) else ((attestorlaw07_leaves.f k (wrap64 (Int.tmod a0 4)) (wrap64 (Int.tmod a1 6)) l3).bind fun t638 => ((tree_Build.f k (wrap64 (Int.tmod a0 4)) t638 (Int.tmod (wrap64 (a2)) (wrap64 ((wrap64 (Int.tmod a1 6)) + 1)))).bind fun bt641 => ((tree_Cap.f k bt641.1 bt641.2.1 bt641.2.2.1 bt641.2.2.2.1).bind fun t649 => (if bt641.2.2.2.2 = 0 then ((tree_Valid.f k bt641.1 bt641.2.1 bt641.2.2.1 bt641.2.2.2.1).bind fun t652 => (if t652 = true then (if 0 ≤ (Int.tmod (wrap64 (a2)) (wrap64 ((wrap64 (Int.tmod a1 6)) + 1))) then (attestorlaw07_TreeOpens.j0 k (wrap64 (Int.tmod a0 4)) (wrap64 (Int.tmod a1 6)) (Int.tmod (wrap64 (a2)) (wrap64 ((wrap64 (Int.tmod a1 6)) + 1))) t638 t649 ((t649.length : Int) != (shl .i64 1 (Int.tmod (wrap64 (a2)) (wrap64 ((wrap64 (Int.tmod a1 6)) + 1))))) bt641.1 bt641.2.1 bt641.2.2.1 bt641.2.2.2.1) else (none)) else (none))) else (none)))))
theorem attestorlaw07_TreeOpens.mono_l : ∀ k, (∀ y0 y1 y2 y3 y4 y5 y6 y7 y8 y9, LeO (attestorlaw07_TreeOpens.j0 k y0 y1 y2 y3 y4 y5 y6 y7 y8 y9) (attestorlaw07_TreeOpens.j0 (k + 1) y0 y1 y2 y3 y4 y5 y6 y7 y8 y9)) ∧ (∀ y0 y1 y2 y3 y4 y5 y6 y7 y8 y9, LeO (attestorlaw07_TreeOpens.l0 k y0 y1 y2 y3 y4 y5 y6 y7 y8 y9) (attestorlaw07_TreeOpens.l0 (k + 1) y0 y1 y2 y3 y4 y5 y6 y7 y8 y9))
  | 0 => ⟨fun _ _ _ _ _ _ _ _ _ _ r h => by simp [attestorlaw07_TreeOpens.j0] at h, fun _ _ _ _ _ _ _ _ _ _ r h => by simp [attestorlaw07_TreeOpens.l0] at h⟩
  | k + 1 => by
    obtain ⟨ih0, ih1⟩ := attestorlaw07_TreeOpens.mono_l k
    refine ⟨?_, ?_⟩
    · intro y0 y1 y2 y3 y4 y5 y6 y7 y8 y9
      unfold attestorlaw07_TreeOpens.j0
      repeat' first
      | (with_reducible exact ih0 _ _ _ _ _ _ _ _ _ _)
      | (with_reducible exact ih1 _ _ _ _ _ _ _ _ _ _)
      | (with_reducible exact attestorlaw07_leaves.mono _ _ _ _)
      | (with_reducible exact attestorlaw07_lives.mono _)
      | (with_reducible exact tree_Build.mono _ _ _ _)
      | (with_reducible exact tree_Cap.mono _ _ _ _ _)
      | (with_reducible exact tree_Path.mono _ _ _ _ _ _)
      | (with_reducible exact tree_Valid.mono _ _ _ _ _)
      | (with_reducible exact LeO.refl _)
      | (with_reducible exact LeO.none _)
      | (with_reducible refine LeO.ite ?_ ?_)
      | (with_reducible refine LeO.bind ?_ (fun _ => ?_))
      | exact ih0 _ _ _ _ _ _ _ _ _ _
      | exact ih1 _ _ _ _ _ _ _ _ _ _
      | exact attestorlaw07_leaves.mono _ _ _ _
      | exact attestorlaw07_lives.mono _
      | exact tree_Build.mono _ _ _ _
      | exact tree_Cap.mono _ _ _ _ _
      | exact tree_Path.mono _ _ _ _ _ _
      | exact tree_Valid.mono _ _ _ _ _
      | exact LeO.none _
      | refine LeO.ite ?_ ?_
      | refine LeO.bind ?_ (fun _ => ?_)
    · intro y0 y1 y2 y3 y4 y5 y6 y7 y8 y9
      unfold attestorlaw07_TreeOpens.l0
      repeat' first
      | (with_reducible exact ih0 _ _ _ _ _ _ _ _ _ _)
      | (with_reducible exact ih1 _ _ _ _ _ _ _ _ _ _)
      | (with_reducible exact attestorlaw07_leaves.mono _ _ _ _)
      | (with_reducible exact attestorlaw07_lives.mono _)
      | (with_reducible exact tree_Build.mono _ _ _ _)
      | (with_reducible exact tree_Cap.mono _ _ _ _ _)
      | (with_reducible exact tree_Path.mono _ _ _ _ _ _)
      | (with_reducible exact tree_Valid.mono _ _ _ _ _)
      | (with_reducible exact LeO.refl _)
      | (with_reducible exact LeO.none _)
      | (with_reducible refine LeO.ite ?_ ?_)
      | (with_reducible refine LeO.bind ?_ (fun _ => ?_))
      | exact ih0 _ _ _ _ _ _ _ _ _ _
      | exact ih1 _ _ _ _ _ _ _ _ _ _
      | exact attestorlaw07_leaves.mono _ _ _ _
      | exact attestorlaw07_lives.mono _
      | exact tree_Build.mono _ _ _ _
      | exact tree_Cap.mono _ _ _ _ _
      | exact tree_Path.mono _ _ _ _ _ _
      | exact tree_Valid.mono _ _ _ _ _
      | exact LeO.none _
      | refine LeO.ite ?_ ?_
      | refine LeO.bind ?_ (fun _ => ?_)
theorem attestorlaw07_TreeOpens.mono : ∀ a0 a1 a2 a3 k, LeO (attestorlaw07_TreeOpens.f k a0 a1 a2 a3) (attestorlaw07_TreeOpens.f (k + 1) a0 a1 a2 a3) := by
  intro a0 a1 a2 a3 k
  obtain ⟨ih0, ih1⟩ := attestorlaw07_TreeOpens.mono_l k
  unfold attestorlaw07_TreeOpens.f
  repeat' first
      | (with_reducible exact ih0 _ _ _ _ _ _ _ _ _ _)
      | (with_reducible exact ih1 _ _ _ _ _ _ _ _ _ _)
      | (with_reducible exact attestorlaw07_leaves.mono _ _ _ _)
      | (with_reducible exact attestorlaw07_lives.mono _)
      | (with_reducible exact tree_Build.mono _ _ _ _)
      | (with_reducible exact tree_Cap.mono _ _ _ _ _)
      | (with_reducible exact tree_Path.mono _ _ _ _ _ _)
      | (with_reducible exact tree_Valid.mono _ _ _ _ _)
      | (with_reducible exact LeO.refl _)
      | (with_reducible exact LeO.none _)
      | (with_reducible refine LeO.ite ?_ ?_)
      | (with_reducible refine LeO.bind ?_ (fun _ => ?_))
      | exact ih0 _ _ _ _ _ _ _ _ _ _
      | exact ih1 _ _ _ _ _ _ _ _ _ _
      | exact attestorlaw07_leaves.mono _ _ _ _
      | exact attestorlaw07_lives.mono _
      | exact tree_Build.mono _ _ _ _
      | exact tree_Cap.mono _ _ _ _ _
      | exact tree_Path.mono _ _ _ _ _ _
      | exact tree_Valid.mono _ _ _ _ _
      | exact LeO.none _
      | refine LeO.ite ?_ ?_
      | refine LeO.bind ?_ (fun _ => ?_)
def attestorlaw07_TreeOpens.T12 : Bool × List (List Nat × List Nat) := (true, [([], []), ([0], [0]), ([1], [1]), ([2], [2]), ([3, 2], [2, 3]), ([2], [2]), ([2], [2]), ([5, 6, 2], [2, 5, 6]), ([4, 7, 2], [2, 4, 7]), ([2, 8], [2, 8]), ([9, 2], [9]), ([10], [10]), ([10], [10]), ([10], [10]), ([10], [10]), ([10], [10]), ([14, 15, 10], [10, 14, 15]), ([16, 10], [10, 16]), ([10], [10]), ([11, 12, 13, 17, 18, 10, 10], [10, 11, 12, 13, 17, 18]), ([19, 10], [10, 19]), ([10, 20], [10, 20]), ([21, 19], [21]), ([22], [22]), ([22], [22]), ([22], [22]), ([22], [22]), ([25, 26, 22], [22, 25, 26]), ([27, 22], [22, 27]), ([22], [22]), ([23, 24, 28, 29, 22, 22], [22, 23, 24, 28, 29]), ([22], [22]), ([22], [22]), ([22], [22]), ([22], [22]), ([33, 34, 22], [22, 33, 34]), ([32, 35, 22], [22, 32, 35]), ([31, 36, 22], [22, 31, 36]), ([37, 22], [22, 37]), ([30, 38, 22], [22, 30, 38]), ([22, 39], [22, 39])])
def attestorlaw07_TreeOpens.B12 : List Nat := [0, 1, 3, 7, 15, 7, 7, 103, 255, 511, 1023, 2047, 2047, 2047, 2047, 2047, 51199, 116735, 2047, 524287, 1048575, 2097151, 4194303, 8388607, 8388607, 8388607, 8388607, 109051903, 243269631, 8388607, 1073741823, 8388607, 8388607, 8388607, 8388607, 25778192383, 64432898047, 135299858431, 272738811903, 549755813887, 1099511627775]
theorem attestorlaw07_TreeOpens.tab12 : rtab .any (opsOf Tryd.f6 12) = attestorlaw07_TreeOpens.T12 := by kernel_rfl
theorem attestorlaw07_TreeOpens.bits12 : waitsOk attestorlaw07_TreeOpens.T12.2 attestorlaw07_TreeOpens.B12 = true := by kernel_rfl
set_option maxHeartbeats 8000000 in
set_option maxRecDepth 100000 in
theorem attestorlaw07_TreeOpens.calls (k : Nat) (a0 : Int) (a1 : Int) (a2 : Int) (A3 : Option Addr) (c3 : Nat) (l3 : List Int) (r : Bool) (w : World) (hr3 : Kd.C (Kd.int .u64) w A3 l3.length l3) (hc3 : l3.length ≤ c3) (hrG : GL w) (h : attestorlaw07_TreeOpens.f k a0 a1 a2 l3 = some r) :
  Calls Tryd.prog 6 #[.int .u8 a0, .int .u8 a1, .int .u8 a2, .slice A3 l3.length c3] w fun e w' => e = .returned (.bool r) ∧ Below w.heap.size w w' := by
 have hu26 := Tryd.underlying26
 have hu36 := Tryd.underlying36
 have HRG := Aside0.mk hrG
 clear hrG
 have HR3 := Aside0.mk hr3
 have HC3 := Aside0.mk hc3
 clear hr3 hc3
 have HB := Aside0.mk (Below.refl w.heap.size w)
 have H : (if (wrap64 ((wrap64 (Int.tmod a1 6)) + 1)) = 0 then (none) else ((attestorlaw07_leaves.f k (wrap64 (Int.tmod a0 4)) (wrap64 (Int.tmod a1 6)) l3).bind fun t638 => ((tree_Build.f k (wrap64 (Int.tmod a0 4)) t638 (Int.tmod (wrap64 (a2)) (wrap64 ((wrap64 (Int.tmod a1 6)) + 1)))).bind fun bt641 => ((tree_Cap.f k bt641.1 bt641.2.1 bt641.2.2.1 bt641.2.2.2.1).bind fun t649 => (if bt641.2.2.2.2 = 0 then ((tree_Valid.f k bt641.1 bt641.2.1 bt641.2.2.1 bt641.2.2.2.1).bind fun t652 => (if t652 = true then (if 0 ≤ (Int.tmod (wrap64 (a2)) (wrap64 ((wrap64 (Int.tmod a1 6)) + 1))) then (attestorlaw07_TreeOpens.j0 k (wrap64 (Int.tmod a0 4)) (wrap64 (Int.tmod a1 6)) (Int.tmod (wrap64 (a2)) (wrap64 ((wrap64 (Int.tmod a1 6)) + 1))) t638 t649 ((t649.length : Int) != (shl .i64 1 (Int.tmod (wrap64 (a2)) (wrap64 ((wrap64 (Int.tmod a1 6)) + 1))))) bt641.1 bt641.2.1 bt641.2.2.1 bt641.2.2.2.1) else (none)) else (none))) else (none)))))) = some r := h
 clear h
 by_cases c5 : (wrap64 ((wrap64 (Int.tmod a1 6)) + 1)) = 0
 ·rw [if_pos c5] at H
  exact absurd H (by simp)
 ·rw [if_neg c5] at H
  have c5b0 : ((wrap64 ((wrap64 (Int.tmod a1 6)) + 1)) == 0) = false := beq_eq_false_iff_ne.mpr c5
  have c5b1 : ((wrap64 ((wrap64 (Int.tmod a1 6)) + 1)) != 0) = true := bne_iff_ne.mpr c5
  replace H := Option.bind_eq_some_iff.mp H
  obtain ⟨t638, A60, H⟩ := H
  have A6 := Aside0.mk A60
  clear A60
  replace H := Option.bind_eq_some_iff.mp H
  obtain ⟨⟨t641, t642, t643, t644, t647⟩, A70, H⟩ := H
  replace H : ((tree_Cap.f k t641 t642 t643 t644).bind fun t649 => (if t647 = 0 then ((tree_Valid.f k t641 t642 t643 t644).bind fun t652 => (if t652 = true then (if 0 ≤ (Int.tmod (wrap64 (a2)) (wrap64 ((wrap64 (Int.tmod a1 6)) + 1))) then (attestorlaw07_TreeOpens.j0 k (wrap64 (Int.tmod a0 4)) (wrap64 (Int.tmod a1 6)) (Int.tmod (wrap64 (a2)) (wrap64 ((wrap64 (Int.tmod a1 6)) + 1))) t638 t649 ((t649.length : Int) != (shl .i64 1 (Int.tmod (wrap64 (a2)) (wrap64 ((wrap64 (Int.tmod a1 6)) + 1))))) t641 t642 t643 t644) else (none)) else (none))) else (none))) = some r := H
  have A7 := Aside0.mk A70
  clear A70
  replace H := Option.bind_eq_some_iff.mp H
  obtain ⟨t649, A80, H⟩ := H
  have A8 := Aside0.mk A80
  clear A80
  have HC9 := Aside0.mk H
  clear H
  go_enter Tryd.func6, Tryd.ntmps6
  go_upto_region 6 with (first | ((with_reducible refine gate_callee (f := 22) rfl ?_); refine goesL_ (some 35) rfl rfl Tryd.func22 (by kernel_rfl) rfl #[.int .i64 (wrap64 (Int.tmod a0 4)), .int .i64 (wrap64 (Int.tmod a1 6)), .slice A3 l3.length c3] rfl (by (try simp only [List.map_toArray, List.map_cons, List.map_nil]); first | done | rfl | (go_simp; done)) ?_; (with_reducible refine (attestorlaw07_leaves.calls k (wrap64 (Int.tmod a0 4)) (wrap64 (Int.tmod a1 6)) _ _ l3 t638 _ ?side1 ?side2 A6.out).mono ?_); (case side1 => repeat (first | exact HR3.out | (with_reducible refine Kd.C_alloc ?_ _) | (with_reducible refine Kd.C_drewN ?_ _) | (with_reducible refine Kd.C_drew ?_))); (case side2 => exact HC3.out); rintro e w10 ⟨v639, rfl, ho0, hb⟩; refine ⟨_, rfl, ?_⟩; have n0_ := Aside0.mk (Kd.R_lower ho0 (below_size (by repeat (first | (with_reducible first | exact HB.out | apply below_alloc | apply pw_below_drewN | apply below_drew1) | exact HB.out)))); have n1_ := Aside0.mk (below_step (by repeat (first | (with_reducible first | exact HB.out | apply below_alloc | apply pw_below_drewN | apply below_drew1) | exact HB.out)) hb); clear HB; have HO640 := n0_; have HB := n1_; clear n0_ n1_; (try clear hb); (try clear hb2); (try clear hk); (try clear hi); (try clear ho0); obtain ⟨Ao11, co11, eo11⟩ := Kd.R_slice HO640.out; subst eo11) | ((with_reducible refine gate_callee (f := 13) rfl ?_); refine goesL_ (some 40) rfl rfl Tryd.func13 (by kernel_rfl) rfl #[.int .i64 (wrap64 (Int.tmod a0 4)), .slice Ao11 t638.length co11, .int .i64 (Int.tmod (wrap64 (a2)) (wrap64 ((wrap64 (Int.tmod a1 6)) + 1)))] rfl (by (try simp only [List.map_toArray, List.map_cons, List.map_nil]); first | done | rfl | (go_simp; done)) ?_; (with_reducible refine (tree_Build.calls k (wrap64 (Int.tmod a0 4)) _ _ t638 (Int.tmod (wrap64 (a2)) (wrap64 ((wrap64 (Int.tmod a1 6)) + 1))) t641 t642 t643 t644 t647 _ ?side1 ?side2 ?side3 A7.out).mono ?_); (case side1 => repeat (first | exact (Kd.R_reads' HO640.out).2.2 | (with_reducible refine Kd.C_alloc ?_ _) | (with_reducible refine Kd.C_drewN ?_ _) | (with_reducible refine Kd.C_drew ?_))); (case side2 => exact (Kd.R_reads' HO640.out).2.1); (case side3 => repeat (first | exact (GL.below HRG.out HB.out) | (with_reducible refine GL.alloc ?_ _) | (with_reducible refine GL.drewN ?_ _) | (with_reducible refine GL.drew ?_))); rintro e w12 ⟨v645, rfl, ho0, hb⟩; refine ⟨_, rfl, ?_⟩; have n0_ := Aside0.mk (Kd.R_below (by (with_reducible repeat (first | apply Kd.R_alloc | apply Kd.R_drewN | apply Kd.R_drew)); exact HO640.out) hb); have n1_ := Aside0.mk (Kd.S_lower (Kd.S_new' ho0 (Kd.R_lt (by (with_reducible repeat (first | apply Kd.R_alloc | apply Kd.R_drewN | apply Kd.R_drew)); exact HO640.out))) (below_size (by repeat (first | (with_reducible first | exact HB.out | apply below_alloc | apply pw_below_drewN | apply below_drew1) | exact HB.out)))); have n2_ := Aside0.mk (below_step (by repeat (first | (with_reducible first | exact HB.out | apply below_alloc | apply pw_below_drewN | apply below_drew1) | exact HB.out)) hb); clear HO640; clear HB; have HO640 := n0_; have HO646 := n1_; have HB := n2_; clear n0_ n1_ n2_; (try clear hb); (try clear hb2); (try clear hk); (try clear hi); (try clear ho0)) | ((with_reducible refine gate_dst (N := 13) rfl ?_); (try (refine gate_guard (by rfl) ?_; dsimp only)); refine box_event ?hg (N := 13) ?hd (cs := #[.int .i64 0, .int .i64 0, .int .i64 0, .slice none 0 0]) (t := 26) ?hr ?_; (case hd => rfl); (case hg => rfl); (case hr => first | (go_simp; done) | (go_simp; rfl)); intro g648 hg w13 hbox hb; have n0_ := Aside0.mk (Kd.R_below (by (with_reducible repeat (first | apply Kd.R_alloc | apply Kd.R_drewN | apply Kd.R_drew)); exact HO640.out) hb); have n1_ := Aside0.mk (Kd.S_below (by (with_reducible repeat (first | apply Kd.S_alloc | apply Kd.S_drewN | apply Kd.S_drew)); exact HO646.out) hb); have n2_ := Aside0.mk (below_step (by repeat (first | (with_reducible first | exact HB.out | apply below_alloc | apply pw_below_drewN | apply below_drew1) | exact HB.out)) hb); have n3_ := Aside0.mk (hbox); have n4_ := Aside0.mk ((by rw [hg]; exact (below_size (by repeat (first | (with_reducible first | exact HB.out | apply below_alloc | apply pw_below_drewN | apply below_drew1) | exact HB.out))) : w.heap.size ≤ g648)); have n5_ := Aside0.mk ((by rw [hg]; exact (below_size (by repeat (first | (with_reducible first | exact HB.out | apply below_alloc | apply pw_below_drewN | apply below_drew1) | exact HB.out))) : w.heap.size ≤ g648)); clear HO640; clear HO646; clear HB; have HO640 := n0_; have HO646 := n1_; have HB := n2_; have B648 := n3_; have GW648 := n4_; have GE648 := n5_; clear n0_ n1_ n2_ n3_ n4_ n5_; clear hb hbox hg; have hcz14_0 : w13.cell? ⟨g648, 0, none⟩ = some (.int .i64 0) := bq_ B648 0; have hcz14_1 : w13.cell? ⟨g648, 1, none⟩ = some (.int .i64 0) := bq_ B648 1; have hcz14_2 : w13.cell? ⟨g648, 2, none⟩ = some (.int .i64 0) := bq_ B648 2; have hcz14_3 : w13.cell? ⟨g648, 3, none⟩ = some (.slice none 0 0) := bq_ B648 3; have hfz14_0 := blk_frozen B648.out 0; have hfz14_1 := blk_frozen B648.out 1; have hfz14_2 := blk_frozen B648.out 2; have hfz14_3 := blk_frozen B648.out 3; obtain ⟨Ao15, co15, eo15⟩ := Kd.S_slice HO646.out; subst eo15) | ((with_reducible refine gate_callee (f := 19) rfl ?_); refine goesL_ (some 44) rfl rfl Tryd.func19 (by kernel_rfl) rfl #[.agg #[.int .i64 t641, .int .i64 t642, .int .i64 t643, .slice Ao15 t644.length co15]] rfl (by (try simp only [List.map_toArray, List.map_cons, List.map_nil]); first | done | rfl | (go_simp; done)) ?_; (with_reducible refine (tree_Cap.calls k t641 t642 t643 _ _ t644 t649 _ ?side1 ?side2 ?side3 A8.out).mono ?_); (case side1 => refine (Kd.S_reads' (e := 22) (base := w.heap.size) (ok := fun k_ => (True ∧ some k_ ≠ (.slice Ao11 t638.length co11 : Value).ownBlock)) (n := t644.length) (c := co15) ?_).2.2; exact (by (with_reducible repeat (first | apply Kd.S_alloc | apply Kd.S_drewN | apply Kd.S_drew)); exact (Kd.S_mono (Kd.S_far (p := ⟨g648, 3, none⟩) (Kd.S_far (p := ⟨g648, 2, none⟩) (Kd.S_far (p := ⟨g648, 1, none⟩) (Kd.S_far (p := ⟨g648, 0, none⟩) (Kd.S_types HO646.out B648.out (by decide)) (fun _ hk => hk.2) (.int .i64 t641)) (fun _ hk => hk.2) (.int .i64 t642)) (fun _ hk => hk.2) (.int .i64 t643)) (fun _ hk => hk.2) (.slice Ao15 t644.length co15)) (fun _ h_ => h_.1)))); (case side2 => exact (Kd.S_reads' HO646.out).2.1); (case side3 => exact GL.below HRG.out (by repeat (first | (with_reducible first | exact HB.out | apply below_alloc | apply pw_below_drewN | apply below_drew1 | refine below_set ?_ GE648.out) | exact HB.out))); rintro e w16 ⟨v650, rfl, ho0, hb⟩; refine ⟨_, rfl, ?_⟩; have n0_ := Aside0.mk (Kd.R_elder' (by (with_reducible repeat (first | apply Kd.R_alloc | apply Kd.R_drewN | apply Kd.R_drew)); exact (Kd.R_mono (Kd.R_far (p := ⟨g648, 3, none⟩) (Kd.R_far (p := ⟨g648, 2, none⟩) (Kd.R_far (p := ⟨g648, 1, none⟩) (Kd.R_far (p := ⟨g648, 0, none⟩) (Kd.R_types HO640.out B648.out (by decide)) (fun _ hk => hk.2) (.int .i64 t641)) (fun _ hk => hk.2) (.int .i64 t642)) (fun _ hk => hk.2) (.int .i64 t643)) (fun _ hk => hk.2) (.slice Ao15 t644.length co15)) (fun _ h_ => h_.1))) (Kd.R_base ho0) hb); have n1_ := Aside0.mk (Kd.S_elder' (by (with_reducible repeat (first | apply Kd.S_alloc | apply Kd.S_drewN | apply Kd.S_drew)); exact (Kd.S_mono (Kd.S_far (p := ⟨g648, 3, none⟩) (Kd.S_far (p := ⟨g648, 2, none⟩) (Kd.S_far (p := ⟨g648, 1, none⟩) (Kd.S_far (p := ⟨g648, 0, none⟩) (Kd.S_types HO646.out B648.out (by decide)) (fun _ hk => hk.2) (.int .i64 t641)) (fun _ hk => hk.2) (.int .i64 t642)) (fun _ hk => hk.2) (.int .i64 t643)) (fun _ hk => hk.2) (.slice Ao15 t644.length co15)) (fun _ h_ => h_.1))) (Kd.R_base ho0) hb); have n2_ := Aside0.mk (Kd.R_lower (Kd.R_new' ho0 (Kd.R_lt (by (with_reducible repeat (first | apply Kd.R_alloc | apply Kd.R_drewN | apply Kd.R_drew)); exact (Kd.R_mono (Kd.R_far (p := ⟨g648, 3, none⟩) (Kd.R_far (p := ⟨g648, 2, none⟩) (Kd.R_far (p := ⟨g648, 1, none⟩) (Kd.R_far (p := ⟨g648, 0, none⟩) (Kd.R_types HO640.out B648.out (by decide)) (fun _ hk => hk.2) (.int .i64 t641)) (fun _ hk => hk.2) (.int .i64 t642)) (fun _ hk => hk.2) (.int .i64 t643)) (fun _ hk => hk.2) (.slice Ao15 t644.length co15)) (fun _ h_ => h_.1))))) (below_size (by repeat (first | (with_reducible first | exact HB.out | apply below_alloc | apply pw_below_drewN | apply below_drew1 | refine below_set ?_ GE648.out) | exact HB.out)))); have n3_ := Aside0.mk (blk_below (g := g648) (o := .cells #[.int .i64 t641, .int .i64 t642, .int .i64 t643, .slice Ao15 t644.length co15] 26 (0, 0)) (by refine blk_put (cs := #[.int .i64 t641, .int .i64 t642, .int .i64 t643, .slice none 0 0]) ?_ 3 _ rfl; refine blk_put (cs := #[.int .i64 t641, .int .i64 t642, .int .i64 0, .slice none 0 0]) ?_ 2 _ rfl; refine blk_put (cs := #[.int .i64 t641, .int .i64 0, .int .i64 0, .slice none 0 0]) ?_ 1 _ rfl; refine blk_put (cs := #[.int .i64 0, .int .i64 0, .int .i64 0, .slice none 0 0]) ?_ 0 _ rfl; exact B648.out) hb); have n4_ := Aside0.mk (below_step (by repeat (first | (with_reducible first | exact HB.out | apply below_alloc | apply pw_below_drewN | apply below_drew1 | refine below_set ?_ GE648.out) | exact HB.out)) hb); clear HO640; clear HO646; clear B648; clear HB; have HO640 := n0_; have HO646 := n1_; have HO651 := n2_; have B648 := n3_; have HB := n4_; clear n0_ n1_ n2_ n3_ n4_; (try clear hb); (try clear hb2); (try clear hk); (try clear hi); (try clear ho0)))
  (try simp only [Act.put, sa_, sb_, sc_])
  go_cut [58] (fun v58 wc => ∃ (kq : Nat) (x58_8 : Bool), v58 = .bool x58_8 ∧ Aside0 (attestorlaw07_TreeOpens.j0 kq (wrap64 (Int.tmod a0 4)) (wrap64 (Int.tmod a1 6)) (Int.tmod (wrap64 (a2)) (wrap64 ((wrap64 (Int.tmod a1 6)) + 1))) t638 t649 x58_8 t641 t642 t643 t644 = some r) ∧ Aside0 (kq ≤ k) ∧ Aside0 (Kd.R k36 36 wc w.heap.size (fun k_ => some k_ ≠ (v650 : Value).ownBlock) (.slice Ao11 t638.length co11) t638) ∧ Aside0 (Kd.R k36 36 wc w.heap.size (fun k_ => some k_ ≠ ((.slice Ao11 t638.length co11) : Value).ownBlock) v650 t649) ∧ Aside0 (Kd.S (Kd.slice 36 k36) 22 wc w.heap.size (fun k_ => some k_ ≠ ((.slice Ao11 t638.length co11) : Value).ownBlock ∧ some k_ ≠ (v650 : Value).ownBlock) (.slice Ao15 t644.length co15) t644) ∧ Aside0 (wc.heap[g648]? = some (.cells #[.int .i64 t641, .int .i64 t642, .int .i64 t643, (.slice Ao15 t644.length co15)] 26 (0, 0))) ∧ Aside0 (Below w.heap.size w wc))
  case first =>
   have H := HC9.out
   clear HC9
   by_cases c17 : t647 = 0
   ·rw [if_pos c17] at H
    have c17b0 : (t647 == 0) = true := beq_iff_eq.mpr c17
    have c17b1 : (t647 != 0) = false := bne_eq_false_iff_eq.mpr c17
    clear c17
    (first | rw [c17b0] | (simp only [i64_w, i32_w]; rw [c17b0]) | skip)
    replace H := Option.bind_eq_some_iff.mp H
    obtain ⟨t652, A180, H⟩ := H
    have A18 := Aside0.mk A180
    clear A180
    by_cases c19 : t652 = true
    ·subst c19
     have H1 : (if 0 ≤ (Int.tmod (wrap64 (a2)) (wrap64 ((wrap64 (Int.tmod a1 6)) + 1))) then (attestorlaw07_TreeOpens.j0 k (wrap64 (Int.tmod a0 4)) (wrap64 (Int.tmod a1 6)) (Int.tmod (wrap64 (a2)) (wrap64 ((wrap64 (Int.tmod a1 6)) + 1))) t638 t649 ((t649.length : Int) != (shl .i64 1 (Int.tmod (wrap64 (a2)) (wrap64 ((wrap64 (Int.tmod a1 6)) + 1))))) t641 t642 t643 t644) else (none)) = some r := by rw [if_pos rfl] at H; exact H
     clear H
     have H := H1
     clear H1
     obtain ⟨ji20, hji20⟩ : ∃ j_ : Int, (Int.tmod (wrap64 (a2)) (wrap64 ((wrap64 (Int.tmod a1 6)) + 1))) = j_ := ⟨_, rfl⟩
     replace H : (if 0 ≤ (ji20) then (attestorlaw07_TreeOpens.j0 k (wrap64 (Int.tmod a0 4)) (wrap64 (Int.tmod a1 6)) ji20 t638 t649 ((t649.length : Int) != (shl .i64 1 (ji20))) t641 t642 t643 t644) else (none)) = some r := by first | (rw [hji20] at H; exact H) | (simp only [hji20] at H ⊢; exact H)
     (try rw [hji20] at A18)
     by_cases c21 : 0 ≤ (ji20)
     ·rw [if_pos c21] at H
      have c21b0 := eq_true c21
      have c21b1 : decide (0 ≤ (ji20)) = true := decide_eq_true c21
      clear c21
      obtain ⟨ji22, hji22⟩ : ∃ j_ : Int, (shl .i64 1 (ji20)) = j_ := ⟨_, rfl⟩
      replace H : (attestorlaw07_TreeOpens.j0 k (wrap64 (Int.tmod a0 4)) (wrap64 (Int.tmod a1 6)) ji20 t638 t649 ((t649.length : Int) != (ji22)) t641 t642 t643 t644) = some r := by first | (rw [hji22] at H; exact H) | (simp only [hji22] at H ⊢; exact H)
      (try rw [hji22] at A18)
      have hji22_ : (IntKind.i64.wrap (1 * 2 ^ min (ji20).toNat 64)) = ji22 := hji22
      have hji22z : (ji20) ≤ 64 → (IntKind.i64.wrap (1 * 2 ^ (ji20).toNat)) = ji22 := shl_small hji22
      have hji22u : (IntKind.i64.wrap (2 ^ min (ji20).toNat 64)) = ji22 := by have h_ := hji22_; rw [Int.one_mul] at h_; exact h_
      have hji22v : (ji20) ≤ 64 → (IntKind.i64.wrap (2 ^ (ji20).toNat)) = ji22 := fun hle_ => by have h_ := hji22z hle_; rw [Int.one_mul] at h_; exact h_
      have hji22y : (wrap64 (1 * 2 ^ min (ji20).toNat 64)) = ji22 := (i64_w _).symm.trans hji22_
      have hji22x : (ji20) ≤ 64 → (wrap64 (1 * 2 ^ (ji20).toNat)) = ji22 := fun h_ => (i64_w _).symm.trans (hji22z h_)
      have H' := Aside0.mk H
      clear H
      have hcz23_0 : w16.cell? ⟨g648, 0, none⟩ = some (.int .i64 t641) := bq_ B648 0
      have hcz23_1 : w16.cell? ⟨g648, 1, none⟩ = some (.int .i64 t642) := bq_ B648 1
      have hcz23_2 : w16.cell? ⟨g648, 2, none⟩ = some (.int .i64 t643) := bq_ B648 2
      have hcz23_3 : w16.cell? ⟨g648, 3, none⟩ = some (.slice Ao15 t644.length co15) := bq_ B648 3
      have hfz23_0 := blk_frozen B648.out 0
      have hfz23_1 := blk_frozen B648.out 1
      have hfz23_2 := blk_frozen B648.out 2
      have hfz23_3 := blk_frozen B648.out 3
      go_wp2_with (first | (go_at_call 16; (with_reducible refine (tree_Valid.calls k t641 t642 t643 _ _ t644 true _ ?side1 ?side2 ?side3 A18.out).mono ?_); (case side1 => repeat (first | exact (Kd.S_reads' HO646.out).2.2 | (with_reducible refine Kd.C_alloc ?_ _) | (with_reducible refine Kd.C_drewN ?_ _) | (with_reducible refine Kd.C_drew ?_))); (case side2 => exact (Kd.S_reads' HO646.out).2.1); (case side3 => repeat (first | exact (GL.below HRG.out HB.out) | (with_reducible refine GL.alloc ?_ _) | (with_reducible refine GL.drewN ?_ _) | (with_reducible refine GL.drew ?_))); rintro e w24 ⟨rfl, hb⟩; have n0_ := Aside0.mk (Kd.R_below (by (with_reducible repeat (first | apply Kd.R_alloc | apply Kd.R_drewN | apply Kd.R_drew)); exact HO640.out) hb); have n1_ := Aside0.mk (Kd.S_below (by (with_reducible repeat (first | apply Kd.S_alloc | apply Kd.S_drewN | apply Kd.S_drew)); exact HO646.out) hb); have n2_ := Aside0.mk (Kd.R_below (by (with_reducible repeat (first | apply Kd.R_alloc | apply Kd.R_drewN | apply Kd.R_drew)); exact HO651.out) hb); have n3_ := Aside0.mk (blk_below (g := g648) (o := .cells #[.int .i64 t641, .int .i64 t642, .int .i64 t643, .slice Ao15 t644.length co15] 26 (0, 0)) (by exact B648.out) hb); have n4_ := Aside0.mk (below_step (by repeat (first | (with_reducible first | exact HB.out | apply below_alloc | apply pw_below_drewN | apply below_drew1 | refine below_set ?_ GE648.out) | exact HB.out)) hb); clear HO640; clear HO646; clear HO651; clear B648; clear HB; have HO640 := n0_; have HO646 := n1_; have HO651 := n2_; have B648 := n3_; have HB := n4_; clear n0_ n1_ n2_ n3_ n4_; (try clear hb); (try clear hb2); (try clear hk); (try clear hi); obtain ⟨Ao25, co25, eo25⟩ := Kd.R_slice HO651.out; subst eo25))
      (try subst hji20)
      go_meet
      case rel => exact ⟨_, (((t649.length : Int) != (ji22))), (by first | rfl | (simp; done) | (simp only [← hji22] <;> (first | rfl | simp)) | (simp [*]; done) | (simp; rfl) | (simp; decide +kernel)), H', ⟨by first | omega | exact Nat.le_refl _⟩, ⟨by (with_reducible repeat (first | apply Kd.R_alloc | apply Kd.R_drewN | apply Kd.R_drew)); exact Kd.R_mono HO640.out (fun _ hk => hk.2)⟩, ⟨by (with_reducible repeat (first | apply Kd.R_alloc | apply Kd.R_drewN | apply Kd.R_drew)); exact Kd.R_mono HO651.out (fun _ hk => hk.2)⟩, ⟨by (with_reducible repeat (first | apply Kd.S_alloc | apply Kd.S_drewN | apply Kd.S_drew)); exact Kd.S_mono HO646.out (fun _ hk => ⟨hk.1.2, hk.2⟩)⟩, ⟨by exact B648.out⟩, ⟨by repeat (first | (with_reducible first | exact HB.out | apply below_alloc | apply pw_below_drewN | apply below_drew1 | refine below_set ?_ GE648.out) | exact HB.out)⟩⟩
     ·rw [if_neg c21] at H
      exact absurd H (by simp)
    ·replace c19 := Bool.eq_false_iff.mpr c19
     subst c19
     have H1 : (none) = some r := by rw [if_neg (show ¬ (false = true) by decide)] at H; exact H
     clear H
     have H := H1
     clear H1
     exact absurd H (by simp)
   ·rw [if_neg c17] at H
    exact absurd H (by simp)
  case rest =>
   clear HC9
   try clear c1
   try clear c2
   try clear p2
   try clear c3
   try clear c5
   try clear c5b0
   try clear c5b1
   try clear c6
   try clear p6
   try clear c13
   try clear c17
   try clear c17b0
   try clear c17b1
   try clear c19
   try clear c21
   try clear c21b0
   try clear c21b1
   try clear c22
   try clear hcz14_0
   try clear hcz14_1
   try clear hcz14_2
   try clear hcz14_3
   try clear hcz23_0
   try clear hcz23_1
   try clear hcz23_2
   try clear hcz23_3
   try clear hfz14_0
   try clear hfz14_1
   try clear hfz14_2
   try clear hfz14_3
   try clear hfz23_0
   try clear hfz23_1
   try clear hfz23_2
   try clear hfz23_3
   obtain ⟨kq, x58_8, rfl, HA, HJ8, HO_12, HO_15, HO_649003, B648, HB⟩ := hcut
   cases kq with
   | zero => exact absurd HA.out (by simp [attestorlaw07_TreeOpens.j0])
   | succ kj8 =>
    have H := HA.out
    clear HA
    simp only [attestorlaw07_TreeOpens.j0] at H
    by_cases c26 : x58_8 = true
    ·subst c26
     have H1 : (none) = some r := by rw [if_pos rfl] at H; exact H
     clear H
     have H := H1
     clear H1
     exact absurd H (by simp)
    ·replace c26 := Bool.eq_false_iff.mpr c26
     subst c26
     have H1 : (attestorlaw07_TreeOpens.l0 kj8 (wrap64 (Int.tmod a0 4)) (wrap64 (Int.tmod a1 6)) (Int.tmod (wrap64 (a2)) (wrap64 ((wrap64 (Int.tmod a1 6)) + 1))) t638 t649 0 t641 t642 t643 t644) = some r := by rw [if_neg (show ¬ (false = true) by decide)] at H; exact H
     clear H
     have H := H1
     clear H1
     have H' := Aside0.mk H
     clear H
     go_wp2
     go_loopg [16] kj8 (fun kq v16 w' => ∃ (x16_2 : Int), v16 = .int .i64 x16_2 ∧ Aside0 (attestorlaw07_TreeOpens.l0 kq (wrap64 (Int.tmod a0 4)) (wrap64 (Int.tmod a1 6)) (Int.tmod (wrap64 (a2)) (wrap64 ((wrap64 (Int.tmod a1 6)) + 1))) t638 t649 x16_2 t641 t642 t643 t644 = some r) ∧ Aside0 (kq ≤ kj8) ∧ Aside0 (Kd.R k36 36 w' w.heap.size (fun k_ => some k_ ≠ (v650 : Value).ownBlock) (.slice Ao11 t638.length co11) t638) ∧ Aside0 (Kd.R k36 36 w' w.heap.size (fun k_ => some k_ ≠ ((.slice Ao11 t638.length co11) : Value).ownBlock) v650 t649) ∧ Aside0 (Kd.S (Kd.slice 36 k36) 22 w' w.heap.size (fun k_ => some k_ ≠ ((.slice Ao11 t638.length co11) : Value).ownBlock ∧ some k_ ≠ (v650 : Value).ownBlock) (.slice Ao15 t644.length co15) t644) ∧ Aside0 (w'.heap[g648]? = some (.cells #[.int .i64 t641, .int .i64 t642, .int .i64 t643, (.slice Ao15 t644.length co15)] 26 (0, 0))) ∧ Aside0 (Below w.heap.size w w'))
     case atStart => exact ⟨(0), (by first | rfl | (simp; done) | (simp [*]; done) | (simp; rfl) | (simp; decide +kernel)), H', ⟨Nat.le_refl _⟩, ⟨by (with_reducible repeat (first | apply Kd.R_alloc | apply Kd.R_drewN | apply Kd.R_drew)); exact HO_12.out⟩, ⟨by (with_reducible repeat (first | apply Kd.R_alloc | apply Kd.R_drewN | apply Kd.R_drew)); exact HO_15.out⟩, ⟨by (with_reducible repeat (first | apply Kd.S_alloc | apply Kd.S_drewN | apply Kd.S_drew)); exact HO_649003.out⟩, ⟨by exact B648.out⟩, ⟨by repeat (first | (with_reducible first | exact HB.out | apply below_alloc | apply pw_below_drewN | apply below_drew1 | refine below_set ?_ GE648.out) | exact HB.out)⟩⟩
     case round =>
      clear H'
      try clear c1
      try clear c2
      try clear p2
      try clear c3
      try clear c5
      try clear c5b0
      try clear c5b1
      try clear c6
      try clear p6
      try clear c13
      try clear c17
      try clear c17b0
      try clear c17b1
      try clear c19
      try clear c21
      try clear c21b0
      try clear c21b1
      try clear c22
      try clear c26
      try clear hcz14_0
      try clear hcz14_1
      try clear hcz14_2
      try clear hcz14_3
      try clear hcz23_0
      try clear hcz23_1
      try clear hcz23_2
      try clear hcz23_3
      try clear hfz14_0
      try clear hfz14_1
      try clear hfz14_2
      try clear hfz14_3
      try clear hfz23_0
      try clear hfz23_1
      try clear hfz23_2
      try clear hfz23_3
      try clear p2
      try clear p6
      obtain ⟨x16_2, rfl, HA, HK2, HO_12, HO_15, HO_649003, B648, HB⟩ := hrel
      cases gk with
      | zero => exact absurd HA.out (by simp [attestorlaw07_TreeOpens.l0])
      | succ k2 =>
       have H := HA.out
       clear HA
       simp only [attestorlaw07_TreeOpens.l0] at H
       by_cases c27 : x16_2 < (t638.length : Int)
       ·rw [if_pos c27] at H
        have c27b0 : decide (x16_2 < (t638.length : Int)) = true := decide_eq_true c27
        clear c27
        replace H := Option.bind_eq_some_iff.mp H
        obtain ⟨⟨t658, t661⟩, A280, H⟩ := H
        replace H : (if t661 = 0 then (if (t658.length : Int) = (wrap64 ((wrap64 (Int.tmod a1 6)) - (Int.tmod (wrap64 (a2)) (wrap64 ((wrap64 (Int.tmod a1 6)) + 1))))) then (if 0 ≤ x16_2 then ((tree_Check.f (wrap64 (Int.tmod a0 4)) t649 x16_2 ((rd_T36 t638 x16_2).f0) ((rd_T36 t638 x16_2).f1) t658).bind fun t663 => (if t663 = true then ((tree_Climb.f (wrap64 (Int.tmod a0 4)) x16_2 ((rd_T36 t638 x16_2).f0) ((rd_T36 t638 x16_2).f1) t658).bind fun bt665 => (if 0 ≤ (wrap64 ((wrap64 (Int.tmod a1 6)) - (Int.tmod (wrap64 (a2)) (wrap64 ((wrap64 (Int.tmod a1 6)) + 1))))) then (if 0 ≤ (shr .i64 x16_2 (wrap64 ((wrap64 (Int.tmod a1 6)) - (Int.tmod (wrap64 (a2)) (wrap64 ((wrap64 (Int.tmod a1 6)) + 1)))))) then (if (shr .i64 x16_2 (wrap64 ((wrap64 (Int.tmod a1 6)) - (Int.tmod (wrap64 (a2)) (wrap64 ((wrap64 (Int.tmod a1 6)) + 1)))))) < (t649.length : Int) then (if (!(bt665.1 == ((rd_T36 t649 (shr .i64 x16_2 (wrap64 ((wrap64 (Int.tmod a1 6)) - (Int.tmod (wrap64 (a2)) (wrap64 ((wrap64 (Int.tmod a1 6)) + 1))))))).f0)) || (!(bt665.2 == ((rd_T36 t649 (shr .i64 x16_2 (wrap64 ((wrap64 (Int.tmod a1 6)) - (Int.tmod (wrap64 (a2)) (wrap64 ((wrap64 (Int.tmod a1 6)) + 1))))))).f1)))) = true then (none) else (attestorlaw07_TreeOpens.l0 k2 (wrap64 (Int.tmod a0 4)) (wrap64 (Int.tmod a1 6)) (Int.tmod (wrap64 (a2)) (wrap64 ((wrap64 (Int.tmod a1 6)) + 1))) t638 t649 (wrap64 (x16_2 + 1)) t641 t642 t643 t644)) else (none)) else (none)) else (none))) else (none))) else (none)) else (none)) else (none)) = some r := H
        have A28 := Aside0.mk A280
        clear A280
        by_cases c29 : t661 = 0
        ·rw [if_pos c29] at H
         have c29b0 : (t661 == 0) = true := beq_iff_eq.mpr c29
         have c29b1 : (t661 != 0) = false := bne_eq_false_iff_eq.mpr c29
         clear c29
         by_cases c30 : (t658.length : Int) = (wrap64 ((wrap64 (Int.tmod a1 6)) - (Int.tmod (wrap64 (a2)) (wrap64 ((wrap64 (Int.tmod a1 6)) + 1)))))
         ·rw [if_pos c30] at H
          have c30b0 : ((t658.length : Int) == (wrap64 ((wrap64 (Int.tmod a1 6)) - (Int.tmod (wrap64 (a2)) (wrap64 ((wrap64 (Int.tmod a1 6)) + 1)))))) = true := beq_iff_eq.mpr c30
          have c30b1 : ((t658.length : Int) != (wrap64 ((wrap64 (Int.tmod a1 6)) - (Int.tmod (wrap64 (a2)) (wrap64 ((wrap64 (Int.tmod a1 6)) + 1)))))) = false := bne_eq_false_iff_eq.mpr c30
          clear c30
          by_cases c31 : 0 ≤ x16_2
          ·rw [if_pos c31] at H
           have c31b0 : decide (0 ≤ x16_2) = true := decide_eq_true c31
           clear c31
           replace H := Option.bind_eq_some_iff.mp H
           obtain ⟨t663, A320, H⟩ := H
           have A32 := Aside0.mk A320
           clear A320
           by_cases c33 : t663 = true
           ·subst c33
            have H1 : ((tree_Climb.f (wrap64 (Int.tmod a0 4)) x16_2 ((rd_T36 t638 x16_2).f0) ((rd_T36 t638 x16_2).f1) t658).bind fun bt665 => (if 0 ≤ (wrap64 ((wrap64 (Int.tmod a1 6)) - (Int.tmod (wrap64 (a2)) (wrap64 ((wrap64 (Int.tmod a1 6)) + 1))))) then (if 0 ≤ (shr .i64 x16_2 (wrap64 ((wrap64 (Int.tmod a1 6)) - (Int.tmod (wrap64 (a2)) (wrap64 ((wrap64 (Int.tmod a1 6)) + 1)))))) then (if (shr .i64 x16_2 (wrap64 ((wrap64 (Int.tmod a1 6)) - (Int.tmod (wrap64 (a2)) (wrap64 ((wrap64 (Int.tmod a1 6)) + 1)))))) < (t649.length : Int) then (if (!(bt665.1 == ((rd_T36 t649 (shr .i64 x16_2 (wrap64 ((wrap64 (Int.tmod a1 6)) - (Int.tmod (wrap64 (a2)) (wrap64 ((wrap64 (Int.tmod a1 6)) + 1))))))).f0)) || (!(bt665.2 == ((rd_T36 t649 (shr .i64 x16_2 (wrap64 ((wrap64 (Int.tmod a1 6)) - (Int.tmod (wrap64 (a2)) (wrap64 ((wrap64 (Int.tmod a1 6)) + 1))))))).f1)))) = true then (none) else (attestorlaw07_TreeOpens.l0 k2 (wrap64 (Int.tmod a0 4)) (wrap64 (Int.tmod a1 6)) (Int.tmod (wrap64 (a2)) (wrap64 ((wrap64 (Int.tmod a1 6)) + 1))) t638 t649 (wrap64 (x16_2 + 1)) t641 t642 t643 t644)) else (none)) else (none)) else (none))) = some r := by rw [if_pos rfl] at H; exact H
            clear H
            have H := H1
            clear H1
            replace H := Option.bind_eq_some_iff.mp H
            obtain ⟨⟨t665, t666⟩, A340, H⟩ := H
            replace H : (if 0 ≤ (wrap64 ((wrap64 (Int.tmod a1 6)) - (Int.tmod (wrap64 (a2)) (wrap64 ((wrap64 (Int.tmod a1 6)) + 1))))) then (if 0 ≤ (shr .i64 x16_2 (wrap64 ((wrap64 (Int.tmod a1 6)) - (Int.tmod (wrap64 (a2)) (wrap64 ((wrap64 (Int.tmod a1 6)) + 1)))))) then (if (shr .i64 x16_2 (wrap64 ((wrap64 (Int.tmod a1 6)) - (Int.tmod (wrap64 (a2)) (wrap64 ((wrap64 (Int.tmod a1 6)) + 1)))))) < (t649.length : Int) then (if (!(t665 == ((rd_T36 t649 (shr .i64 x16_2 (wrap64 ((wrap64 (Int.tmod a1 6)) - (Int.tmod (wrap64 (a2)) (wrap64 ((wrap64 (Int.tmod a1 6)) + 1))))))).f0)) || (!(t666 == ((rd_T36 t649 (shr .i64 x16_2 (wrap64 ((wrap64 (Int.tmod a1 6)) - (Int.tmod (wrap64 (a2)) (wrap64 ((wrap64 (Int.tmod a1 6)) + 1))))))).f1)))) = true then (none) else (attestorlaw07_TreeOpens.l0 k2 (wrap64 (Int.tmod a0 4)) (wrap64 (Int.tmod a1 6)) (Int.tmod (wrap64 (a2)) (wrap64 ((wrap64 (Int.tmod a1 6)) + 1))) t638 t649 (wrap64 (x16_2 + 1)) t641 t642 t643 t644)) else (none)) else (none)) else (none)) = some r := H
            have A34 := Aside0.mk A340
            clear A340
            obtain ⟨ji35, hji35⟩ : ∃ j_ : Int, (wrap64 ((wrap64 (Int.tmod a1 6)) - (Int.tmod (wrap64 (a2)) (wrap64 ((wrap64 (Int.tmod a1 6)) + 1))))) = j_ := ⟨_, rfl⟩
            replace H : (if 0 ≤ (ji35) then (if 0 ≤ (shr .i64 x16_2 (ji35)) then (if (shr .i64 x16_2 (ji35)) < (t649.length : Int) then (if (!(t665 == ((rd_T36 t649 (shr .i64 x16_2 (ji35))).f0)) || (!(t666 == ((rd_T36 t649 (shr .i64 x16_2 (ji35))).f1)))) = true then (none) else (attestorlaw07_TreeOpens.l0 k2 (wrap64 (Int.tmod a0 4)) (wrap64 (Int.tmod a1 6)) (Int.tmod (wrap64 (a2)) (wrap64 ((wrap64 (Int.tmod a1 6)) + 1))) t638 t649 (wrap64 (x16_2 + 1)) t641 t642 t643 t644)) else (none)) else (none)) else (none)) = some r := by first | (rw [hji35] at H; exact H) | (simp only [hji35] at H ⊢; exact H)
            (try rw [hji35] at c30b0)
            (try rw [hji35] at c30b1)
            (try rw [hji35] at A28)
            (try rw [hji35] at A32)
            (try rw [hji35] at A34)
            have hji35w : (IntKind.i64.wrap ((wrap64 (Int.tmod a1 6)) - (Int.tmod (wrap64 (a2)) (wrap64 ((wrap64 (Int.tmod a1 6)) + 1))))) = ji35 := (i64_w _).trans hji35
            by_cases c36 : 0 ≤ (ji35)
            ·rw [if_pos c36] at H
             have c36b0 := eq_true c36
             have c36b1 : decide (0 ≤ (ji35)) = true := decide_eq_true c36
             clear c36
             obtain ⟨ji37, hji37⟩ : ∃ j_ : Int, (shr .i64 x16_2 (ji35)) = j_ := ⟨_, rfl⟩
             replace H : (if 0 ≤ (ji37) then (if (ji37) < (t649.length : Int) then (if (!(t665 == ((rd_T36 t649 (ji37)).f0)) || (!(t666 == ((rd_T36 t649 (ji37)).f1)))) = true then (none) else (attestorlaw07_TreeOpens.l0 k2 (wrap64 (Int.tmod a0 4)) (wrap64 (Int.tmod a1 6)) (Int.tmod (wrap64 (a2)) (wrap64 ((wrap64 (Int.tmod a1 6)) + 1))) t638 t649 (wrap64 (x16_2 + 1)) t641 t642 t643 t644)) else (none)) else (none)) = some r := by first | (rw [hji37] at H; exact H) | (simp only [hji37] at H ⊢; exact H)
             (try rw [hji37] at A28)
             (try rw [hji37] at A32)
             (try rw [hji37] at A34)
             have hji37_ : (x16_2 / 2 ^ min (ji35).toNat 64) = ji37 := hji37
             have hji37z : (ji35) ≤ 64 → (x16_2 / 2 ^ (ji35).toNat) = ji37 := shr_small hji37
             by_cases c38 : 0 ≤ (ji37)
             ·rw [if_pos c38] at H
              have c38b0 : decide (0 ≤ (ji37)) = true := decide_eq_true c38
              clear c38
              by_cases c39 : (ji37) < (t649.length : Int)
              ·rw [if_pos c39] at H
               have c39b0 : decide ((ji37) < (t649.length : Int)) = true := decide_eq_true c39
               clear c39
               by_cases c40 : (!(t665 == ((rd_T36 t649 (ji37)).f0)) || (!(t666 == ((rd_T36 t649 (ji37)).f1)))) = true
               ·rw [if_pos c40] at H
                exact absurd H (by simp)
               ·rw [if_neg c40] at H
                have c40b0 : (!(t665 == ((rd_T36 t649 (ji37)).f0)) || (!(t666 == ((rd_T36 t649 (ji37)).f1)))) = false := by simpa using c40
                clear c40
                have H' := Aside0.mk H
                clear H
                have hcz41_0 : wr.cell? ⟨g648, 0, none⟩ = some (.int .i64 t641) := bq_ B648 0
                have hcz41_1 : wr.cell? ⟨g648, 1, none⟩ = some (.int .i64 t642) := bq_ B648 1
                have hcz41_2 : wr.cell? ⟨g648, 2, none⟩ = some (.int .i64 t643) := bq_ B648 2
                have hcz41_3 : wr.cell? ⟨g648, 3, none⟩ = some (.slice Ao15 t644.length co15) := bq_ B648 3
                have hfz41_0 := blk_frozen B648.out 0
                have hfz41_1 := blk_frozen B648.out 1
                have hfz41_2 := blk_frozen B648.out 2
                have hfz41_3 := blk_frozen B648.out 3
                try go_wp2_with (first | ((with_reducible refine gate_callee (f := 23) rfl ?_); refine goesL_ (some 68) rfl rfl Tryd.func23 (by kernel_rfl) rfl #[.agg #[.int .i64 t641, .int .i64 t642, .int .i64 t643, .slice Ao15 t644.length co15], .int .i64 x16_2] rfl (by (try simp only [List.map_toArray, List.map_cons, List.map_nil]); first | done | rfl | (go_simp; done)) ?_; (with_reducible refine (tree_Path.calls k2 t641 t642 t643 _ _ t644 x16_2 t658 t661 _ ?side1 ?side2 ?side3 A28.out).mono ?_); (case side1 => repeat (first | exact (Kd.S_reads' HO_649003.out).2.2 | (with_reducible refine Kd.C_alloc ?_ _) | (with_reducible refine Kd.C_drewN ?_ _) | (with_reducible refine Kd.C_drew ?_))); (case side2 => exact (Kd.S_reads' HO_649003.out).2.1); (case side3 => repeat (first | exact (GL.below HRG.out HB.out) | (with_reducible refine GL.alloc ?_ _) | (with_reducible refine GL.drewN ?_ _) | (with_reducible refine GL.drew ?_))); rintro e w42 ⟨v659, rfl, ho0, hb⟩; refine ⟨_, rfl, ?_⟩; have n0_ := Aside0.mk (Kd.R_elder' (by (with_reducible repeat (first | apply Kd.R_alloc | apply Kd.R_drewN | apply Kd.R_drew)); exact HO_12.out) (Kd.R_base ho0) hb); have n1_ := Aside0.mk (Kd.R_elder' (by (with_reducible repeat (first | apply Kd.R_alloc | apply Kd.R_drewN | apply Kd.R_drew)); exact HO_15.out) (Kd.R_base ho0) hb); have n2_ := Aside0.mk (Kd.S_elder' (by (with_reducible repeat (first | apply Kd.S_alloc | apply Kd.S_drewN | apply Kd.S_drew)); exact HO_649003.out) (Kd.R_base ho0) hb); have n3_ := Aside0.mk (Kd.R_lower (Kd.R_new' (Kd.R_new' ho0 (Kd.R_lt (by (with_reducible repeat (first | apply Kd.R_alloc | apply Kd.R_drewN | apply Kd.R_drew)); exact HO_12.out))) (Kd.R_lt (by (with_reducible repeat (first | apply Kd.R_alloc | apply Kd.R_drewN | apply Kd.R_drew)); exact HO_15.out))) (below_size (by repeat (first | (with_reducible first | exact HB.out | apply below_alloc | apply pw_below_drewN | apply below_drew1 | refine below_set ?_ GE648.out) | exact HB.out)))); have n4_ := Aside0.mk (blk_below (g := g648) (o := .cells #[.int .i64 t641, .int .i64 t642, .int .i64 t643, .slice Ao15 t644.length co15] 26 (0, 0)) (by exact B648.out) hb); have n5_ := Aside0.mk (below_step (by repeat (first | (with_reducible first | exact HB.out | apply below_alloc | apply pw_below_drewN | apply below_drew1 | refine below_set ?_ GE648.out) | exact HB.out)) hb); clear HO_12; clear HO_15; clear HO_649003; clear B648; clear HB; have HO_12 := n0_; have HO_15 := n1_; have HO_649003 := n2_; have HO660 := n3_; have B648 := n4_; have HB := n5_; clear n0_ n1_ n2_ n3_ n4_ n5_; (try clear hb); (try clear hb2); (try clear hk); (try clear hi); (try clear ho0)))
                have n0_ := Aside0.mk (Kd.R_drew HO_12.out)
                have n1_ := Aside0.mk (Kd.R_drew HO_15.out)
                have n2_ := Aside0.mk (Kd.S_drew HO_649003.out)
                have n3_ := Aside0.mk (Kd.R_drew HO660.out)
                have n4_ := Aside0.mk (blk_drew B648.out)
                have n5_ := Aside0.mk (below_drew1 HB.out)
                clear HO_12
                clear HO_15
                clear HO_649003
                clear HO660
                clear B648
                clear HB
                have HO_12 := n0_
                have HO_15 := n1_
                have HO_649003 := n2_
                have HO660 := n3_
                have B648 := n4_
                have HB := n5_
                clear n0_ n1_ n2_ n3_ n4_ n5_
                obtain ⟨Ao44, co44, eo44⟩ := Kd.R_slice HO660.out
                (first | subst eo44 | (injection eo44 with f1_ f2_ f3_; have f4_ := f1_.symm; have f5_ := f3_.symm; clear f1_ f2_ f3_; subst f4_; subst f5_))
                have p662 : 0 ≤ (x16_2 : Int) := of_decide_eq_true (by first | (with_reducible assumption) | assumption)
                have q662 : x16_2 < (t638.length : Int) := of_decide_eq_true (by first | (with_reducible assumption) | assumption)
                obtain ⟨ad662, e662, hx662_0, hx662_1⟩ := at_T36 (Kd.R_reads' HO_12.out).2.2 x16_2 p662 q662
                cases e662
                replace p662 := eq_true p662
                replace q662 := eq_true q662
                obtain ⟨Ao45, co45, eo45⟩ := Kd.R_slice HO_15.out
                (first | subst eo45 | (injection eo45 with f1_ f2_ f3_; have f4_ := f1_.symm; have f5_ := f3_.symm; clear f1_ f2_ f3_; subst f4_; subst f5_))
                have p664 : 0 ≤ (x16_2 : Int) := of_decide_eq_true (by first | (with_reducible assumption) | assumption)
                have q664 : x16_2 < (t638.length : Int) := of_decide_eq_true (by first | (with_reducible assumption) | assumption)
                obtain ⟨ad664, e664, hx664_0, hx664_1⟩ := at_T36 (Kd.R_reads' HO_12.out).2.2 x16_2 p664 q664
                obtain rfl : ad662 = ad664 := (by injection e664)
                replace p664 := eq_true p664
                replace q664 := eq_true q664
                have p667 : 0 ≤ ((ji37) : Int) := of_decide_eq_true (by first | (with_reducible assumption) | assumption)
                have q667 : (ji37) < (t649.length : Int) := of_decide_eq_true (by first | (with_reducible assumption) | assumption)
                obtain ⟨ad667, e667, hx667_0, hx667_1⟩ := at_T36 (Kd.R_reads' HO_15.out).2.2 (ji37) p667 q667
                cases e667
                replace p667 := eq_true p667
                replace q667 := eq_true q667
                refine start_ (n := 41) (S := fun w' => w'.cell? (ad662.add ((x16_2).toNat * 2)) = some (.int .u64 ((rd_T36 t638 x16_2).f0)) ∧ w'.cell? ⟨(ad662.add ((x16_2).toNat * 2)).block, (ad662.add ((x16_2).toNat * 2)).off + 1, none⟩ = some (.int .u64 ((rd_T36 t638 x16_2).f1)) ∧ w'.cell? (ad662.add ((x16_2).toNat * 2)) = some (.int .u64 ((rd_T36 t638 x16_2).f0)) ∧ w'.cell? ⟨(ad662.add ((x16_2).toNat * 2)).block, (ad662.add ((x16_2).toNat * 2)).off + 1, none⟩ = some (.int .u64 ((rd_T36 t638 x16_2).f1)) ∧ w'.cell? (ad667.add (((ji37)).toNat * 2)) = some (.int .u64 ((rd_T36 t649 (ji37)).f0)) ∧ w'.cell? ⟨(ad667.add (((ji37)).toNat * 2)).block, (ad667.add (((ji37)).toNat * 2)).off + 1, none⟩ = some (.int .u64 ((rd_T36 t649 (ji37)).f1))) (ds := []) z6_0_ (by kernel_rfl) rfl rfl ⟨hx662_0, hx662_1, hx664_0, hx664_1, hx667_0, hx667_1⟩ (fun hL => ?_); refine with_tabW attestorlaw07_TreeOpens.tab12 attestorlaw07_TreeOpens.bits12 (fun T_ W_ => ?_)
                generalize w42.drew = w43 at HO_12 HO_15 HO_649003 HO660 B648 HB hx662_0 hx662_1 hx664_0 hx664_1 hx667_0 hx667_1 hL ⊢
                refine pure_ (i := 0) (N := some 71) (v := ?_) (a' := ?_) z6_1_ rfl rfl (an_ T_) (fun _ _ _ h => h) (Or.inl ⟨by rfl, ?_⟩) ?_ ?_
                rotate_left; · intro w'; go_simp; with_reducible rfl
                rotate_left; · simp only [Act.put, sa_, sb_, sc_, i64_w, i32_w]; rfl
                refine pure_ (i := 1) (N := some 72) (v := ?_) (a' := ?_) z6_2_ rfl rfl (an_ T_) (fun _ _ _ h => h) (Or.inl ⟨by rfl, ?_⟩) ?_ ?_
                rotate_left; · intro w'; go_simp; with_reducible rfl
                rotate_left; · simp only [Act.put, sa_, sb_, sc_, i64_w, i32_w]; rfl
                refine pure_ (i := 2) (N := some 73) (v := ?_) (a' := ?_) z6_3_ rfl rfl (an_ T_) (fun _ _ _ h => h) (Or.inl ⟨by rfl, ?_⟩) ?_ ?_
                rotate_left; · intro w'; go_simp; with_reducible rfl
                rotate_left; · simp only [Act.put, sa_, sb_, sc_, i64_w, i32_w]; rfl
                refine pure_ (i := 3) (N := some 74) (v := ?_) (a' := ?_) z6_4_ rfl rfl (an_ T_) (fun _ _ _ h => h) (Or.inl ⟨by rfl, ?_⟩) ?_ ?_
                rotate_left; · intro w'; go_simp; with_reducible rfl
                rotate_left; · simp only [Act.put, sa_, sb_, sc_, i64_w, i32_w]; rfl
                refine pure_ (i := 4) (N := some 75) (v := ?_) (a' := ?_) z6_5_ rfl rfl (an_ T_) (fun _ _ _ h => h) (Or.inl ⟨by rfl, ?_⟩) ?_ ?_
                rotate_left; · intro w'; go_simp; with_reducible rfl
                rotate_left; · simp only [Act.put, sa_, sb_, sc_, i64_w, i32_w]; rfl
                refine pure_ (i := 5) (N := some 76) (v := ?_) (a' := ?_) z6_6_ rfl rfl (an_ T_) (fun _ _ _ h => h) (Or.inl ⟨by rfl, ?_⟩) ?_ ?_
                rotate_left; · intro w'; go_simp; with_reducible rfl
                rotate_left; · simp only [Act.put, sa_, sb_, sc_, i64_w, i32_w]; rfl
                refine pure_ (i := 6) (N := some 77) (v := ?_) (a' := ?_) z6_7_ rfl rfl (an_ T_) (fun _ _ _ h => h) (Or.inl ⟨by rfl, ?_⟩) ?_ ?_
                rotate_left; · intro w'; go_simp; with_reducible rfl
                rotate_left; · simp only [Act.put, sa_, sb_, sc_, i64_w, i32_w]; rfl
                refine pure_ (i := 7) (N := some 78) (v := ?_) (a' := ?_) z6_8_ rfl rfl (an_ T_) (fun _ _ _ h => h) (Or.inl ⟨by rfl, ?_⟩) ?_ ?_
                rotate_left; · intro w'; go_simp; with_reducible rfl
                rotate_left; · simp only [Act.put, sa_, sb_, sc_, i64_w, i32_w]; rfl
                refine pure_ (i := 8) (N := some 79) (v := ?_) (a' := ?_) z6_9_ rfl rfl (an_ T_) (fun _ _ _ h => h) (Or.inl ⟨by rfl, ?_⟩) ?_ ?_
                rotate_left; · intro w'; go_simp; with_reducible rfl
                rotate_left; · simp only [Act.put, sa_, sb_, sc_, i64_w, i32_w]; rfl
                refine pure_ (i := 9) (N := some 80) (v := ?_) (a' := ?_) z6_10_ rfl rfl (an_ T_) (fun _ _ _ h => h) (Or.inl ⟨by rfl, ?_⟩) ?_ ?_
                rotate_left; · intro w'; go_simp; with_reducible rfl
                rotate_left; · simp only [Act.put, sa_, sb_, sc_, i64_w, i32_w]; rfl
                refine pure_ (i := 10) (N := some 81) (v := ?_) (a' := ?_) z6_11_ rfl rfl (an_ T_) (fun _ _ _ h => h) (Or.inl ⟨by rfl, ?_⟩) ?_ ?_
                rotate_left; · intro w'; go_simp; with_reducible rfl
                rotate_left; · simp only [Act.put, sa_, sb_, sc_, i64_w, i32_w]; rfl
                refine pure_ (i := 11) (N := some 82) (v := ?_) (a' := ?_) z6_12_ rfl rfl (an_ T_) (fun _ _ _ h => h) (Or.inl ⟨by rfl, ?_⟩) ?_ ?_
                rotate_left; · intro w'; go_simp; with_reducible rfl
                rotate_left; · simp only [Act.put, sa_, sb_, sc_, i64_w, i32_w]; rfl
                refine pure_ (i := 12) (N := some 83) (v := ?_) (a' := ?_) z6_13_ rfl rfl (an_ T_) (fun _ _ _ h => h) (Or.inl ⟨by rfl, ?_⟩) ?_ ?_
                rotate_left; · intro w'; go_simp; with_reducible rfl
                rotate_left; · simp only [Act.put, sa_, sb_, sc_, i64_w, i32_w]; rfl
                refine pure_ (i := 13) (N := some 84) (v := ?_) (a' := ?_) z6_14_ rfl rfl (an_ T_) (fun _ _ _ h => h) (Or.inl ⟨by rfl, ?_⟩) ?_ ?_
                rotate_left; · intro w'; go_simp; with_reducible rfl
                rotate_left; · simp only [Act.put, sa_, sb_, sc_, i64_w, i32_w]; rfl
                refine pure_ (i := 14) (N := some 85) (v := ?_) (a' := ?_) z6_15_ rfl rfl (an_ T_) (fun _ _ _ h => h) (Or.inl ⟨by rfl, ?_⟩) ?_ ?_
                rotate_left; · intro w'; go_simp; with_reducible rfl
                rotate_left; · simp only [Act.put, sa_, sb_, sc_, i64_w, i32_w]; rfl
                refine pure_ (i := 15) (N := some 86) (v := ?_) (a' := ?_) z6_16_ rfl rfl (an_ T_) (fun _ _ _ h => h) (Or.inl ⟨by rfl, ?_⟩) ?_ ?_
                rotate_left; · intro w'; go_simp; with_reducible rfl
                rotate_left; · simp only [Act.put, sa_, sb_, sc_, i64_w, i32_w]; rfl
                refine pure_ (i := 16) (N := some 87) (v := ?_) (a' := ?_) z6_17_ rfl rfl (an_ T_) (fun _ _ _ h => h) (Or.inl ⟨by rfl, ?_⟩) ?_ ?_
                rotate_left; · intro w'; go_simp; with_reducible rfl
                rotate_left; · simp only [Act.put, sa_, sb_, sc_, i64_w, i32_w]; rfl
                refine pure_ (i := 18) (N := some 89) (v := ?_) (a' := ?_) z6_18_ rfl rfl (an_ T_) (fun _ _ _ h => h) (Or.inl ⟨by rfl, ?_⟩) ?_ ?_
                rotate_left; · intro w'; go_simp; with_reducible rfl
                rotate_left; · simp only [Act.put, sa_, sb_, sc_, i64_w, i32_w]; rfl
                refine take_ (i := 17) (N := some 88) (v := ?_) (a' := ?_) z6_19_ rfl rfl (tk_ T_ W_) (fun _ _ _ h => h) (Or.inl ⟨by rfl, ?_⟩) hL ?_ ?_
                rotate_left
                ·rintro w' ⟨s0, s1, s2, s3, s4, s5⟩
                 go_simp
                 with_reducible rfl
                rotate_left
                ·simp only [Act.put, sa_, sb_, sc_, i64_w, i32_w]
                 rfl
                refine one_ (i := 19) (N := some 90) z6_20_ rfl rfl (on_ T_) (by decide) (fun K hK => ?_)
                refine goes_ Tryd.func26 (by kernel_rfl) rfl #[.int .i64 (wrap64 (Int.tmod a0 4)), .slice (some ad667) t649.length co45, .int .i64 x16_2, .agg #[.int .u64 ((rd_T36 t638 x16_2).f0), .int .u64 ((rd_T36 t638 x16_2).f1)], .slice Ao44 t658.length co44] (by rfl) rfl rfl (by (try simp only [List.map_toArray, List.map_cons, List.map_nil]); first | done | rfl | (go_simp; done)) ?_
                with_reducible refine (tree_Check.calls (wrap64 (Int.tmod a0 4)) _ _ t649 x16_2 ((rd_T36 t638 x16_2).f0) ((rd_T36 t638 x16_2).f1) _ _ t658 true _ ?side1 ?side2 ?side3 ?side4 ?side5 A32.out).mono ?_
                (case side1 => repeat (first | exact (Kd.R_reads' HO_15.out).2.2 | (with_reducible refine Kd.C_alloc ?_ _) | (with_reducible refine Kd.C_drewN ?_ _) | (with_reducible refine Kd.C_drew ?_)))
                (case side2 => exact (Kd.R_reads' HO_15.out).2.1)
                (case side3 => repeat (first | exact (Kd.R_reads' HO660.out).2.2 | (with_reducible refine Kd.C_alloc ?_ _) | (with_reducible refine Kd.C_drewN ?_ _) | (with_reducible refine Kd.C_drew ?_)))
                (case side4 => exact (Kd.R_reads' HO660.out).2.1)
                (case side5 => repeat (first | exact (GL.below HRG.out HB.out) | (with_reducible refine GL.alloc ?_ _) | (with_reducible refine GL.drewN ?_ _) | (with_reducible refine GL.drew ?_)))
                rintro e w46 ⟨rfl, hb⟩
                have HS0_ := (hb.cell (World.block_lt_of_cell? _ _ (hL.1))).trans (hL.1)
                have HS1_ := (hb.cell (World.block_lt_of_cell? _ _ (hL.2.1))).trans (hL.2.1)
                have HS2_ := (hb.cell (World.block_lt_of_cell? _ _ (hL.2.2.1))).trans (hL.2.2.1)
                have HS3_ := (hb.cell (World.block_lt_of_cell? _ _ (hL.2.2.2.1))).trans (hL.2.2.2.1)
                have HS4_ := (hb.cell (World.block_lt_of_cell? _ _ (hL.2.2.2.2.1))).trans (hL.2.2.2.2.1)
                have HS5_ := (hb.cell (World.block_lt_of_cell? _ _ (hL.2.2.2.2.2))).trans (hL.2.2.2.2.2)
                refine ⟨_, rfl, ?_⟩
                have n0_ := Aside0.mk (Kd.R_below (by (with_reducible repeat (first | apply Kd.R_alloc | apply Kd.R_drewN | apply Kd.R_drew)); exact HO_12.out) hb)
                have n1_ := Aside0.mk (Kd.R_below (by (with_reducible repeat (first | apply Kd.R_alloc | apply Kd.R_drewN | apply Kd.R_drew)); exact HO_15.out) hb)
                have n2_ := Aside0.mk (Kd.S_below (by (with_reducible repeat (first | apply Kd.S_alloc | apply Kd.S_drewN | apply Kd.S_drew)); exact HO_649003.out) hb)
                have n3_ := Aside0.mk (Kd.R_below (by (with_reducible repeat (first | apply Kd.R_alloc | apply Kd.R_drewN | apply Kd.R_drew)); exact HO660.out) hb)
                have n4_ := Aside0.mk (blk_below (g := g648) (o := .cells #[.int .i64 t641, .int .i64 t642, .int .i64 t643, .slice Ao15 t644.length co15] 26 (0, 0)) (by exact B648.out) hb)
                have n5_ := Aside0.mk (below_step (by repeat (first | (with_reducible first | exact HB.out | apply below_alloc | apply pw_below_drewN | apply below_drew1 | refine below_set ?_ GE648.out) | exact HB.out)) hb)
                clear HO_12
                clear HO_15
                clear HO_649003
                clear HO660
                clear B648
                clear HB
                have HO_12 := n0_
                have HO_15 := n1_
                have HO_649003 := n2_
                have HO660 := n3_
                have B648 := n4_
                have HB := n5_
                clear n0_ n1_ n2_ n3_ n4_ n5_
                (try clear hb)
                (try clear hb2)
                (try clear hk)
                (try clear hi)
                refine hK.out _ _ ⟨HS0_, HS1_, HS2_, HS3_, HS4_, HS5_⟩ (fun hL => ?_)
                clear hK K
                refine norm_ (a' := ?_) ?_ ?_
                rotate_left
                ·show Act.put _ (some 90) _ = _
                 simp only [Act.put, sa_, sb_, sc_, i64_w, i32_w]
                 rfl
                refine pure_ (i := 20) (N := some 91) (v := ?_) (a' := ?_) z6_21_ rfl rfl (an_ T_) (fun _ _ _ h => h) (Or.inl ⟨by rfl, ?_⟩) ?_ ?_
                rotate_left; · intro w'; go_simp; with_reducible rfl
                rotate_left; · simp only [Act.put, sa_, sb_, sc_, i64_w, i32_w]; rfl
                refine pure_ (i := 21) (N := some 92) (v := ?_) (a' := ?_) z6_22_ rfl rfl (an_ T_) (fun _ _ _ h => h) (Or.inl ⟨by rfl, ?_⟩) ?_ ?_
                rotate_left; · intro w'; go_simp; with_reducible rfl
                rotate_left; · simp only [Act.put, sa_, sb_, sc_, i64_w, i32_w]; rfl
                refine pure_ (i := 22) (N := some 93) (v := ?_) (a' := ?_) z6_23_ rfl rfl (an_ T_) (fun _ _ _ h => h) (Or.inl ⟨by rfl, ?_⟩) ?_ ?_
                rotate_left; · intro w'; go_simp; with_reducible rfl
                rotate_left; · simp only [Act.put, sa_, sb_, sc_, i64_w, i32_w]; rfl
                refine pure_ (i := 23) (N := some 94) (v := ?_) (a' := ?_) z6_24_ rfl rfl (an_ T_) (fun _ _ _ h => h) (Or.inl ⟨by rfl, ?_⟩) ?_ ?_
                rotate_left; · intro w'; go_simp; with_reducible rfl
                rotate_left; · simp only [Act.put, sa_, sb_, sc_, i64_w, i32_w]; rfl
                refine pure_ (i := 24) (N := some 95) (v := ?_) (a' := ?_) z6_25_ rfl rfl (an_ T_) (fun _ _ _ h => h) (Or.inl ⟨by rfl, ?_⟩) ?_ ?_
                rotate_left; · intro w'; go_simp; with_reducible rfl
                rotate_left; · simp only [Act.put, sa_, sb_, sc_, i64_w, i32_w]; rfl
                refine pure_ (i := 25) (N := some 96) (v := ?_) (a' := ?_) z6_26_ rfl rfl (an_ T_) (fun _ _ _ h => h) (Or.inl ⟨by rfl, ?_⟩) ?_ ?_
                rotate_left; · intro w'; go_simp; with_reducible rfl
                rotate_left; · simp only [Act.put, sa_, sb_, sc_, i64_w, i32_w]; rfl
                refine pure_ (i := 26) (N := some 97) (v := ?_) (a' := ?_) z6_27_ rfl rfl (an_ T_) (fun _ _ _ h => h) (Or.inl ⟨by rfl, ?_⟩) ?_ ?_
                rotate_left; · intro w'; go_simp; with_reducible rfl
                rotate_left; · simp only [Act.put, sa_, sb_, sc_, i64_w, i32_w]; rfl
                refine pure_ (i := 27) (N := some 98) (v := ?_) (a' := ?_) z6_28_ rfl rfl (an_ T_) (fun _ _ _ h => h) (Or.inl ⟨by rfl, ?_⟩) ?_ ?_
                rotate_left; · intro w'; go_simp; with_reducible rfl
                rotate_left; · simp only [Act.put, sa_, sb_, sc_, i64_w, i32_w]; rfl
                refine pure_ (i := 29) (N := some 100) (v := ?_) (a' := ?_) z6_29_ rfl rfl (an_ T_) (fun _ _ _ h => h) (Or.inl ⟨by rfl, ?_⟩) ?_ ?_
                rotate_left; · intro w'; go_simp; with_reducible rfl
                rotate_left; · simp only [Act.put, sa_, sb_, sc_, i64_w, i32_w]; rfl
                refine pure_ (i := 31) (N := some 102) (v := ?_) (a' := ?_) z6_30_ rfl rfl (an_ T_) (fun _ _ _ h => h) (Or.inl ⟨by rfl, ?_⟩) ?_ ?_
                rotate_left; · intro w'; go_simp; with_reducible rfl
                rotate_left; · simp only [Act.put, sa_, sb_, sc_, i64_w, i32_w]; rfl
                refine pure_ (i := 32) (N := some 103) (v := ?_) (a' := ?_) z6_31_ rfl rfl (an_ T_) (fun _ _ _ h => h) (Or.inl ⟨by rfl, ?_⟩) ?_ ?_
                rotate_left; · intro w'; go_simp; with_reducible rfl
                rotate_left; · simp only [Act.put, sa_, sb_, sc_, i64_w, i32_w]; rfl
                refine pure_ (i := 33) (N := some 104) (v := ?_) (a' := ?_) z6_32_ rfl rfl (an_ T_) (fun _ _ _ h => h) (Or.inl ⟨by rfl, ?_⟩) ?_ ?_
                rotate_left; · intro w'; go_simp; with_reducible rfl
                rotate_left; · simp only [Act.put, sa_, sb_, sc_, i64_w, i32_w]; rfl
                refine pure_ (i := 34) (N := some 105) (v := ?_) (a' := ?_) z6_33_ rfl rfl (an_ T_) (fun _ _ _ h => h) (Or.inl ⟨by rfl, ?_⟩) ?_ ?_
                rotate_left; · intro w'; go_simp; with_reducible rfl
                rotate_left; · simp only [Act.put, sa_, sb_, sc_, i64_w, i32_w]; rfl
                refine pure_ (i := 35) (N := some 106) (v := ?_) (a' := ?_) z6_34_ rfl rfl (an_ T_) (fun _ _ _ h => h) (Or.inl ⟨by rfl, ?_⟩) ?_ ?_
                rotate_left; · intro w'; go_simp; with_reducible rfl
                rotate_left; · simp only [Act.put, sa_, sb_, sc_, i64_w, i32_w]; rfl
                refine pure_ (i := 36) (N := some 107) (v := ?_) (a' := ?_) z6_35_ rfl rfl (an_ T_) (fun _ _ _ h => h) (Or.inl ⟨by rfl, ?_⟩) ?_ ?_
                rotate_left; · intro w'; go_simp; with_reducible rfl
                rotate_left; · simp only [Act.put, sa_, sb_, sc_, i64_w, i32_w]; rfl
                refine pure_ (i := 37) (N := some 108) (v := ?_) (a' := ?_) z6_36_ rfl rfl (an_ T_) (fun _ _ _ h => h) (Or.inl ⟨by rfl, ?_⟩) ?_ ?_
                rotate_left; · intro w'; go_simp; with_reducible rfl
                rotate_left; · simp only [Act.put, sa_, sb_, sc_, i64_w, i32_w]; rfl
                refine take_ (i := 28) (N := some 99) (v := ?_) (a' := ?_) z6_37_ rfl rfl (tk_ T_ W_) (fun _ _ _ h => h) (Or.inl ⟨by rfl, ?_⟩) hL ?_ ?_
                rotate_left
                ·rintro w' ⟨s0, s1, s2, s3, s4, s5⟩
                 go_simp
                 with_reducible rfl
                rotate_left
                ·simp only [Act.put, sa_, sb_, sc_, i64_w, i32_w]
                 rfl
                refine take_ (i := 38) (N := some 109) (v := ?_) (a' := ?_) z6_38_ rfl rfl (tk_ T_ W_) (fun _ _ _ h => h) (Or.inl ⟨by rfl, ?_⟩) hL ?_ ?_
                rotate_left
                ·rintro w' ⟨s0, s1, s2, s3, s4, s5⟩
                 go_simp
                 with_reducible rfl
                rotate_left
                ·simp only [Act.put, sa_, sb_, sc_, i64_w, i32_w]
                 rfl
                refine one_ (i := 30) (N := some 101) z6_39_ rfl rfl (on_ T_) (by decide) (fun K hK => ?_)
                refine goes_ Tryd.func24 (by kernel_rfl) rfl #[.int .i64 (wrap64 (Int.tmod a0 4)), .int .i64 x16_2, .agg #[.int .u64 ((rd_T36 t638 x16_2).f0), .int .u64 ((rd_T36 t638 x16_2).f1)], .slice Ao44 t658.length co44] (by rfl) rfl rfl (by (try simp only [List.map_toArray, List.map_cons, List.map_nil]); first | done | rfl | (go_simp; done)) ?_
                with_reducible refine (tree_Climb.calls (wrap64 (Int.tmod a0 4)) x16_2 ((rd_T36 t638 x16_2).f0) ((rd_T36 t638 x16_2).f1) _ _ t658 t665 t666 _ ?side1 ?side2 ?side3 A34.out).mono ?_
                (case side1 => repeat (first | exact (Kd.R_reads' HO660.out).2.2 | (with_reducible refine Kd.C_alloc ?_ _) | (with_reducible refine Kd.C_drewN ?_ _) | (with_reducible refine Kd.C_drew ?_)))
                (case side2 => exact (Kd.R_reads' HO660.out).2.1)
                (case side3 => repeat (first | exact (GL.below HRG.out HB.out) | (with_reducible refine GL.alloc ?_ _) | (with_reducible refine GL.drewN ?_ _) | (with_reducible refine GL.drew ?_)))
                rintro e w47 ⟨rfl, hb⟩
                have HS0_ := (hb.cell (World.block_lt_of_cell? _ _ (hL.1))).trans (hL.1)
                have HS1_ := (hb.cell (World.block_lt_of_cell? _ _ (hL.2.1))).trans (hL.2.1)
                have HS2_ := (hb.cell (World.block_lt_of_cell? _ _ (hL.2.2.1))).trans (hL.2.2.1)
                have HS3_ := (hb.cell (World.block_lt_of_cell? _ _ (hL.2.2.2.1))).trans (hL.2.2.2.1)
                have HS4_ := (hb.cell (World.block_lt_of_cell? _ _ (hL.2.2.2.2.1))).trans (hL.2.2.2.2.1)
                have HS5_ := (hb.cell (World.block_lt_of_cell? _ _ (hL.2.2.2.2.2))).trans (hL.2.2.2.2.2)
                refine ⟨_, rfl, ?_⟩
                have n0_ := Aside0.mk (Kd.R_below (by (with_reducible repeat (first | apply Kd.R_alloc | apply Kd.R_drewN | apply Kd.R_drew)); exact HO_12.out) hb)
                have n1_ := Aside0.mk (Kd.R_below (by (with_reducible repeat (first | apply Kd.R_alloc | apply Kd.R_drewN | apply Kd.R_drew)); exact HO_15.out) hb)
                have n2_ := Aside0.mk (Kd.S_below (by (with_reducible repeat (first | apply Kd.S_alloc | apply Kd.S_drewN | apply Kd.S_drew)); exact HO_649003.out) hb)
                have n3_ := Aside0.mk (Kd.R_below (by (with_reducible repeat (first | apply Kd.R_alloc | apply Kd.R_drewN | apply Kd.R_drew)); exact HO660.out) hb)
                have n4_ := Aside0.mk (blk_below (g := g648) (o := .cells #[.int .i64 t641, .int .i64 t642, .int .i64 t643, .slice Ao15 t644.length co15] 26 (0, 0)) (by exact B648.out) hb)
                have n5_ := Aside0.mk (below_step (by repeat (first | (with_reducible first | exact HB.out | apply below_alloc | apply pw_below_drewN | apply below_drew1 | refine below_set ?_ GE648.out) | exact HB.out)) hb)
                clear HO_12
                clear HO_15
                clear HO_649003
                clear HO660
                clear B648
                clear HB
                have HO_12 := n0_
                have HO_15 := n1_
                have HO_649003 := n2_
                have HO660 := n3_
                have B648 := n4_
                have HB := n5_
                clear n0_ n1_ n2_ n3_ n4_ n5_
                (try clear hb)
                (try clear hb2)
                (try clear hk)
                (try clear hi)
                refine hK.out _ _ ⟨HS0_, HS1_, HS2_, HS3_, HS4_, HS5_⟩ (fun hL => ?_)
                clear hK K
                refine norm_ (a' := ?_) ?_ ?_
                rotate_left
                ·show Act.put _ (some 101) _ = _
                 simp only [Act.put, sa_, sb_, sc_, i64_w, i32_w]
                 rfl
                refine pure_ (i := 39) (N := some 110) (v := ?_) (a' := ?_) z6_40_ rfl rfl (an_ T_) (fun _ _ _ h => h) (Or.inl ⟨by rfl, ?_⟩) ?_ ?_
                rotate_left; · intro w'; go_simp; with_reducible rfl
                rotate_left; · simp only [Act.put, sa_, sb_, sc_, i64_w, i32_w]; rfl
                refine pure_ (i := 40) (N := some 111) (v := ?_) (a' := ?_) z6_41_ rfl rfl (an_ T_) (fun _ _ _ h => h) (Or.inl ⟨by rfl, ?_⟩) ?_ ?_
                rotate_left; · intro w'; go_simp; with_reducible rfl
                rotate_left; · simp only [Act.put, sa_, sb_, sc_, i64_w, i32_w]; rfl
                refine done_ (done_of T_.out (by kernel_rfl)) ?_
                try go_wp2
                go_roundg k2
                case measure => have := HJ8.out; have := HK2.out; omega
                case rel => exact ⟨(wrap64 (x16_2 + 1)), (by first | rfl | (simp; done) | (simp [*]; done) | (simp; rfl) | (simp; decide +kernel)), H', ⟨by have := HJ8.out; have := HK2.out; omega⟩, ⟨by (with_reducible repeat (first | apply Kd.R_alloc | apply Kd.R_drewN | apply Kd.R_drew)); exact Kd.R_mono HO_12.out (fun _ hk => hk.1)⟩, ⟨by (with_reducible repeat (first | apply Kd.R_alloc | apply Kd.R_drewN | apply Kd.R_drew)); exact Kd.R_mono HO_15.out (fun _ hk => hk.1)⟩, ⟨by (with_reducible repeat (first | apply Kd.S_alloc | apply Kd.S_drewN | apply Kd.S_drew)); exact Kd.S_mono HO_649003.out (fun _ hk => ⟨hk.1.1, hk.1.2⟩)⟩, ⟨by exact B648.out⟩, ⟨by repeat (first | (with_reducible first | exact HB.out | apply below_alloc | apply pw_below_drewN | apply below_drew1 | refine below_set ?_ GE648.out) | exact HB.out)⟩⟩
              ·rw [if_neg c39] at H
               exact absurd H (by simp)
             ·rw [if_neg c38] at H
              exact absurd H (by simp)
            ·rw [if_neg c36] at H
             exact absurd H (by simp)
           ·replace c33 := Bool.eq_false_iff.mpr c33
            subst c33
            have H1 : (none) = some r := by rw [if_neg (show ¬ (false = true) by decide)] at H; exact H
            clear H
            have H := H1
            clear H1
            exact absurd H (by simp)
          ·rw [if_neg c31] at H
           exact absurd H (by simp)
         ·rw [if_neg c30] at H
          exact absurd H (by simp)
        ·rw [if_neg c29] at H
         exact absurd H (by simp)
       ·rw [if_neg c27] at H
        have c27b0 : decide (x16_2 < (t638.length : Int)) = false := decide_eq_false c27
        clear c27
        replace H := Option.bind_eq_some_iff.mp H
        obtain ⟨⟨t653, t656⟩, A480, H⟩ := H
        replace H : (if t656 = 2 then ((attestorlaw07_lives.f k2).bind fun t657 => (some t657)) else (none)) = some r := H
        have A48 := Aside0.mk A480
        clear A480
        by_cases c49 : t656 = 2
        ·rw [if_pos c49] at H
         have c49b0 : (t656 == 2) = true := beq_iff_eq.mpr c49
         have c49b1 : (t656 != 2) = false := bne_eq_false_iff_eq.mpr c49
         clear c49
         replace H := Option.bind_eq_some_iff.mp H
         obtain ⟨t657, A500, H⟩ := H
         have A50 := Aside0.mk A500
         clear A500
         obtain rfl := Option.some.inj H
         have hcz51_0 : wr.cell? ⟨g648, 0, none⟩ = some (.int .i64 t641) := bq_ B648 0
         have hcz51_1 : wr.cell? ⟨g648, 1, none⟩ = some (.int .i64 t642) := bq_ B648 1
         have hcz51_2 : wr.cell? ⟨g648, 2, none⟩ = some (.int .i64 t643) := bq_ B648 2
         have hcz51_3 : wr.cell? ⟨g648, 3, none⟩ = some (.slice Ao15 t644.length co15) := bq_ B648 3
         have hfz51_0 := blk_frozen B648.out 0
         have hfz51_1 := blk_frozen B648.out 1
         have hfz51_2 := blk_frozen B648.out 2
         have hfz51_3 := blk_frozen B648.out 3
         go_wp2_with (first | ((with_reducible refine gate_callee (f := 23) rfl ?_); refine goesL_ (some 116) rfl rfl Tryd.func23 (by kernel_rfl) rfl #[.agg #[.int .i64 t641, .int .i64 t642, .int .i64 t643, .slice Ao15 t644.length co15], .int .i64 (t638.length : Int)] rfl (by (try simp only [List.map_toArray, List.map_cons, List.map_nil]); first | done | rfl | (go_simp; done)) ?_; (with_reducible refine (tree_Path.calls k2 t641 t642 t643 _ _ t644 (t638.length : Int) t653 t656 _ ?side1 ?side2 ?side3 A48.out).mono ?_); (case side1 => repeat (first | exact (Kd.S_reads' HO_649003.out).2.2 | (with_reducible refine Kd.C_alloc ?_ _) | (with_reducible refine Kd.C_drewN ?_ _) | (with_reducible refine Kd.C_drew ?_))); (case side2 => exact (Kd.S_reads' HO_649003.out).2.1); (case side3 => repeat (first | exact (GL.below HRG.out HB.out) | (with_reducible refine GL.alloc ?_ _) | (with_reducible refine GL.drewN ?_ _) | (with_reducible refine GL.drew ?_))); rintro e w52 ⟨v654, rfl, ho0, hb⟩; refine ⟨_, rfl, ?_⟩; have n0_ := Aside0.mk (Kd.R_elder' (by (with_reducible repeat (first | apply Kd.R_alloc | apply Kd.R_drewN | apply Kd.R_drew)); exact HO_12.out) (Kd.R_base ho0) hb); have n1_ := Aside0.mk (Kd.R_elder' (by (with_reducible repeat (first | apply Kd.R_alloc | apply Kd.R_drewN | apply Kd.R_drew)); exact HO_15.out) (Kd.R_base ho0) hb); have n2_ := Aside0.mk (Kd.S_elder' (by (with_reducible repeat (first | apply Kd.S_alloc | apply Kd.S_drewN | apply Kd.S_drew)); exact HO_649003.out) (Kd.R_base ho0) hb); have n3_ := Aside0.mk (Kd.R_lower (Kd.R_new' (Kd.R_new' ho0 (Kd.R_lt (by (with_reducible repeat (first | apply Kd.R_alloc | apply Kd.R_drewN | apply Kd.R_drew)); exact HO_12.out))) (Kd.R_lt (by (with_reducible repeat (first | apply Kd.R_alloc | apply Kd.R_drewN | apply Kd.R_drew)); exact HO_15.out))) (below_size (by repeat (first | (with_reducible first | exact HB.out | apply below_alloc | apply pw_below_drewN | apply below_drew1 | refine below_set ?_ GE648.out) | exact HB.out)))); have n4_ := Aside0.mk (blk_below (g := g648) (o := .cells #[.int .i64 t641, .int .i64 t642, .int .i64 t643, .slice Ao15 t644.length co15] 26 (0, 0)) (by exact B648.out) hb); have n5_ := Aside0.mk (below_step (by repeat (first | (with_reducible first | exact HB.out | apply below_alloc | apply pw_below_drewN | apply below_drew1 | refine below_set ?_ GE648.out) | exact HB.out)) hb); clear HO_12; clear HO_15; clear HO_649003; clear B648; clear HB; have HO_12 := n0_; have HO_15 := n1_; have HO_649003 := n2_; have HO655 := n3_; have B648 := n4_; have HB := n5_; clear n0_ n1_ n2_ n3_ n4_ n5_; (try clear hb); (try clear hb2); (try clear hk); (try clear hi); (try clear ho0)) | (go_at_call 21; (with_reducible refine (attestorlaw07_lives.calls k2  t657 _ ?side1 A50.out).mono ?_); (case side1 => repeat (first | exact (GL.below HRG.out HB.out) | (with_reducible refine GL.alloc ?_ _) | (with_reducible refine GL.drewN ?_ _) | (with_reducible refine GL.drew ?_))); rintro e w53 ⟨rfl, hb⟩; have n0_ := Aside0.mk (Kd.R_below (by (with_reducible repeat (first | apply Kd.R_alloc | apply Kd.R_drewN | apply Kd.R_drew)); exact HO_12.out) hb); have n1_ := Aside0.mk (Kd.R_below (by (with_reducible repeat (first | apply Kd.R_alloc | apply Kd.R_drewN | apply Kd.R_drew)); exact HO_15.out) hb); have n2_ := Aside0.mk (Kd.S_below (by (with_reducible repeat (first | apply Kd.S_alloc | apply Kd.S_drewN | apply Kd.S_drew)); exact HO_649003.out) hb); have n3_ := Aside0.mk (Kd.R_below (by (with_reducible repeat (first | apply Kd.R_alloc | apply Kd.R_drewN | apply Kd.R_drew)); exact HO655.out) hb); have n4_ := Aside0.mk (blk_below (g := g648) (o := .cells #[.int .i64 t641, .int .i64 t642, .int .i64 t643, .slice Ao15 t644.length co15] 26 (0, 0)) (by exact B648.out) hb); have n5_ := Aside0.mk (below_step (by repeat (first | (with_reducible first | exact HB.out | apply below_alloc | apply pw_below_drewN | apply below_drew1 | refine below_set ?_ GE648.out) | exact HB.out)) hb); clear HO_12; clear HO_15; clear HO_649003; clear HO655; clear B648; clear HB; have HO_12 := n0_; have HO_15 := n1_; have HO_649003 := n2_; have HO655 := n3_; have B648 := n4_; have HB := n5_; clear n0_ n1_ n2_ n3_ n4_ n5_; (try clear hb); (try clear hb2); (try clear hk); (try clear hi)))
         go_ret
         exact ⟨by first | rfl | (simp [errW_none, errW_some] <;> rfl) | (simp [*, errW_none, errW_some] <;> rfl), by repeat (first | (with_reducible first | exact HB.out | apply below_alloc | apply pw_below_drewN | apply below_drew1 | refine below_set ?_ GE648.out) | exact HB.out)⟩
        ·rw [if_neg c49] at H
         exact absurd H (by simp)

end Go.Proofs.YtpnpmeogffodgaaDoor.Q
end
section
namespace Go.Proofs.YtpnpmeogffodgaaDoor.Q
open Go.RowKit Go.Proofs.YtpnpmeogffodgaaDoorW.PrintWords Go.Proofs.YtpnpmeogffodgaaDoorW.PrintLast Go.Proofs.YtpnpmeogffodgaaDoorW.PrintMore
open Go.Proofs.YtpnpmeogffodgaaDoor.Num
set_option linter.unusedVariables false
set_option linter.unusedSimpArgs false
theorem topen {f : Int} (hv : 0 ≤ f ∧ f < 4) (n c j : Nat) (l : List S36) (hn : n + c ≤ 18) (hl : l.length = 2 ^ (n + c)) (h : ∀ d ∈ l, pD f d) (hj : j < l.length) : OpD f (j : Int) (l.getD j z36).f0 (l.getD j z36).f1 (pth f n l j) :=
  ⟨hv, Int.natCast_nonneg _, by rw [pth_len]; omega, pD_ok (h _ (getD_mem hj)), all_ok (pth_p hv n (2 ^ c) l j (by rw [hl, Nat.pow_add]) hj h)⟩
theorem tclimb_f {f : Int} (hv : 0 ≤ f ∧ f < 4) (n c j : Nat) (l : List S36) (hn : n + c ≤ 18) (hl : l.length = 2 ^ (n + c)) (h : ∀ d ∈ l, pD f d) (hj : j < l.length) : tree_climb.f f (j : Int) (l.getD j z36).f0 (l.getD j z36).f1 (pth f n l j) = some (((top f n l).getD (j / 2 ^ n) z36).f0, ((top f n l).getD (j / 2 ^ n) z36).f1) :=
  climb_top hv n (2 ^ c) l j (by rw [hl, Nat.pow_add]) hj h
theorem opens_l {f : Int} (hv : 0 ≤ f ∧ f < 4) (n c : Nat) (hn : n + c ≤ 5) (l : List S36) (hl : l.length = 2 ^ (n + c)) (h : ∀ d ∈ l, pD f d) : ∀ m j k, m + j = l.length → m + 1100 < k → attestorlaw07_TreeOpens.l0 k f ((n + c : Nat) : Int) (c : Int) l (top f n l) (j : Int) f ((n + c : Nat) : Int) (c : Int) (lvl f n l) = some true
  | _, _, 0, _, hk => by omega
  | 0, j, k + 1, hj, hk => by
    rw [attestorlaw07_TreeOpens.l0, if_neg (by omega)]
    refine bnd (tpath_no hv n c k l.length l (by omega) (by omega) hl h (by omega)) ?_
    rw [if_pos rfl]
    exact bnd (lives_true k (by omega)) rfl
  | m + 1, j, k + 1, hj, hk => by
    have hb : 2 ^ (n + c) ≤ 2 ^ 5 := Nat.pow_le_pow_right (by omega) hn
    have ht : (top f n l).length = 2 ^ c := top_len f n c l hl
    have hjl : j < l.length := by omega
    have hi : j / 2 ^ n < (top f n l).length := by
      rw [ht]
      refine Nat.div_lt_of_lt_mul ?_
      rw [← Nat.pow_add, ← hl]; omega
    have hs : shr .i64 (j : Int) (n : Int) = ((j / 2 ^ n : Nat) : Int) := by rw [shr_of _ n (by omega)]; rfl
    have hw : wrap64 (((n + c : Nat) : Int) - (c : Int)) = (n : Int) := by unfold wrap64; omega
    have hcap : tree_height.f ((top f n l).length : Int) = some (c : Int) := by rw [ht, height_f, (keys ⟨c, by omega⟩).2.2.2]
    have hC : tree_Check.f f (top f n l) (j : Int) (l.getD j z36).f0 (l.getD j z36).f1 (pth f n l j) = some true := by
      unfold tree_Check.f
      refine bnd hcap ?_
      rw [if_neg (by omega)]
      refine bnd (opens_f f _ _ _ _) ?_
      rw [decide_eq_true (topen hv n c j l (by omega) hl h hjl), if_pos rfl]
      refine bnd (proper_f f _) ?_
      rw [all_ok (top_p hv n l h), if_pos rfl, pth_len, hs, if_neg (by rw [show wrap64 ((c : Int) + (n : Int)) = ((c + n : Nat) : Int) by unfold wrap64; omega]; omega), if_neg (Int.not_le.mpr (Int.ofNat_lt.mpr hi))]
      refine bnd (tclimb_f hv n c j l (by omega) hl h hjl) ?_
      rw [if_pos (Int.natCast_nonneg _), if_pos (Int.ofNat_lt.mpr hi)]
      show some ((((top f n l).getD (j / 2 ^ n) z36).f0 == ((top f n l).getD (((j / 2 ^ n : Nat) : Int).toNat) z36).f0) && (((top f n l).getD (j / 2 ^ n) z36).f1 == ((top f n l).getD (((j / 2 ^ n : Nat) : Int).toNat) z36).f1)) = some true
      rw [Int.toNat_natCast]
      simp
    have hL : tree_Climb.f f (j : Int) (l.getD j z36).f0 (l.getD j z36).f1 (pth f n l j) = some (((top f n l).getD (j / 2 ^ n) z36).f0, ((top f n l).getD (j / 2 ^ n) z36).f1) := by
      unfold tree_Climb.f
      refine bnd (opens_f f _ _ _ _) ?_
      rw [decide_eq_true (topen hv n c j l (by omega) hl h hjl), if_pos rfl]
      exact bnd (tclimb_f hv n c j l (by omega) hl h hjl) rfl
    rw [attestorlaw07_TreeOpens.l0, if_pos (by omega), hw, hs]
    refine bnd (tpath_f hv n c k j l (by omega) (by omega) hl h hjl) ?_
    rw [if_pos rfl, pth_len, if_pos rfl, if_pos (by omega)]
    refine bnd hC ?_
    rw [if_pos rfl]
    refine bnd hL ?_
    rw [if_pos (Int.natCast_nonneg _), if_pos (Int.natCast_nonneg _), if_pos (Int.ofNat_lt.mpr hi), show rd_T36 (top f n l) ((j / 2 ^ n : Nat) : Int) = (top f n l).getD (j / 2 ^ n) z36 from by unfold rd_T36; rw [Int.toNat_natCast], if_neg (by simp), show wrap64 ((j : Int) + 1) = ((j + 1 : Nat) : Int) by unfold wrap64; omega]
    exact opens_l hv n c hn l hl h m (j + 1) k (by omega) (by omega)
theorem opens_true (a0 a1 a2 : Int) (h0 : 0 ≤ a0 ∧ a0 < 256) (h1 : 0 ≤ a1 ∧ a1 < 256) (h2 : 0 ≤ a2 ∧ a2 < 256) (s : List Int) (hs : ∀ y ∈ s, 0 ≤ y) : attestorlaw07_TreeOpens.f 2000 a0 a1 a2 s = some true := by
  have hv : 0 ≤ wrap64 (Int.tmod a0 4) ∧ wrap64 (Int.tmod a0 4) < 4 := by
    rw [Int.tmod_eq_emod_of_nonneg h0.1]
    unfold wrap64
    omega
  obtain ⟨x, hx, hx5⟩ : ∃ x : Nat, wrap64 (Int.tmod a1 6) = (x : Int) ∧ x ≤ 5 := by
    rw [Int.tmod_eq_emod_of_nonneg h1.1]
    refine ⟨(a1 % 6).toNat, ?_, by omega⟩
    unfold wrap64
    omega
  have w1 : wrap64 ((x : Int) + 1) = ((x + 1 : Nat) : Int) := by unfold wrap64; omega
  obtain ⟨c, hc, hcx⟩ : ∃ c : Nat, Int.tmod (wrap64 a2) ((x + 1 : Nat) : Int) = (c : Int) ∧ c ≤ x := by
    rw [show wrap64 a2 = a2 by unfold wrap64; omega, Int.tmod_eq_emod_of_nonneg h2.1]
    have l := Int.emod_lt_of_pos a2 (show (0 : Int) < ((x + 1 : Nat) : Int) by omega)
    have g := Int.emod_nonneg a2 (show ((x + 1 : Nat) : Int) ≠ 0 by omega)
    exact ⟨(a2 % ((x + 1 : Nat) : Int)).toNat, by omega, by omega⟩
  unfold attestorlaw07_TreeOpens.f
  rw [hx, w1, hc]
  generalize wrap64 (Int.tmod a0 4) = f at hv ⊢
  obtain ⟨n, rfl⟩ : ∃ n, x = n + c := ⟨x - c, by omega⟩
  have hb : 2 ^ (n + c) ≤ 2 ^ 5 := Nat.pow_le_pow_right (by omega) hx5
  obtain ⟨l, hl, hlen, hp⟩ := leaves_f hv (n + c) 2000 (by omega) (by omega) s hs
  have ht : (top f n l).length = 2 ^ c := top_len f n c l hlen
  rw [if_neg (by omega)]
  refine bnd hl (bnd (build_f hv n c 2000 l (by omega) (by omega) hlen hp) (bnd (tcap_f hv n c 2000 l (by omega) (by omega) hlen hp) ?_))
  rw [if_pos rfl]
  refine bnd (tvalid_f hv n c 2000 l (by omega) (by omega) hlen hp) ?_
  rw [if_pos rfl, if_pos (by omega), shl_of c (by omega), ht, bne_self_eq_false]
  show attestorlaw07_TreeOpens.j0 (1999 + 1) _ _ _ _ _ _ _ _ _ _ = some true
  rw [attestorlaw07_TreeOpens.j0, if_neg (by decide)]
  exact opens_l hv n c hx5 l hlen hp l.length 0 1999 (by omega) (by omega)
end Go.Proofs.YtpnpmeogffodgaaDoor.Q
end
section
namespace Go.Proofs.YtpnpmeogffodgaaDoor.Q
open Go.ChangeShapes Go.WideShapes Go.ChangeAt Go.WideMaps Go.WideElems Go.RowKit
open Go.Proofs.YtpnpmeogffodgaaDoorW.PrintWords Go.Proofs.YtpnpmeogffodgaaDoorW.PrintLast Go.Proofs.YtpnpmeogffodgaaDoorW.PrintMore
open Go.Proofs.YtpnpmeogffodgaaDoor.Opn
set_option linter.unusedVariables false

set_option maxRecDepth 100000 in
theorem treeOpens_lifted (os : Os) (started : os.Started) (H : Type) (enc : TypeId × Value → H) :
    ReturnsInHanded {} Tryd.checked os 6 .any (fun w args => (Rows.treeOpensSpec.pre enc Tryd.prog Tryd.f6 [] false w args ∧ laidMetH Tryd.prog laid1 w) ∧ sizedMet enc Tryd.prog Tryd.f6 (OpenSpec.ofChange Rows.treeOpensSpec) false w args)
      (Rows.treeOpensSpec.post enc Tryd.prog Tryd.f6 false true false false) := by
  refine returnsInHanded_of_change_and (C := Tryd.checked) (X := (fun w _ => laidMetH Tryd.prog laid1 w)) (fun _ _ _ hh h => h.of_heap hh) own started (by kernel_rfl) Tryd.func6
    (ChangeSpec.witness_shaped (enc := enc) (C := Tryd.checked) (os := os) (X := (fun w _ => laidMetH Tryd.prog laid1 w)) false (World.doorLaid Tryd.prog 400 os) #[.int .u8 0, .int .u8 0, .int .u8 0, .slice none 0 0] 8 rfl (World.shaped_of_RefB (by kernel_rfl) (by kernel_rfl)) (by kernel_rfl) (by kernel_rfl) (by kernel_rfl) (door_met os _)) ?_
  intro W base args ds gs before hval0 hW _ _ hL _
  have hval : ∀ (j : Nat) t v, Tryd.f6.params[j]? = some t → args[j]? = some v → Value.okWide Tryd.prog W .any base t v := hval0
  have hW' := hW
  obtain ⟨p, q, hA0, hV, rfl, hfz, hnd⟩ := hW
  have hA : DataW.TrodAll enc Tryd.prog W 0 (fun _ => true) true Tryd.f6.params.toList args.toList ds p := hA0
  rw [Tryd.params6] at hA hval
  obtain ⟨v0, vs0, d0, ds0, p0, q0, hargs, rfl, rfl, h0, r0⟩ := trodAll_cons hA
  obtain ⟨v1, vs1, d1, ds1, p1, q1, rfl, rfl, rfl, h1, r1⟩ := trodAll_cons r0
  obtain ⟨v2, vs2, d2, ds2, p2, q2, rfl, rfl, rfl, h2, r2⟩ := trodAll_cons r1
  obtain ⟨v3, vs3, d3, ds3, p3, q3, rfl, rfl, rfl, h3, r3⟩ := trodAll_cons r2
  obtain ⟨rfl, rfl, rfl⟩ := trodAll_nil r3
  obtain rfl : args = #[v0, v1, v2, v3] := by cases args; simp_all
  obtain ⟨rfl, rfl⟩ := trodVars_none hV
  obtain ⟨a0, rfl, rfl, rfl, w0⟩ := open_int Tryd.underlying5 (hval 0 5 v0 rfl rfl) h0
  obtain ⟨a1, rfl, rfl, rfl, w1⟩ := open_int Tryd.underlying5 (hval 1 5 v1 rfl rfl) h1
  obtain ⟨a2, rfl, rfl, rfl, w2⟩ := open_int Tryd.underlying5 (hval 2 5 v2 rfl rfl) h2
  obtain ⟨a3, len3, cap3, rfl⟩ := okWide_slice Tryd.underlying39 (hval 3 39 v3 rfl rfl)
  have k3 := h3
  have lt3 : ∀ x ∈ p3, x.block < W.heap.size := by obtain ⟨m, hm⟩ := k3; exact DataW.trod_lt m _ _ _ hm
  obtain ⟨m3, hm3⟩ := h3
  obtain ⟨l3, ⟨A3, c3, hc3, hle3, hC3⟩, hw3⟩ := opn39 (enc := enc) (W := W) m3 _ _ hm3
  simp only [Value.cells, List.cons.injEq, and_true, Value.slice.injEq] at hc3
  obtain ⟨rfl, rfl, rfl⟩ := hc3
  clear hA0 hval0
  refine (attestorlaw07_TreeOpens.calls 2000 a0 a1 a2 a3 cap3 l3 true W hC3 hle3 (gl_of_laid hL) (opens_true a0 a1 a2 (wf_u8 w0) (wf_u8 w1) (wf_u8 w2) l3 (fun y hy => (wf_u64 (hw3 y hy)).1))).mono fun e W' ⟨he, bel⟩ => ?_
  subst he
  exact ⟨_, rfl, _, _, _, [], _, [], hW', trodAll_mk1 (shut_bool Tryd.underlying4 _), (trodAll_cons_mk (shut_int Tryd.underlying5 w0) (trodAll_cons_mk (shut_int Tryd.underlying5 w1) (trodAll_cons_mk (shut_int Tryd.underlying5 w2) (trodAll_cons_mk (Below.trod laidOut (by kernel_rfl) (of_decide_eq_true (by kernel_rfl)) k3 bel lt3) trodAll_mk0)))), rfl, bel.frame _, fun h => by cases h⟩
theorem treeOpens_row : Rows.TreeOpensSaid :=
  OpenClaim.holds_of_wide 6 Tryd.f6 rfl rfl rfl rfl rfl rfl rfl ⟨rfl, rfl, rfl, rfl, rfl⟩ rfl rfl rfl rfl rfl (by kernel_rfl) Tryd.func6 (by kernel_rfl)
    (of_decide_eq_true (by kernel_rfl)) (by unfold Func.isWrapper; first | (rw [if_pos (by decide +kernel)]; kernel_rfl) | (rw [if_neg (by decide +kernel)]; exact ⟨rfl, rfl⟩))
    (fun os started H enc _ => treeOpens_lifted os started H enc)
theorem treeOpens_card : Rows.TreeOpensCardSaid :=
  Claim7.holds_tied_plain_at .later [] [.widerDeep, .data, .data] true Rows.treeOpensCard.stood.harness false
    treeOpens_row (fun _ h => by cases h) (by kernel_rfl) (fun _ h => by cases h) treeOpens_row_tie rfl ⟨rfl, rfl⟩ (by kernel_rfl) rfl
    (fun f fn hf hfn => by
      obtain rfl : f = 6 := Option.some.inj ((show Tryd.prog.funcNamed "attestor/attestorlaw07.TreeOpens" = some 6 by kernel_rfl).symm.trans hf) |>.symm
      obtain rfl : fn = Tryd.f6 := (Option.some.inj (Tryd.func6.symm.trans hfn)).symm
      exact ⟨by kernel_rfl, fun j t ht => by
        rw [Tryd.params6] at ht
        have hm : t ∈ [5, 5, 5, 39] := by simpa using Array.mem_of_getElem? ht
        have hall : ([5, 5, 5, 39].all fun u => !Tryd.prog.wantsStandIn u) = true := by kernel_rfl
        exact (show Tryd.prog.wantsStandIn t = false by simpa using List.all_eq_true.1 hall t hm)⟩)
    (by kernel_rfl)
end Go.Proofs.YtpnpmeogffodgaaDoor.Q
namespace Go.Proofs.YtpnpmeogffodgaaDoor
/-- Under a short name, for the claim. -/
theorem treeOpens_holds : Rows.TreeOpensCardSaid := Q.treeOpens_card
end Go.Proofs.YtpnpmeogffodgaaDoor
#print axioms Go.Proofs.YtpnpmeogffodgaaDoor.treeOpens_holds
end
