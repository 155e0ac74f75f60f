/- Several texts in one, in build order. What they prove, each by its own first remark:
Written by our own copy of a printing program (a twelfth state) out of the translation. Not trusted: Lean checks it.
Rows of rows told by their headers: what tree.Replace keeps of them.
tree.Replace by hand: what it computes, and its contract. -/
import Derived.Test.YtpnpmeogffodgaaDoorM2
import Derived.Test.YtpnpmeogffodgaaDoorM4
import Derived.Test.YtpnpmeogffodgaaDoorM5
import Derived.Test.YtpnpmeogffodgaaDoorM3
section
namespace Go.Proofs.YtpnpmeogffodgaaDoor.Q
open Go.RowKit Go.Proofs.YtpnpmeogffodgaaDoorW.PrintWords Go.Proofs.YtpnpmeogffodgaaDoorW.PrintLast Go.Proofs.YtpnpmeogffodgaaDoorW.PrintMore
attribute [local go_sem] max2_int min2_int max_two min_two max_three min_three max_four min_four run_store_fnV run_store_fnc run_store_nfn   -- for this text's walks alone
set_option linter.unusedVariables false
set_option linter.unusedSimpArgs false

/-! ### attestorlaw07_small: function 30 -/
def attestorlaw07_small.l0 : Nat → List (List (S36)) → Int → Int → Int → Int → List (List (S36)) → Option (Int × Int × Int × (List (List (S36))))
  | 0, _, _, _, _, _, _ => none
  | k + 1, x3, x4, x760000, x760001, x760002, x760003 => if x4 < (x760003.length : Int) then (if x4 < 8 then (if 0 ≤ x4 then ((attestorlaw07_cut.f (rd_L3 x760003 x4) 70).bind fun t762 => (if x3.length < 5864062014805 then (attestorlaw07_small.l0 k (x3 ++ [t762]) (wrap64 (x4 + 1)) x760000 x760001 x760002 x760003) else (none))) else (none)) else (some (x760000, x760001, x760002, x3))) else (some (x760000, x760001, x760002, x3))
def attestorlaw07_small.f (k : Nat) (a0_0 : Int) (a0_1 : Int) (a0_2 : Int) (l0_3 : List (List (S36))) : Option (Int × Int × Int × (List (List (S36)))) := attestorlaw07_small.l0 k ([] : List (List (S36))) 0 a0_0 a0_1 a0_2 l0_3
theorem attestorlaw07_small.mono_l : ∀ k, (∀ y0 y1 y2 y3 y4 y5, LeO (attestorlaw07_small.l0 k y0 y1 y2 y3 y4 y5) (attestorlaw07_small.l0 (k + 1) y0 y1 y2 y3 y4 y5))
  | 0 => fun _ _ _ _ _ _ r h => by simp [attestorlaw07_small.l0] at h
  | k + 1 => by
    have ih0 := attestorlaw07_small.mono_l k
    · intro y0 y1 y2 y3 y4 y5
      unfold attestorlaw07_small.l0
      repeat' first
      | (with_reducible exact ih0 _ _ _ _ _ _)
      | (with_reducible exact LeO.refl _)
      | (with_reducible exact LeO.none _)
      | (with_reducible refine LeO.ite ?_ ?_)
      | (with_reducible refine LeO.bind ?_ (fun _ => ?_))
      | exact ih0 _ _ _ _ _ _
      | exact LeO.none _
      | refine LeO.ite ?_ ?_
      | refine LeO.bind ?_ (fun _ => ?_)
theorem attestorlaw07_small.mono : ∀ a0 a1 a2 a3 k, LeO (attestorlaw07_small.f k a0 a1 a2 a3) (attestorlaw07_small.f (k + 1) a0 a1 a2 a3) := by
  intro a0 a1 a2 a3 k
  have ih0 := attestorlaw07_small.mono_l k
  unfold attestorlaw07_small.f
  repeat' first
      | (with_reducible exact ih0 _ _ _ _ _ _)
      | (with_reducible exact LeO.refl _)
      | (with_reducible exact LeO.none _)
      | (with_reducible refine LeO.ite ?_ ?_)
      | (with_reducible refine LeO.bind ?_ (fun _ => ?_))
      | exact ih0 _ _ _ _ _ _
      | exact LeO.none _
      | refine LeO.ite ?_ ?_
      | refine LeO.bind ?_ (fun _ => ?_)
set_option maxHeartbeats 8000000 in
set_option maxRecDepth 100000 in
theorem attestorlaw07_small.calls (k : Nat) (a0_0 : Int) (a0_1 : Int) (a0_2 : Int) (A0_3 : Option Addr) (c0_3 : Nat) (l0_3 : List (List (S36))) (r1 : Int) (r2 : Int) (r3 : Int) (r4 : List (List (S36))) (w : World) (hr0_3 : Kd.C (Kd.slice 36 k36) w A0_3 l0_3.length l0_3) (hc0_3 : l0_3.length ≤ c0_3) (h : attestorlaw07_small.f k a0_0 a0_1 a0_2 l0_3 = some (r1, r2, r3, r4)) :
  Calls Tryd.prog 30 #[.agg #[.int .i64 a0_0, .int .i64 a0_1, .int .i64 a0_2, .slice A0_3 l0_3.length c0_3]] w fun e w' => ∃ v3_ : Value, e = .returned (.agg #[.int .i64 r1, .int .i64 r2, .int .i64 r3, v3_]) ∧ Kd.S (Kd.slice 36 k36) 22 w' w.heap.size (fun _ => True) v3_ r4 ∧ Below w.heap.size w w' := by
 have hu26 := Tryd.underlying26
 have HR0_3 := aj hr0_3
 have HC0_3 := aj hc0_3
 clear hr0_3 hc0_3
 have HB := aj (Below.refl w.heap.size w)
 have H : (attestorlaw07_small.l0 k ([] : List (List (S36))) 0 a0_0 a0_1 a0_2 l0_3) = some (r1, r2, r3, r4) := h
 clear h
 have H' := aj H
 clear H
 go_enter Tryd.func30, Tryd.ntmps30
 go_wp2_with (first | ((with_reducible refine gate_dst (N := 1) rfl ?_); refine box_event ?hg (N := 1) ?hd (cs := #[.int .i64 a0_0, .int .i64 a0_1, .int .i64 a0_2, .slice A0_3 l0_3.length c0_3]) (t := 26) ?hr ?_; (case hd => rfl); (case hg => rfl); (case hr => first | (go_simp; done) | (go_simp; rfl)); intro g759 hg w2 hbox hb; have n0_ := aj (below_step HB.out hb); have n1_ := aj (hbox); have n3_ := aj ((by rw [hg]; exact (below_size HB.out) : w.heap.size ≤ g759)); clear HB; have HB := n0_; have B759 := n1_; have GE759 := n3_; clear n0_ n1_ n3_; clear hb hbox hg) | ((with_reducible refine gate_dst (N := 2) rfl ?_); refine box_event ?hg (N := 2) ?hd (cs := #[.int .i64 0, .int .i64 0, .int .i64 0, .slice none 0 0]) (t := 26) ?hr ?_; (case hd => rfl); (case hg => rfl); (case hr => first | (go_simp; done) | (go_simp; rfl)); intro g760 hg w3 hbox hb; have n0_ := aj (blk_below B759.out hb); have n1_ := aj (below_step HB.out hb); have n2_ := aj (hbox); have n4_ := aj ((by rw [hg]; exact (below_size HB.out) : w.heap.size ≤ g760)); have n5_ := aj ((by rw [hg]; exact Nat.ne_of_lt (blk_lt B759.out) : g759 ≠ g760)); have n6_ := aj ((by rw [hg]; exact Nat.ne_of_gt (blk_lt B759.out) : g760 ≠ g759)); clear B759; clear HB; have B759 := n0_; have HB := n1_; have B760 := n2_; have GE760 := n4_; have NB759_760 := n5_; have NB760_759 := n6_; clear n0_ n1_ n2_ n4_ n5_ n6_; clear hb hbox hg))
 go_loopg [3, 4] k (fun kq v3 v4 w' => ∃ (x3_1 : List (List (S36))) (x4_1 : Int), v4 = .int .i64 x4_1 ∧ Aside0 (attestorlaw07_small.l0 kq x3_1 x4_1 a0_0 a0_1 a0_2 l0_3 = some (r1, r2, r3, r4)) ∧ Aside0 (kq ≤ k) ∧ Aside0 (Kd.S (Kd.slice 36 k36) 22 w' w.heap.size (fun _ => True) v3 x3_1) ∧ Aside0 (w'.heap[g759]? = some (.cells #[.int .i64 a0_0, .int .i64 a0_1, .int .i64 a0_2, (.slice A0_3 l0_3.length c0_3)] 26 (0, 0))) ∧ Aside0 (w'.heap[g760]? = some (.cells #[.int .i64 0, .int .i64 0, .int .i64 0, (.slice none 0 0)] 26 (0, 0))) ∧ Aside0 (Below w.heap.size w w'))
 case atStart => exact ⟨(([] : List (List (S36)))), (0), (by first | rfl | simp), H', ⟨Nat.le_refl _⟩, ⟨by first | exact Kd.S_nil _ _ _ _ _ | exact Kd.N_nil _ _ _ _ _ | exact Kd.V_nil _ _ _ _ _ | exact Kd.Q_nil _ _ _ _ _ | exact Kd.R_nil _ _ _ _ _⟩, ⟨by exact B759.out⟩, ⟨by exact B760.out⟩, ⟨HB.out⟩⟩
 case round =>
  clear H'
  obtain ⟨x3_1, x4_1, rfl, HA, HK1, HO_3, B759, B760, HB⟩ := hrel
  cases gk with
  | zero => exact absurd HA.out (by simp [attestorlaw07_small.l0])
  | succ k1 =>
   have H := HA.out
   clear HA
   simp only [attestorlaw07_small.l0] at H
   by_cases c4 : x4_1 < (l0_3.length : Int)
   ·rw [if_pos c4] at H
    have c4b0 : decide (x4_1 < (l0_3.length : Int)) = true := decide_eq_true c4
    clear c4
    by_cases c5 : x4_1 < 8
    ·rw [if_pos c5] at H
     have c5b0 : decide (x4_1 < 8) = true := decide_eq_true c5
     clear c5
     by_cases c6 : 0 ≤ x4_1
     ·rw [if_pos c6] at H
      have c6b0 : decide (0 ≤ x4_1) = true := decide_eq_true c6
      clear c6
      replace H := Option.bind_eq_some_iff.mp H
      obtain ⟨t762, A70, H⟩ := H
      have A7 := aj A70
      clear A70
      by_cases c8 : x3_1.length < 5864062014805
      ·rw [if_pos c8] at H
       have LMc8 := aj c8
       clear c8
       obtain ⟨y765, hy765⟩ : ∃ y_ : List (List (S36)), y_ = (x3_1 ++ [t762]) := ⟨_, rfl⟩
       (first | rw [← hy765] at H | simp only [← hy765] at H)
       have Ny765 := aj hy765
       clear hy765
       have H' := aj H
       clear H
       have hnb9 := NB759_760.out
       have hnc9 := NB760_759.out
       have hcz10_0 : wr.cell? ⟨g759, 0, none⟩ = some (.int .i64 a0_0) := bq_ B759 0
       have hcz10_1 : wr.cell? ⟨g759, 1, none⟩ = some (.int .i64 a0_1) := bq_ B759 1
       have hcz10_2 : wr.cell? ⟨g759, 2, none⟩ = some (.int .i64 a0_2) := bq_ B759 2
       have hcz10_3 : wr.cell? ⟨g759, 3, none⟩ = some (.slice A0_3 l0_3.length c0_3) := bq_ B759 3
       have hfz10_0 := blk_frozen B759.out 0
       have hfz10_1 := blk_frozen B759.out 1
       have hfz10_2 := blk_frozen B759.out 2
       have hfz10_3 := blk_frozen B759.out 3
       have p761 : 0 ≤ (x4_1 : Int) := of_decide_eq_true (by assumption)
       have q761 : x4_1 < (l0_3.length : Int) := of_decide_eq_true (by assumption)
       obtain ⟨ad761, A761_0, c761_0, e761, hx761_0, hl761_0, hi761_0⟩ := at_L3 HR0_3.out x4_1 p761 q761
       cases e761
       replace hx761_0 := (HB.out.cell (World.block_lt_of_cell? w _ hx761_0)).trans hx761_0
       have HR761_0 := aj hi761_0
       have HC761_0 := aj hl761_0
       clear hi761_0 hl761_0
       replace p761 := eq_true p761
       replace q761 := eq_true q761
       go_wp2_with (first | ((with_reducible refine gate_callee (f := 12) rfl ?_); refine goesL_ (some 22) rfl rfl Tryd.func12 (by kernel_rfl) rfl #[.slice A761_0 (rd_L3 l0_3 x4_1).length c761_0, .int .i64 70] rfl (by (try simp only [List.map_toArray, List.map_cons, List.map_nil]); first | done | rfl | (go_simp; done)) ?_; (with_reducible refine (attestorlaw07_cut.calls _ _ (rd_L3 l0_3 x4_1) 70 t762 _ ?side1 ?side2 A7.out).mono ?_); (case side1 => exact (Kd.C_below HR761_0.out HB.out)); (case side2 => exact HC761_0.out); rintro e w11 ⟨v763, rfl, ho0, hb⟩; refine ⟨_, rfl, ?_⟩; have n0_ := aj (Kd.S_elder' (HO_3.out) (Kd.R_base ho0) hb); have n1_ := aj (Kd.R_lower ho0 (below_size HB.out)); have n2_ := aj (blk_below B759.out hb); have n3_ := aj (blk_below B760.out hb); have n4_ := aj (below_step HB.out hb); clear HO_3; clear B759; clear B760; clear HB; have HO_3 := n0_; have HO764 := n1_; have B759 := n2_; have B760 := n3_; have HB := n4_; clear n0_ n1_ n2_ n3_ n4_; (try clear hb); (try clear hb2); (try clear hk); (try clear hi); (try clear ho0); obtain ⟨Ao13, co13, eo13⟩ := Kd.R_slice HO764.out; subst eo13) | ((with_reducible refine gate_builtin (b := .append) (xs := #[.tmp 16, .tmp 23]) rfl ?_); at_builtin; refine Kd.S_append (Kd.slice 36 k36) (w0 := w) w.heap.size rfl (.tmp 16) (.tmp 23) 24 22 (.slice none 0 0) 24 rfl Tryd.underlying24 info22 rfl (by decide) (by omega) u3 x3_1 t762 [.slice Ao13 t762.length co13] (fun _ => True) (fun k_ => some k_ = (.slice Ao13 t762.length co13 : Value).ownBlock) rfl rfl ?aP (fun k_ hk_ => ((Kd.R_mono (ok' := fun k_ => ((fun _ => True)) k_ ∧ some k_ ≠ (u3 : Value).ownBlock) (Kd.R_apart' (HO764.out) (Kd.S_typed HO_3.out) (by decide)) (fun k_ hk => ⟨trivial, hk.2⟩))).1 k_ hk_.symm) ?aF ?aO ?aB ?aS ?aL ?_; (case aP => exact Kd.M_row (Kd.R_mono (Kd.R_tight rfl (Kd.R_mono (ok' := fun k_ => ((fun _ => True)) k_ ∧ some k_ ≠ (u3 : Value).ownBlock) (Kd.R_apart' (HO764.out) (Kd.S_typed HO_3.out) (by decide)) (fun k_ hk => ⟨trivial, hk.2⟩))) (fun _ h_ => h_))); (case aB => exact HB.out); (case aF => exact (fun _ _ => trivial)); (case aO => exact (Kd.S_mono HO_3.out (fun k_ hk => ⟨trivial, fun e_ => hk.2 e_⟩))); (case aS => exact (below_size HB.out)); (case aL => have := LMc8.out; omega); intro v766 w12 ho hb hg hat; rw [← Ny765.out] at ho; have n0_ := aj (blk_grown B759.out hg (Kd.S_ne HO_3.out B759.out (by decide))); have n1_ := aj (blk_grown B760.out hg (Kd.S_ne HO_3.out B760.out (by decide))); have n2_ := aj (hb); have n3_ := aj (ho); clear B759; clear B760; clear HB; clear HO_3; clear HO764; have B759 := n0_; have B760 := n1_; have HB := n2_; have HO767 := n3_; clear n0_ n1_ n2_ n3_; clear ho hb hg hat))
       go_roundg k1
       case measure => have := HK1.out; omega
       case rel => exact ⟨(y765), (wrap64 (x4_1 + 1)), (by first | rfl | simp), H', ⟨by have := HK1.out; omega⟩, ⟨by (with_reducible repeat (first | apply Kd.S_alloc | apply Kd.S_drewN | apply Kd.S_drew)); exact HO767.out⟩, ⟨by exact B759.out⟩, ⟨by exact B760.out⟩, ⟨HB.out⟩⟩
      ·rw [if_neg c8] at H
       exact absurd H (by simp)
     ·rw [if_neg c6] at H
      exact absurd H (by simp)
    ·rw [if_neg c5] at H
     have c5b0 : decide (x4_1 < 8) = false := decide_eq_false c5
     clear c5
     simp only [Option.some.injEq, Prod.mk.injEq] at H
     obtain ⟨rfl, rfl, rfl, rfl⟩ := H
     have hnb14 := NB759_760.out
     have hnc14 := NB760_759.out
     have hcz15_0 : wr.cell? ⟨g759, 0, none⟩ = some (.int .i64 a0_0) := bq_ B759 0
     have hcz15_1 : wr.cell? ⟨g759, 1, none⟩ = some (.int .i64 a0_1) := bq_ B759 1
     have hcz15_2 : wr.cell? ⟨g759, 2, none⟩ = some (.int .i64 a0_2) := bq_ B759 2
     have hcz15_3 : wr.cell? ⟨g759, 3, none⟩ = some (.slice A0_3 l0_3.length c0_3) := bq_ B759 3
     have hfz15_0 := blk_frozen B759.out 0
     have hfz15_1 := blk_frozen B759.out 1
     have hfz15_2 := blk_frozen B759.out 2
     have hfz15_3 := blk_frozen B759.out 3
     obtain ⟨Ao16, co16, eo16⟩ := Kd.S_slice HO_3.out
     subst eo16
     have hcz17_0 : wr.cell? ⟨g760, 0, none⟩ = some (.int .i64 0) := bq_ B760 0
     have hcz17_1 : wr.cell? ⟨g760, 1, none⟩ = some (.int .i64 0) := bq_ B760 1
     have hcz17_2 : wr.cell? ⟨g760, 2, none⟩ = some (.int .i64 0) := bq_ B760 2
     have hcz17_3 : wr.cell? ⟨g760, 3, none⟩ = some (.slice none 0 0) := bq_ B760 3
     have hfz17_0 := blk_frozen B760.out 0
     have hfz17_1 := blk_frozen B760.out 1
     have hfz17_2 := blk_frozen B760.out 2
     have hfz17_3 := blk_frozen B760.out 3
     go_wp2
     refine bodyPost_ret (results_cell_row rfl _ _ g760 26 #[.int .i64 a0_0, .int .i64 a0_1, .int .i64 a0_2, .slice Ao16 x3_1.length co16] (0, 0) _ rfl (by refine blk_put (cs := #[.int .i64 a0_0, .int .i64 a0_1, .int .i64 a0_2, .slice none 0 0]) ?_ 3 _ rfl; refine blk_put (cs := #[.int .i64 a0_0, .int .i64 a0_1, .int .i64 0, .slice none 0 0]) ?_ 2 _ rfl; refine blk_put (cs := #[.int .i64 a0_0, .int .i64 0, .int .i64 0, .slice none 0 0]) ?_ 1 _ rfl; refine blk_put (cs := #[.int .i64 0, .int .i64 0, .int .i64 0, .slice none 0 0]) ?_ 0 _ rfl; refine blk_far ?_ NB760_759.out _; exact B760.out) Tryd.underlying26 rfl (by kernel_rfl)) rfl ?_
     exact ⟨_, by first | rfl | (simp [errW_none, errW_some] <;> rfl) | (simp [*, errW_none, errW_some] <;> rfl), by (with_reducible repeat (first | apply Kd.S_alloc | apply Kd.S_drewN | apply Kd.S_drew)); exact Kd.S_mono (Kd.S_far (p := ⟨g760, 3, none⟩) (Kd.S_far (p := ⟨g760, 2, none⟩) (Kd.S_far (p := ⟨g760, 1, none⟩) (Kd.S_far (p := ⟨g760, 0, none⟩) (Kd.S_far (p := ⟨g759, 3, none⟩) (Kd.S_types (Kd.S_types HO_3.out B759.out (by decide)) B760.out (by decide)) (fun _ hk => hk.1.2) (.slice Ao16 x3_1.length co16)) (fun _ hk => hk.2) (.int .i64 a0_0)) (fun _ hk => hk.2) (.int .i64 a0_1)) (fun _ hk => hk.2) (.int .i64 a0_2)) (fun _ hk => hk.2) (.slice Ao16 x3_1.length co16)) (fun _ hk => trivial), by repeat (first | (with_reducible first | exact HB.out | apply below_alloc | apply pw_below_drewN | apply below_drew1 | refine below_set ?_ GE759.out | refine below_set ?_ GE760.out) | exact HB.out)⟩
   ·rw [if_neg c4] at H
    have c4b0 : decide (x4_1 < (l0_3.length : Int)) = false := decide_eq_false c4
    clear c4
    simp only [Option.some.injEq, Prod.mk.injEq] at H
    obtain ⟨rfl, rfl, rfl, rfl⟩ := H
    have hnb18 := NB759_760.out
    have hnc18 := NB760_759.out
    have hcz19_0 : wr.cell? ⟨g759, 0, none⟩ = some (.int .i64 a0_0) := bq_ B759 0
    have hcz19_1 : wr.cell? ⟨g759, 1, none⟩ = some (.int .i64 a0_1) := bq_ B759 1
    have hcz19_2 : wr.cell? ⟨g759, 2, none⟩ = some (.int .i64 a0_2) := bq_ B759 2
    have hcz19_3 : wr.cell? ⟨g759, 3, none⟩ = some (.slice A0_3 l0_3.length c0_3) := bq_ B759 3
    have hfz19_0 := blk_frozen B759.out 0
    have hfz19_1 := blk_frozen B759.out 1
    have hfz19_2 := blk_frozen B759.out 2
    have hfz19_3 := blk_frozen B759.out 3
    obtain ⟨Ao20, co20, eo20⟩ := Kd.S_slice HO_3.out
    subst eo20
    have hcz21_0 : wr.cell? ⟨g760, 0, none⟩ = some (.int .i64 0) := bq_ B760 0
    have hcz21_1 : wr.cell? ⟨g760, 1, none⟩ = some (.int .i64 0) := bq_ B760 1
    have hcz21_2 : wr.cell? ⟨g760, 2, none⟩ = some (.int .i64 0) := bq_ B760 2
    have hcz21_3 : wr.cell? ⟨g760, 3, none⟩ = some (.slice none 0 0) := bq_ B760 3
    have hfz21_0 := blk_frozen B760.out 0
    have hfz21_1 := blk_frozen B760.out 1
    have hfz21_2 := blk_frozen B760.out 2
    have hfz21_3 := blk_frozen B760.out 3
    go_wp2
    refine bodyPost_ret (results_cell_row rfl _ _ g760 26 #[.int .i64 a0_0, .int .i64 a0_1, .int .i64 a0_2, .slice Ao20 x3_1.length co20] (0, 0) _ rfl (by refine blk_put (cs := #[.int .i64 a0_0, .int .i64 a0_1, .int .i64 a0_2, .slice none 0 0]) ?_ 3 _ rfl; refine blk_put (cs := #[.int .i64 a0_0, .int .i64 a0_1, .int .i64 0, .slice none 0 0]) ?_ 2 _ rfl; refine blk_put (cs := #[.int .i64 a0_0, .int .i64 0, .int .i64 0, .slice none 0 0]) ?_ 1 _ rfl; refine blk_put (cs := #[.int .i64 0, .int .i64 0, .int .i64 0, .slice none 0 0]) ?_ 0 _ rfl; refine blk_far ?_ NB760_759.out _; exact B760.out) Tryd.underlying26 rfl (by kernel_rfl)) rfl ?_
    exact ⟨_, by first | rfl | (simp [errW_none, errW_some] <;> rfl) | (simp [*, errW_none, errW_some] <;> rfl), by (with_reducible repeat (first | apply Kd.S_alloc | apply Kd.S_drewN | apply Kd.S_drew)); exact Kd.S_mono (Kd.S_far (p := ⟨g760, 3, none⟩) (Kd.S_far (p := ⟨g760, 2, none⟩) (Kd.S_far (p := ⟨g760, 1, none⟩) (Kd.S_far (p := ⟨g760, 0, none⟩) (Kd.S_far (p := ⟨g759, 3, none⟩) (Kd.S_types (Kd.S_types HO_3.out B759.out (by decide)) B760.out (by decide)) (fun _ hk => hk.1.2) (.slice Ao20 x3_1.length co20)) (fun _ hk => hk.2) (.int .i64 a0_0)) (fun _ hk => hk.2) (.int .i64 a0_1)) (fun _ hk => hk.2) (.int .i64 a0_2)) (fun _ hk => hk.2) (.slice Ao20 x3_1.length co20)) (fun _ hk => trivial), by repeat (first | (with_reducible first | exact HB.out | apply below_alloc | apply pw_below_drewN | apply below_drew1 | refine below_set ?_ GE759.out | refine below_set ?_ GE760.out) | exact HB.out)⟩

end Go.Proofs.YtpnpmeogffodgaaDoor.Q
end
section
namespace Go.Proofs.YtpnpmeogffodgaaDoor.Q
open Go.RowKit Go.Proofs.YtpnpmeogffodgaaDoorW.PrintWords Go.Proofs.YtpnpmeogffodgaaDoorW.PrintLast Go.Proofs.YtpnpmeogffodgaaDoorW.PrintMore
attribute [local go_sem] max2_int min2_int max_two min_two max_three min_three max_four min_four run_store_fnV run_store_fnc run_store_nfn   -- for this text's walks alone
set_option linter.unusedVariables false
set_option linter.unusedSimpArgs false

/-! ### attestorref07_other: function 52 -/
def attestorref07_other.f (a0 : Int) : Option (Int) := if (Int.tmod a0 2) = 0 then (some (wrap64 (a0 + 1))) else (some (wrap64 (a0 - 1)))
set_option maxHeartbeats 8000000 in
set_option maxRecDepth 100000 in
theorem attestorref07_other.calls (a0 : Int) (r : Int) (w : World) (h : attestorref07_other.f a0 = some r) :
    Calls Tryd.prog 52 #[.int .i64 a0] w fun e w' => e = .returned (.int .i64 r) ∧ Drawn0 w w' := by
  have H : (if (Int.tmod a0 2) = 0 then (some (wrap64 (a0 + 1))) else (some (wrap64 (a0 - 1)))) = some r := h
  clear h
  by_cases c2 : (Int.tmod a0 2) = 0
  · rw [if_pos c2] at H
    have c2b0 : ((Int.tmod a0 2) == 0) = true := beq_iff_eq.mpr c2
    have c2b1 : ((Int.tmod a0 2) != 0) = false := bne_eq_false_iff_eq.mpr c2
    clear c2
    obtain rfl := Option.some.inj H
    go_enter Tryd.func52, Tryd.ntmps52
    go_wp2
    go_ret
    exact ⟨by first | rfl | (simp; done) | (simp [*]; done), by repeat (first | exact Drawn0.refl _ | apply Drawn0.step)⟩
  · rw [if_neg c2] at H
    have c2b0 : ((Int.tmod a0 2) == 0) = false := beq_eq_false_iff_ne.mpr c2
    have c2b1 : ((Int.tmod a0 2) != 0) = true := bne_iff_ne.mpr c2
    obtain rfl := Option.some.inj H
    go_enter Tryd.func52, Tryd.ntmps52
    go_wp2
    go_ret
    exact ⟨by first | rfl | (simp; done) | (simp [*]; done), by repeat (first | exact Drawn0.refl _ | apply Drawn0.step)⟩

end Go.Proofs.YtpnpmeogffodgaaDoor.Q
end
section
namespace Go.Proofs.YtpnpmeogffodgaaDoor.Q
open Go.RowKit Go.Proofs.YtpnpmeogffodgaaDoorW.PrintWords Go.Proofs.YtpnpmeogffodgaaDoorW.PrintLast Go.Proofs.YtpnpmeogffodgaaDoorW.PrintMore
attribute [local go_sem] max2_int min2_int max_two min_two max_three min_three max_four min_four run_store_fnV run_store_fnc run_store_nfn   -- for this text's walks alone
set_option linter.unusedVariables false
set_option linter.unusedSimpArgs false

abbrev z31_0_ : Array Bool := #[false, false, false, false, false, false, false, false, false, false, false, false, false]
abbrev z31_1_ : Array Bool := #[true, false, false, false, false, false, false, false, false, false, false, false, false]
abbrev z31_2_ : Array Bool := #[true, true, false, false, false, false, false, false, false, false, false, false, false]
abbrev z31_3_ : Array Bool := #[true, true, false, true, false, false, false, false, false, false, false, false, false]
abbrev z31_4_ : Array Bool := #[true, true, false, true, false, false, true, false, false, false, false, false, false]
abbrev z31_5_ : Array Bool := #[true, true, true, true, false, false, true, false, false, false, false, false, false]
abbrev z31_6_ : Array Bool := #[true, true, true, true, true, false, true, false, false, false, false, false, false]
abbrev z31_7_ : Array Bool := #[true, true, true, true, true, true, true, false, false, false, false, false, false]
abbrev z31_8_ : Array Bool := #[true, true, true, true, true, true, true, true, false, false, false, false, false]
abbrev z31_9_ : Array Bool := #[true, true, true, true, true, true, true, true, true, false, false, false, false]
abbrev z31_10_ : Array Bool := #[true, true, true, true, true, true, true, true, true, true, false, false, false]
abbrev z31_11_ : Array Bool := #[true, true, true, true, true, true, true, true, true, true, true, false, false]
abbrev z31_12_ : Array Bool := #[true, true, true, true, true, true, true, true, true, true, true, true, false]
abbrev z31_13_ : Array Bool := #[true, true, true, true, true, true, true, true, true, true, true, true, true]
/-! ### attestorref07_Path: function 31 -/
mutual
def attestorref07_Path.j0 : Nat → Int → Bool → Int → Int → Int → List (List (S36)) → Option ((List (S36)) × Int)
  | 0, _, _, _, _, _, _ => none
  | k + 1, x1, b9, az, aA, aC, am => if b9 = true then (some (([] : List (S36)), 2)) else (attestorref07_Path.l0 k x1 ([] : List (S36)) 0 az aA aC am)
def attestorref07_Path.l0 : Nat → Int → List (S36) → Int → Int → Int → Int → List (List (S36)) → Option ((List (S36)) × Int)
  | 0, _, _, _, _, _, _, _ => none
  | k + 1, x1, x6, x7, az, aA, aC, am => if (wrap64 (x7 + 1)) < (am.length : Int) then (if 0 ≤ x7 then (if x7 < (am.length : Int) then ((attestorref07_other.f x1).bind fun ah => (if 0 ≤ ah then (if ah < ((rd_L3 am x7).length : Int) then (if x6.length < 8796093022208 then (attestorref07_Path.l0 k (wrap64 (Int.tdiv x1 2)) (x6 ++ [(⟨(rd_T36 (rd_L3 am x7) ah).f0, (rd_T36 (rd_L3 am x7) ah).f1⟩ : S36)]) (wrap64 (x7 + 1)) az aA aC am) else (none)) else (none)) else (none))) else (none)) else (none)) else (some (x6, 0))
end
def attestorref07_Path.f (k : Nat) (ae : Int) (af : Int) (ag : Int) (ab : List (List (S36))) (a1 : Int) : Option ((List (S36)) × Int) := (attestorref07_Valid.f k ae af ag ab).bind fun aK => (if aK = true then (if a1 < 0 then (attestorref07_Path.j0 k a1 true ae af ag ab) else (if 0 < (ab.length : Int) then (attestorref07_Path.j0 k a1 (decide (a1 ≥ ((rd_L3 ab 0).length : Int))) ae af ag ab) else (none))) else (some (([] : List (S36)), 1)))
theorem attestorref07_Path.mono_l : ∀ k, (∀ y0 y1 y2 y3 y4 y5, LeO (attestorref07_Path.j0 k y0 y1 y2 y3 y4 y5) (attestorref07_Path.j0 (k + 1) y0 y1 y2 y3 y4 y5)) ∧ (∀ y0 y1 y2 y3 y4 y5 y6, LeO (attestorref07_Path.l0 k y0 y1 y2 y3 y4 y5 y6) (attestorref07_Path.l0 (k + 1) y0 y1 y2 y3 y4 y5 y6))
  | 0 => ⟨fun _ _ _ _ _ _ r h => by simp [attestorref07_Path.j0] at h, fun _ _ _ _ _ _ _ r h => by simp [attestorref07_Path.l0] at h⟩
  | k + 1 => by
    obtain ⟨ih0, ih1⟩ := attestorref07_Path.mono_l k
    refine ⟨?_, ?_⟩
    · intro y0 y1 y2 y3 y4 y5
      unfold attestorref07_Path.j0
      repeat' first
      | (with_reducible exact ih0 _ _ _ _ _ _)
      | (with_reducible exact ih1 _ _ _ _ _ _ _)
      | (with_reducible exact attestorref07_Valid.mono _ _ _ _ _)
      | (with_reducible exact LeO.refl _)
      | (with_reducible exact LeO.none _)
      | (with_reducible refine LeO.ite ?_ ?_)
      | (with_reducible refine LeO.bind ?_ (fun _ => ?_))
      | exact ih0 _ _ _ _ _ _
      | exact ih1 _ _ _ _ _ _ _
      | exact attestorref07_Valid.mono _ _ _ _ _
      | exact LeO.none _
      | refine LeO.ite ?_ ?_
      | refine LeO.bind ?_ (fun _ => ?_)
    · intro y0 y1 y2 y3 y4 y5 y6
      unfold attestorref07_Path.l0
      repeat' first
      | (with_reducible exact ih0 _ _ _ _ _ _)
      | (with_reducible exact ih1 _ _ _ _ _ _ _)
      | (with_reducible exact attestorref07_Valid.mono _ _ _ _ _)
      | (with_reducible exact LeO.refl _)
      | (with_reducible exact LeO.none _)
      | (with_reducible refine LeO.ite ?_ ?_)
      | (with_reducible refine LeO.bind ?_ (fun _ => ?_))
      | exact ih0 _ _ _ _ _ _
      | exact ih1 _ _ _ _ _ _ _
      | exact attestorref07_Valid.mono _ _ _ _ _
      | exact LeO.none _
      | refine LeO.ite ?_ ?_
      | refine LeO.bind ?_ (fun _ => ?_)
theorem attestorref07_Path.mono : ∀ a0 a1 a2 a3 a4 k, LeO (attestorref07_Path.f k a0 a1 a2 a3 a4) (attestorref07_Path.f (k + 1) a0 a1 a2 a3 a4) := by
  intro a0 a1 a2 a3 a4 k
  obtain ⟨ih0, ih1⟩ := attestorref07_Path.mono_l k
  unfold attestorref07_Path.f
  repeat' first
      | (with_reducible exact ih0 _ _ _ _ _ _)
      | (with_reducible exact ih1 _ _ _ _ _ _ _)
      | (with_reducible exact attestorref07_Valid.mono _ _ _ _ _)
      | (with_reducible exact LeO.refl _)
      | (with_reducible exact LeO.none _)
      | (with_reducible refine LeO.ite ?_ ?_)
      | (with_reducible refine LeO.bind ?_ (fun _ => ?_))
      | exact ih0 _ _ _ _ _ _
      | exact ih1 _ _ _ _ _ _ _
      | exact attestorref07_Valid.mono _ _ _ _ _
      | exact LeO.none _
      | refine LeO.ite ?_ ?_
      | refine LeO.bind ?_ (fun _ => ?_)
def attestorref07_Path.T9 : Bool × List (List Nat × List Nat) := (true, [([], []), ([], []), ([1], [1]), ([], []), ([2, 3], [2, 3]), ([4], [4]), ([], []), ([6], [6]), ([5, 7], [5, 7]), ([8], [8]), ([9], [9]), ([0, 10, 7], [0, 10]), ([11, 11, 0, 1, 2, 3, 4, 5, 6, 7, 8, 9, 10, 11], [0, 11])])
def attestorref07_Path.B9 : List Nat := [0, 0, 2, 0, 14, 30, 0, 64, 254, 510, 1022, 2047, 4095]
theorem attestorref07_Path.tab9 : rtab .any (opsOf Tryd.f31 9) = attestorref07_Path.T9 := by kernel_rfl
theorem attestorref07_Path.bits9 : waitsOk attestorref07_Path.T9.2 attestorref07_Path.B9 = true := by kernel_rfl
set_option maxHeartbeats 8000000 in
set_option maxRecDepth 100000 in
theorem attestorref07_Path.calls (k : Nat) (ae : Int) (af : Int) (ag : Int) (ap : Option Addr) (ao : Nat) (ab : List (List (S36))) (a1 : Int) (r1 : List (S36)) (r2 : Int) (w : World) (a7 : Kd.C (Kd.slice 36 k36) w ap ab.length ab) (a8 : ab.length ≤ ao) (h : attestorref07_Path.f k ae af ag ab a1 = some (r1, r2)) :
  Calls Tryd.prog 31 #[.agg #[.int .i64 ae, .int .i64 af, .int .i64 ag, .slice ap ab.length ao], .int .i64 a1] w fun e w' => ∃ bq : Value, e = .returned (.tuple #[bq, .int .i64 r2]) ∧ Kd.R k36 36 w' w.heap.size (fun _ => True) bq r1 ∧ Below w.heap.size w w' := by
 have hu26 := Tryd.underlying26
 have hu36 := Tryd.underlying36
 have aG := aj a7
 have a9 := aj a8
 clear a7 a8
 have HB := aj (Below.refl w.heap.size w)
 have H : ((attestorref07_Valid.f k ae af ag ab).bind fun aK => (if aK = true then (if a1 < 0 then (attestorref07_Path.j0 k a1 true ae af ag ab) else (if 0 < (ab.length : Int) then (attestorref07_Path.j0 k a1 (decide (a1 ≥ ((rd_L3 ab 0).length : Int))) ae af ag ab) else (none))) else (some (([] : List (S36)), 1)))) = some (r1, r2) := h
 clear h
 replace H := Option.bind_eq_some_iff.mp H
 obtain ⟨aK, br, H⟩ := H
 have A3 := aj br
 clear br
 by_cases c4 : aK = true
 ·subst c4
  have H1 : (if a1 < 0 then (attestorref07_Path.j0 k a1 true ae af ag ab) else (if 0 < (ab.length : Int) then (attestorref07_Path.j0 k a1 (decide (a1 ≥ ((rd_L3 ab 0).length : Int))) ae af ag ab) else (none))) = some (r1, r2) := by rw [if_pos rfl] at H; exact H
  clear H
  have H := H1
  clear H1
  have bi := aj H
  clear H
  go_enter Tryd.func31, Tryd.ntmps31
  go_upto_region 3 with (first | ((with_reducible refine gate_dst (N := 2) rfl ?_); (try (refine gate_guard (by rfl) ?_; dsimp only)); refine box_event ?hg (N := 2) ?hd (cs := #[.int .i64 ae, .int .i64 af, .int .i64 ag, .slice ap ab.length ao]) (t := 26) ?hr ?_; (case hd => rfl); (case hg => rfl); (case hr => first | (go_simp; done) | (go_simp; rfl)); intro ac hg w6 hbox hb; have aq := aj (below_step HB.out hb); have ar := aj (hbox); have aV := aj ((by rw [hg]; exact (below_size HB.out) : w.heap.size ≤ ac)); clear HB; have HB := aq; have aa := ar; have bm := aV; clear aq ar aV; clear hb hbox hg; have ca : w6.cell? ⟨ac, 0, none⟩ = some (.int .i64 ae) := bq_ aa 0; have cb : w6.cell? ⟨ac, 1, none⟩ = some (.int .i64 af) := bq_ aa 1; have cc : w6.cell? ⟨ac, 2, none⟩ = some (.int .i64 ag) := bq_ aa 2; have cd : w6.cell? ⟨ac, 3, none⟩ = some (.slice ap ab.length ao) := bq_ aa 3; have ce := blk_frozen aa.out 0; have cf := blk_frozen aa.out 1; have cg := blk_frozen aa.out 2; have ci := blk_frozen aa.out 3) | ((with_reducible refine gate_callee (f := 17) rfl ?_); refine goesL_ (some 9) rfl rfl Tryd.func17 (by kernel_rfl) rfl #[.agg #[.int .i64 ae, .int .i64 af, .int .i64 ag, .slice ap ab.length ao]] rfl (by (try simp only [List.map_toArray, List.map_cons, List.map_nil]); first | done | rfl | (go_simp; done)) ?_; (with_reducible refine (attestorref07_Valid.calls k ae af ag _ _ ab true _ ?side1 ?side2 A3.out).mono ?_); (case side1 => exact (Kd.C_below aG.out HB.out)); (case side2 => exact a9.out); rintro e w8 ⟨rfl, hb⟩; refine ⟨_, rfl, ?_⟩; have aq := aj (blk_below aa.out hb); have ar := aj (below_step HB.out hb); clear aa; clear HB; have aa := aq; have HB := ar; clear aq ar; (try clear hb); (try clear hb2); (try clear hk); (try clear hi)))
  (try simp only [Act.put, sa_, sb_, sc_])
  go_cut [21] (fun cj wc => ∃ (kq : Nat) (aH : Bool), cj = .bool aH ∧ Aside0 (attestorref07_Path.j0 kq a1 aH ae af ag ab = some (r1, r2)) ∧ Aside0 (kq ≤ k) ∧ Aside0 (wc.heap[ac]? = some (.cells #[.int .i64 ae, .int .i64 af, .int .i64 ag, (.slice ap ab.length ao)] 26 (0, 0))) ∧ Aside0 (Below w.heap.size w wc))
  case first =>
   have H := bi.out
   clear bi
   by_cases c9 : a1 < 0
   ·rw [if_pos c9] at H
    have c9b0 : decide (a1 < 0) = true := decide_eq_true c9
    clear c9
    (first | rw [c9b0] | (simp only [i64_w, i32_w]; rw [c9b0]) | skip)
    have H' := aj H
    clear H
    go_wp2
    go_meet
    case rel => exact ⟨_, (true), (by first | rfl | simp), H', ⟨by first | omega | exact Nat.le_refl _⟩, ⟨by exact aa.out⟩, ⟨HB.out⟩⟩
   ·rw [if_neg c9] at H
    have c9b0 : decide (a1 < 0) = false := decide_eq_false c9
    clear c9
    (first | rw [c9b0] | (simp only [i64_w, i32_w]; rw [c9b0]) | skip)
    by_cases c10 : 0 < (ab.length : Int)
    ·rw [if_pos c10] at H
     have c10b0 : decide (0 < (ab.length : Int)) = true := decide_eq_true c10
     have c10b1 : decide (0 < ab.length) = true := decide_eq_true (by omega)
     clear c10
     have H' := aj H
     clear H
     have bA : w8.cell? ⟨ac, 0, none⟩ = some (.int .i64 ae) := bq_ aa 0
     have bB : w8.cell? ⟨ac, 1, none⟩ = some (.int .i64 af) := bq_ aa 1
     have bC : w8.cell? ⟨ac, 2, none⟩ = some (.int .i64 ag) := bq_ aa 2
     have bD : w8.cell? ⟨ac, 3, none⟩ = some (.slice ap ab.length ao) := bq_ aa 3
     have bE := blk_frozen aa.out 0
     have bF := blk_frozen aa.out 1
     have bG := blk_frozen aa.out 2
     have bH := blk_frozen aa.out 3
     have aW : 0 ≤ (0 : Int) := (by omega)
     have aX : 0 < (ab.length : Int) := of_decide_eq_true (by assumption)
     obtain ⟨co, ck, cl, bv, au, aM, aN⟩ := at_L3 aG.out 0 aW aX
     cases bv
     have qi770 : (0 < ab.length) = True := eq_true (by omega)
     (try rw [show ((0 : Int)).toNat = 0 from rfl] at au)
     (try rw [Addr.add_zero'] at au)
     replace au := (HB.out.cell (World.block_lt_of_cell? w _ au)).trans au
     have bI := aj aN
     have bJ := aj aM
     clear aN aM
     replace aW := eq_true aW
     replace aX := eq_true aX
     go_wp2
     go_meet
     case rel => exact ⟨_, (decide (a1 ≥ ((rd_L3 ab 0).length : Int))), (by first | rfl | simp), H', ⟨by first | omega | exact Nat.le_refl _⟩, ⟨by exact aa.out⟩, ⟨HB.out⟩⟩
    ·rw [if_neg c10] at H
     exact absurd H (by simp)
  case rest =>
   clear bi
   obtain ⟨kq, aH, rfl, HA, bs, aa, HB⟩ := hcut
   cases kq with
   | zero => exact absurd HA.out (by simp [attestorref07_Path.j0])
   | succ kj4 =>
    have H := HA.out
    clear HA
    simp only [attestorref07_Path.j0] at H
    by_cases ba : aH = true
    ·subst ba
     have H1 : (some (([] : List (S36)), 2)) = some (r1, r2) := by rw [if_pos rfl] at H; exact H
     clear H
     have H := H1
     clear H1
     simp only [Option.some.injEq, Prod.mk.injEq] at H
     obtain ⟨rfl, rfl⟩ := H
     go_wp2
     go_ret2
     exact ⟨_, by first | rfl | (simp [errW_none, errW_some] <;> rfl) | (simp [*, errW_none, errW_some] <;> rfl), by first | exact Kd.R_nil _ _ _ _ _ | exact Kd.N_nil _ _ _ _ _ | exact Kd.V_nil _ _ _ _ _ | exact Kd.Q_nil _ _ _ _ _ | exact Kd.S_nil _ _ _ _ _, HB.out⟩
    ·replace ba := Bool.eq_false_iff.mpr ba
     subst ba
     have H1 : (attestorref07_Path.l0 kj4 a1 ([] : List (S36)) 0 ae af ag ab) = some (r1, r2) := by rw [if_neg (show ¬ (false = true) by decide)] at H; exact H
     clear H
     have H := H1
     clear H1
     have H' := aj H
     clear H
     go_wp2
     go_loopg [1, 6, 7] kj4 (fun kq v1 v6 v7 w' => ∃ (aD : Int) (aE : List (S36)) (ad : Int), v1 = .int .i64 aD ∧ v7 = .int .i64 ad ∧ Aside0 (attestorref07_Path.l0 kq aD aE ad ae af ag ab = some (r1, r2)) ∧ Aside0 (kq ≤ kj4) ∧ Aside0 (Kd.R k36 36 w' w.heap.size (fun _ => True) v6 aE) ∧ Aside0 (w'.heap[ac]? = some (.cells #[.int .i64 ae, .int .i64 af, .int .i64 ag, (.slice ap ab.length ao)] 26 (0, 0))) ∧ Aside0 (Below w.heap.size w w'))
     case atStart => exact ⟨(a1), (([] : List (S36))), (0), (by first | rfl | simp), (by first | rfl | simp), H', ⟨Nat.le_refl _⟩, ⟨by first | exact Kd.R_nil _ _ _ _ _ | exact Kd.N_nil _ _ _ _ _ | exact Kd.V_nil _ _ _ _ _ | exact Kd.Q_nil _ _ _ _ _ | exact Kd.S_nil _ _ _ _ _⟩, ⟨by exact aa.out⟩, ⟨HB.out⟩⟩
     case round =>
      clear H'
      obtain ⟨aD, aE, ad, rfl, rfl, HA, bu, ay, aa, HB⟩ := hrel
      cases gk with
      | zero => exact absurd HA.out (by simp [attestorref07_Path.l0])
      | succ k2 =>
       have H := HA.out
       clear HA
       simp only [attestorref07_Path.l0] at H
       by_cases aQ : (wrap64 (ad + 1)) < (ab.length : Int)
       ·rw [if_pos aQ] at H
        have c13b0 : decide ((wrap64 (ad + 1)) < (ab.length : Int)) = true := decide_eq_true aQ
        clear aQ
        by_cases bb : 0 ≤ ad
        ·rw [if_pos bb] at H
         have c14b0 : decide (0 ≤ ad) = true := decide_eq_true bb
         clear bb
         by_cases bc : ad < (ab.length : Int)
         ·rw [if_pos bc] at H
          have c15b0 : decide (ad < (ab.length : Int)) = true := decide_eq_true bc
          clear bc
          replace H := Option.bind_eq_some_iff.mp H
          obtain ⟨ah, bj, H⟩ := H
          have cm := aj bj
          clear bj
          by_cases bd : 0 ≤ ah
          ·rw [if_pos bd] at H
           have c17b0 : decide (0 ≤ ah) = true := decide_eq_true bd
           clear bd
           by_cases be : ah < ((rd_L3 ab ad).length : Int)
           ·rw [if_pos be] at H
            have c18b0 : decide (ah < ((rd_L3 ab ad).length : Int)) = true := decide_eq_true be
            clear be
            by_cases bf : aE.length < 8796093022208
            ·rw [if_pos bf] at H
             have bn := aj bf
             clear bf
             obtain ⟨bw, aI⟩ : ∃ y_ : List (S36), y_ = (aE ++ [(⟨(rd_T36 (rd_L3 ab ad) ah).f0, (rd_T36 (rd_L3 ab ad) ah).f1⟩ : S36)]) := ⟨_, rfl⟩
             (first | rw [← aI] at H | simp only [← aI] at H)
             have bo := aj aI
             clear aI
             have H' := aj H
             clear H
             have bK : wr.cell? ⟨ac, 0, none⟩ = some (.int .i64 ae) := bq_ aa 0
             have bL : wr.cell? ⟨ac, 1, none⟩ = some (.int .i64 af) := bq_ aa 1
             have bM : wr.cell? ⟨ac, 2, none⟩ = some (.int .i64 ag) := bq_ aa 2
             have bN : wr.cell? ⟨ac, 3, none⟩ = some (.slice ap ab.length ao) := bq_ aa 3
             have bO := blk_frozen aa.out 0
             have bP := blk_frozen aa.out 1
             have bQ := blk_frozen aa.out 2
             have bR := blk_frozen aa.out 3
             try go_wp2
             have aq := aj (Kd.R_drew ay.out)
             have ar := aj (blk_drew aa.out)
             have bk := aj (below_drew1 HB.out)
             clear ay
             clear aa
             clear HB
             have ay := aq
             have aa := ar
             have HB := bk
             have aY : 0 ≤ (ad : Int) := of_decide_eq_true (by assumption)
             have aZ : ad < (ab.length : Int) := of_decide_eq_true (by assumption)
             obtain ⟨bg, cn, bl, bx, av, aR, aT⟩ := at_L3 aG.out ad aY aZ
             have ai := av
             cases bx
             replace av := (HB.out.cell (World.block_lt_of_cell? w _ av)).trans av
             have aU := aj aT
             have bS := aj aR
             clear aT aR
             replace aY := eq_true aY
             replace aZ := eq_true aZ
             have a5 : 0 ≤ (ah : Int) := of_decide_eq_true (by assumption)
             have a6 : ah < ((rd_L3 ab ad).length : Int) := of_decide_eq_true (by assumption)
             obtain ⟨aJ, bz, aw, ax⟩ := at_T36 aU.out ah a5 a6
             have ak := ax
             have al := aw
             cases bz
             replace aw := (HB.out.cell (World.block_lt_of_cell? w _ aw)).trans aw
             replace ax := (HB.out.cell (World.block_lt_of_cell? w _ ax)).trans ax
             replace a5 := eq_true a5
             replace a6 := eq_true a6
             refine start_ (n := 13) (S := fun w' => w'.cell? ⟨ac, 0, none⟩ = some (.int .i64 ae) ∧ w'.cell? ⟨ac, 1, none⟩ = some (.int .i64 af) ∧ w'.cell? ⟨ac, 2, none⟩ = some (.int .i64 ag) ∧ w'.cell? ⟨ac, 3, none⟩ = some (.slice (some bg) ab.length ao) ∧ w'.cell? (bg.add (ad).toNat) = some (.slice (some aJ) (rd_L3 ab ad).length bl) ∧ w'.cell? (aJ.add ((ah).toNat * 2)) = some (.int .u64 ((rd_T36 (rd_L3 ab ad) ah).f0)) ∧ w'.cell? ⟨(aJ.add ((ah).toNat * 2)).block, (aJ.add ((ah).toNat * 2)).off + 1, none⟩ = some (.int .u64 ((rd_T36 (rd_L3 ab ad) ah).f1))) (ds := []) z31_0_ (by kernel_rfl) rfl rfl ⟨bq_ aa 0, bq_ aa 1, bq_ aa 2, bq_ aa 3, ((HB.out.cell (World.block_lt_of_cell? w _ ai)).trans ai), ((HB.out.cell (World.block_lt_of_cell? w _ al)).trans al), ((HB.out.cell (World.block_lt_of_cell? w _ ak)).trans ak)⟩ (fun hL => ?_); refine with_tabW attestorref07_Path.tab9 attestorref07_Path.bits9 (fun T_ W_ => ?_)
             generalize wr.drew = cq at ay aa HB aU av aw ax hL ⊢
             refine pure_ (i := 0) (N := some 30) (v := ?_) (a' := ?_) z31_1_ rfl rfl (an_ T_) (fun _ _ _ h => h) (Or.inl ⟨by rfl, ?_⟩) ?_ ?_
             rotate_left; · intro w'; go_simp; with_reducible rfl
             rotate_left; · simp only [Act.put, sa_, sb_, sc_, i64_w, i32_w]; rfl
             refine pure_ (i := 1) (N := some 31) (v := ?_) (a' := ?_) z31_2_ rfl rfl (an_ T_) (fun _ _ _ h => h) (Or.inl ⟨by rfl, ?_⟩) ?_ ?_
             rotate_left; · intro w'; go_simp; with_reducible rfl
             rotate_left; · simp only [Act.put, sa_, sb_, sc_, i64_w, i32_w]; rfl
             refine pure_ (i := 3) (N := some 33) (v := ?_) (a' := ?_) z31_3_ rfl rfl (an_ T_) (fun _ _ _ h => h) (Or.inl ⟨by rfl, ?_⟩) ?_ ?_
             rotate_left; · intro w'; go_simp; with_reducible rfl
             rotate_left; · simp only [Act.put, sa_, sb_, sc_, i64_w, i32_w]; rfl
             refine pure_ (i := 6) (N := some 36) (v := ?_) (a' := ?_) z31_4_ rfl rfl (an_ T_) (fun _ _ _ h => h) (Or.inl ⟨by rfl, ?_⟩) ?_ ?_
             rotate_left; · intro w'; go_simp; with_reducible rfl
             rotate_left; · simp only [Act.put, sa_, sb_, sc_, i64_w, i32_w]; rfl
             refine take_ (i := 2) (N := some 32) (v := ?_) (a' := ?_) z31_5_ rfl rfl (tk_ T_ W_) (fun _ _ _ h => h) (Or.inl ⟨by rfl, ?_⟩) hL ?_ ?_
             rotate_left
             ·rintro w' ⟨s0, s1, s2, s3, s4, s5, s6⟩
              go_simp
              with_reducible rfl
             rotate_left
             ·simp only [Act.put, sa_, sb_, sc_, i64_w, i32_w]
              rfl
             refine pure_ (i := 4) (N := some 34) (v := ?_) (a' := ?_) z31_6_ rfl rfl (an_ T_) (fun _ _ _ h => h) (Or.inl ⟨by rfl, ?_⟩) ?_ ?_
             rotate_left; · intro w'; go_simp; with_reducible rfl
             rotate_left; · simp only [Act.put, sa_, sb_, sc_, i64_w, i32_w]; rfl
             refine take_ (i := 5) (N := some 35) (v := ?_) (a' := ?_) z31_7_ rfl rfl (tk_ T_ W_) (fun _ _ _ h => h) (Or.inl ⟨by rfl, ?_⟩) hL ?_ ?_
             rotate_left
             ·rintro w' ⟨s0, s1, s2, s3, s4, s5, s6⟩
              go_simp
              with_reducible rfl
             rotate_left
             ·simp only [Act.put, sa_, sb_, sc_, i64_w, i32_w]
              rfl
             refine one_ (i := 7) (N := some 37) z31_8_ rfl rfl (on_ T_) (by decide) (fun K hK => ?_)
             refine goes_ Tryd.func52 (by kernel_rfl) rfl #[.int .i64 aD] (by rfl) rfl rfl (by (try simp only [List.map_toArray, List.map_cons, List.map_nil]); first | done | rfl | (go_simp; done)) ?_
             with_reducible refine (attestorref07_other.calls aD ah _ cm.out).mono ?_
             rintro e w' ⟨rfl, ⟨nd, rfl⟩⟩
             refine ⟨_, rfl, ?_⟩
             refine hK.out _ _ ⟨bq_ aa 0, bq_ aa 1, bq_ aa 2, bq_ aa 3, ((HB.out.cell (World.block_lt_of_cell? w _ ai)).trans ai), ((HB.out.cell (World.block_lt_of_cell? w _ al)).trans al), ((HB.out.cell (World.block_lt_of_cell? w _ ak)).trans ak)⟩ (fun hL => ?_)
             clear hK K
             refine norm_ (a' := ?_) ?_ ?_
             rotate_left
             ·show Act.put _ (some 37) _ = _
              simp only [Act.put, sa_, sb_, sc_, i64_w, i32_w]
              rfl
             refine pure_ (i := 8) (N := some 38) (v := ?_) (a' := ?_) z31_9_ rfl rfl (an_ T_) (fun _ _ _ h => h) (Or.inl ⟨by rfl, ?_⟩) ?_ ?_
             rotate_left; · intro w'; go_simp; with_reducible rfl
             rotate_left; · simp only [Act.put, sa_, sb_, sc_, i64_w, i32_w]; rfl
             refine take_ (i := 9) (N := some 39) (v := ?_) (a' := ?_) z31_10_ rfl rfl (tk_ T_ W_) (fun _ _ _ h => h) (Or.inl ⟨by rfl, ?_⟩) hL ?_ ?_
             rotate_left
             ·rintro w' ⟨s0, s1, s2, s3, s4, s5, s6⟩
              go_simp
              with_reducible rfl
             rotate_left
             ·simp only [Act.put, sa_, sb_, sc_, i64_w, i32_w]
              rfl
             refine one_ (i := 10) (N := some 40) z31_11_ rfl rfl (on_ T_) (by decide) (fun K hK => ?_)
             refine value_ (w1 := ?_) (v := ?_) (by rfl) rfl ?_ ?_
             rotate_left 2
             ·go_simp
              constructor
              ·rfl
              ·rfl
             refine hK.out _ _ ⟨(blk_cell (blk_alloc aa.out _) 0).trans rfl, (blk_cell (blk_alloc aa.out _) 1).trans rfl, (blk_cell (blk_alloc aa.out _) 2).trans rfl, (blk_cell (blk_alloc aa.out _) 3).trans rfl, (World.cell?_alloc_lt _ _ _ (World.block_lt_of_cell? _ _ (((HB.out.cell (World.block_lt_of_cell? w _ ai)).trans ai)))).trans (((HB.out.cell (World.block_lt_of_cell? w _ ai)).trans ai)), (World.cell?_alloc_lt _ _ _ (World.block_lt_of_cell? _ _ (((HB.out.cell (World.block_lt_of_cell? w _ al)).trans al)))).trans (((HB.out.cell (World.block_lt_of_cell? w _ al)).trans al)), (World.cell?_alloc_lt _ _ _ (World.block_lt_of_cell? _ _ (((HB.out.cell (World.block_lt_of_cell? w _ ak)).trans ak)))).trans (((HB.out.cell (World.block_lt_of_cell? w _ ak)).trans ak))⟩ (fun hL => ?_)
             clear hK K
             refine norm_ (a' := ?_) ?_ ?_
             rotate_left
             ·show Act.put _ (some 40) _ = _
              simp only [Act.put, sa_, sb_, sc_, i64_w, i32_w]
              rfl
             refine one_ (i := 11) (N := some 41) z31_12_ rfl rfl (on_ T_) (by decide) (fun K hK => ?_)
             refine Kd.R_append_step k36 (w0 := w) w.heap.size (by rfl) (.tmp 30) (.tmp 40) 22 36 (.agg #[(.int .u64 0), (.int .u64 0)]) 16 rfl Tryd.underlying22 info36 rfl (by decide) (by omega) u6 aE (⟨(rd_T36 (rd_L3 ab ad) ah).f0, (rd_T36 (rd_L3 ab ad) ah).f1⟩ : S36) [.int .u64 ((rd_T36 (rd_L3 ab ad) ah).f0), .int .u64 ((rd_T36 (rd_L3 ab ad) ah).f1)] (fun _ => True) (fun _ => False) rfl rfl ?aP (fun _ hk => hk.elim) ?aF ?aO ?aB ?aS ?aL ?_
             (case aP => exact k36_mkM _ _ _ (⟨(rd_T36 (rd_L3 ab ad) ah).f0, (rd_T36 (rd_L3 ab ad) ah).f1⟩ : S36))
             (case aB => exact (by first | exact HB.out | exact below_drew1 HB.out | exact pw_below_drewN HB.out _))
             (case aF => exact (fun _ _ => trivial))
             (case aO => exact (ay.out))
             (case aS => exact (below_size (by first | exact HB.out | exact below_drew1 HB.out | exact pw_below_drewN HB.out _)))
             (case aL => have := bn.out; omega)
             intro cp cr ho hb hg hat
             rw [← bo.out] at ho
             have aq := aj (blk_grown (by exact aa.out) hg (Kd.R_ne ay.out aa.out (by decide)))
             have ar := aj (hb)
             have bk := aj (ho)
             clear aa
             clear HB
             clear ay
             have aa := aq
             have HB := ar
             have bp := bk
             clear ho hb hg hat
             refine hK.out _ _ ⟨bq_ aa 0, bq_ aa 1, bq_ aa 2, bq_ aa 3, ((HB.out.cell (World.block_lt_of_cell? w _ ai)).trans ai), ((HB.out.cell (World.block_lt_of_cell? w _ al)).trans al), ((HB.out.cell (World.block_lt_of_cell? w _ ak)).trans ak)⟩ (fun hL => ?_)
             clear hK K
             refine norm_ (a' := ?_) ?_ ?_
             rotate_left
             ·show Act.put _ (some 41) _ = _
              simp only [Act.put, sa_, sb_, sc_, i64_w, i32_w]
              rfl
             refine pure_ (i := 12) (N := some 6) (v := ?_) (a' := ?_) z31_13_ rfl rfl (an_ T_) (fun _ _ _ h => h) (Or.inl ⟨by rfl, ?_⟩) ?_ ?_
             rotate_left; · intro w'; go_simp; with_reducible rfl
             rotate_left; · simp only [Act.put, sa_, sb_, sc_, i64_w, i32_w]; rfl
             refine done_ (done_of T_.out (by kernel_rfl)) ?_
             try go_wp2
             go_roundg k2
             case measure => have := bs.out; have := bu.out; omega
             case rel => exact ⟨(wrap64 (Int.tdiv aD 2)), (bw), (wrap64 (ad + 1)), (by first | rfl | simp), (by first | rfl | simp), H', ⟨by have := bs.out; have := bu.out; omega⟩, ⟨by (with_reducible repeat (first | apply Kd.R_alloc | apply Kd.R_drewN | apply Kd.R_drew)); exact bp.out⟩, ⟨by exact aa.out⟩, ⟨HB.out⟩⟩
            ·rw [if_neg bf] at H
             exact absurd H (by simp)
           ·rw [if_neg be] at H
            exact absurd H (by simp)
          ·rw [if_neg bd] at H
           exact absurd H (by simp)
         ·rw [if_neg bc] at H
          exact absurd H (by simp)
        ·rw [if_neg bb] at H
         exact absurd H (by simp)
       ·rw [if_neg aQ] at H
        have c13b0 : decide ((wrap64 (ad + 1)) < (ab.length : Int)) = false := decide_eq_false aQ
        clear aQ
        simp only [Option.some.injEq, Prod.mk.injEq] at H
        obtain ⟨rfl, rfl⟩ := H
        have bT : wr.cell? ⟨ac, 0, none⟩ = some (.int .i64 ae) := bq_ aa 0
        have bU : wr.cell? ⟨ac, 1, none⟩ = some (.int .i64 af) := bq_ aa 1
        have bV : wr.cell? ⟨ac, 2, none⟩ = some (.int .i64 ag) := bq_ aa 2
        have bW : wr.cell? ⟨ac, 3, none⟩ = some (.slice ap ab.length ao) := bq_ aa 3
        have bX := blk_frozen aa.out 0
        have bY := blk_frozen aa.out 1
        have bZ := blk_frozen aa.out 2
        have b0 := blk_frozen aa.out 3
        go_wp2
        go_ret2
        exact ⟨_, by first | rfl | (simp [errW_none, errW_some] <;> rfl) | (simp [*, errW_none, errW_some] <;> rfl), by (with_reducible repeat (first | apply Kd.R_alloc | apply Kd.R_drewN | apply Kd.R_drew)); exact ay.out, HB.out⟩
 ·replace c4 := Bool.eq_false_iff.mpr c4
  subst c4
  have H1 : (some (([] : List (S36)), 1)) = some (r1, r2) := by rw [if_neg (show ¬ (false = true) by decide)] at H; exact H
  clear H
  have H := H1
  clear H1
  simp only [Option.some.injEq, Prod.mk.injEq] at H
  obtain ⟨rfl, rfl⟩ := H
  go_enter Tryd.func31, Tryd.ntmps31
  go_wp2_with (first | ((with_reducible refine gate_dst (N := 2) rfl ?_); (try (refine gate_guard (by rfl) ?_; dsimp only)); refine box_event ?hg (N := 2) ?hd (cs := #[.int .i64 ae, .int .i64 af, .int .i64 ag, .slice ap ab.length ao]) (t := 26) ?hr ?_; (case hd => rfl); (case hg => rfl); (case hr => first | (go_simp; done) | (go_simp; rfl)); intro ac hg bh hbox hb; have aq := aj (below_step HB.out hb); have ar := aj (hbox); have aV := aj ((by rw [hg]; exact (below_size HB.out) : w.heap.size ≤ ac)); clear HB; have HB := aq; have aa := ar; have bm := aV; clear aq ar aV; clear hb hbox hg; have b1 : bh.cell? ⟨ac, 0, none⟩ = some (.int .i64 ae) := bq_ aa 0; have b2 : bh.cell? ⟨ac, 1, none⟩ = some (.int .i64 af) := bq_ aa 1; have b3 : bh.cell? ⟨ac, 2, none⟩ = some (.int .i64 ag) := bq_ aa 2; have b4 : bh.cell? ⟨ac, 3, none⟩ = some (.slice ap ab.length ao) := bq_ aa 3; have b5 := blk_frozen aa.out 0; have b6 := blk_frozen aa.out 1; have b7 := blk_frozen aa.out 2; have b8 := blk_frozen aa.out 3) | ((with_reducible refine gate_callee (f := 17) rfl ?_); refine goesL_ (some 9) rfl rfl Tryd.func17 (by kernel_rfl) rfl #[.agg #[.int .i64 ae, .int .i64 af, .int .i64 ag, .slice ap ab.length ao]] rfl (by (try simp only [List.map_toArray, List.map_cons, List.map_nil]); first | done | rfl | (go_simp; done)) ?_; (with_reducible refine (attestorref07_Valid.calls k ae af ag _ _ ab false _ ?side1 ?side2 A3.out).mono ?_); (case side1 => exact (Kd.C_below aG.out HB.out)); (case side2 => exact a9.out); rintro e ct ⟨rfl, hb⟩; refine ⟨_, rfl, ?_⟩; have aq := aj (blk_below aa.out hb); have ar := aj (below_step HB.out hb); clear aa; clear HB; have aa := aq; have HB := ar; clear aq ar; (try clear hb); (try clear hb2); (try clear hk); (try clear hi)))
  go_ret2
  exact ⟨_, by first | rfl | (simp [errW_none, errW_some] <;> rfl) | (simp [*, errW_none, errW_some] <;> rfl), by first | exact Kd.R_nil _ _ _ _ _ | exact Kd.N_nil _ _ _ _ _ | exact Kd.V_nil _ _ _ _ _ | exact Kd.Q_nil _ _ _ _ _ | exact Kd.S_nil _ _ _ _ _, HB.out⟩

end Go.Proofs.YtpnpmeogffodgaaDoor.Q
end
section
namespace Go.Proofs.YtpnpmeogffodgaaDoor.Q
open Go.RowKit Go.Proofs.YtpnpmeogffodgaaDoorW.PrintWords Go.Proofs.YtpnpmeogffodgaaDoorW.PrintLast Go.Proofs.YtpnpmeogffodgaaDoorW.PrintMore
attribute [local go_sem] max2_int min2_int max_two min_two max_three min_three max_four min_four run_store_fnV run_store_fnc run_store_nfn   -- for this text's walks alone
set_option linter.unusedVariables false
set_option linter.unusedSimpArgs false

abbrev z33_0_ : Array Bool := #[false, false, false, false, false, false, false, false, false, false, false, false, false, false, false, false, false, false, false, false, false, false, false, false, false, false]
abbrev z33_1_ : Array Bool := #[true, false, false, false, false, false, false, false, false, false, false, false, false, false, false, false, false, false, false, false, false, false, false, false, false, false]
abbrev z33_2_ : Array Bool := #[true, true, false, false, false, false, false, false, false, false, false, false, false, false, false, false, false, false, false, false, false, false, false, false, false, false]
abbrev z33_3_ : Array Bool := #[true, true, true, false, false, false, false, false, false, false, false, false, false, false, false, false, false, false, false, false, false, false, false, false, false, false]
abbrev z33_4_ : Array Bool := #[true, true, true, false, true, false, false, false, false, false, false, false, false, false, false, false, false, false, false, false, false, false, false, false, false, false]
abbrev z33_5_ : Array Bool := #[true, true, true, false, true, true, false, false, false, false, false, false, false, false, false, false, false, false, false, false, false, false, false, false, false, false]
abbrev z33_6_ : Array Bool := #[true, true, true, false, true, true, true, false, false, false, false, false, false, false, false, false, false, false, false, false, false, false, false, false, false, false]
abbrev z33_7_ : Array Bool := #[true, true, true, false, true, true, true, true, false, false, false, false, false, false, false, false, false, false, false, false, false, false, false, false, false, false]
abbrev z33_8_ : Array Bool := #[true, true, true, false, true, true, true, true, false, true, false, false, false, false, false, false, false, false, false, false, false, false, false, false, false, false]
abbrev z33_9_ : Array Bool := #[true, true, true, false, true, true, true, true, false, true, true, false, false, false, false, false, false, false, false, false, false, false, false, false, false, false]
abbrev z33_10_ : Array Bool := #[true, true, true, false, true, true, true, true, false, true, true, false, false, true, false, false, false, false, false, false, false, false, false, false, false, false]
abbrev z33_11_ : Array Bool := #[true, true, true, false, true, true, true, true, false, true, true, false, false, true, true, false, false, false, false, false, false, false, false, false, false, false]
abbrev z33_12_ : Array Bool := #[true, true, true, false, true, true, true, true, false, true, true, false, false, true, true, true, false, false, false, false, false, false, false, false, false, false]
abbrev z33_13_ : Array Bool := #[true, true, true, false, true, true, true, true, false, true, true, false, false, true, true, true, true, false, false, false, false, false, false, false, false, false]
abbrev z33_14_ : Array Bool := #[true, true, true, false, true, true, true, true, false, true, true, false, false, true, true, true, true, false, true, false, false, false, false, false, false, false]
abbrev z33_15_ : Array Bool := #[true, true, true, false, true, true, true, true, false, true, true, false, false, true, true, true, true, false, true, true, false, false, false, false, false, false]
abbrev z33_16_ : Array Bool := #[true, true, true, false, true, true, true, true, false, true, true, false, false, true, true, true, true, false, true, true, true, false, false, false, false, false]
abbrev z33_17_ : Array Bool := #[true, true, true, true, true, true, true, true, false, true, true, false, false, true, true, true, true, false, true, true, true, false, false, false, false, false]
abbrev z33_18_ : Array Bool := #[true, true, true, true, true, true, true, true, true, true, true, false, false, true, true, true, true, false, true, true, true, false, false, false, false, false]
abbrev z33_19_ : Array Bool := #[true, true, true, true, true, true, true, true, true, true, true, true, false, true, true, true, true, false, true, true, true, false, false, false, false, false]
abbrev z33_20_ : Array Bool := #[true, true, true, true, true, true, true, true, true, true, true, true, true, true, true, true, true, false, true, true, true, false, false, false, false, false]
abbrev z33_21_ : Array Bool := #[true, true, true, true, true, true, true, true, true, true, true, true, true, true, true, true, true, true, true, true, true, false, false, false, false, false]
abbrev z33_22_ : Array Bool := #[true, true, true, true, true, true, true, true, true, true, true, true, true, true, true, true, true, true, true, true, true, true, false, false, false, false]
abbrev z33_23_ : Array Bool := #[true, true, true, true, true, true, true, true, true, true, true, true, true, true, true, true, true, true, true, true, true, true, true, false, false, false]
abbrev z33_24_ : Array Bool := #[true, true, true, true, true, true, true, true, true, true, true, true, true, true, true, true, true, true, true, true, true, true, true, true, false, false]
abbrev z33_25_ : Array Bool := #[true, true, true, true, true, true, true, true, true, true, true, true, true, true, true, true, true, true, true, true, true, true, true, true, true, false]
abbrev z33_26_ : Array Bool := #[true, true, true, true, true, true, true, true, true, true, true, true, true, true, true, true, true, true, true, true, true, true, true, true, true, true]
/-! ### attestorref07_Replace: function 33 -/
mutual
def attestorref07_Replace.j0 : Nat → Int → Bool → Int → Int → Int → List (List (S36)) → Int → Int → Option (Int × Int × Int × (List (List (S36))) × Int)
  | 0, _, _, _, _, _, _, _, _ => none
  | k + 1, x1, fE, bl, bm, bn, be, bo, bp => if fE = true then (some (0, 0, 0, ([] : List (List (S36))), 2)) else (attestorref07_Replace.l0 k x1 ([] : List (List (S36))) 0 bl bm bn be bo bp)
def attestorref07_Replace.l0 : Nat → Int → List (List (S36)) → Int → Int → Int → Int → List (List (S36)) → Int → Int → Option (Int × Int × Int × (List (List (S36))) × Int)
  | 0, _, _, _, _, _, _, _, _, _ => none
  | k + 1, x1, x8, x9, bl, bm, bn, be, bo, bp => if x9 < (be.length : Int) then (if 0 ≤ x9 then (if ([] : List (S36)).length + (rd_L3 be x9).length < 8796093022208 then ((some (([] : List (S36)) ++ (rd_L3 be x9) : List (S36))).bind fun ar => (if x9 = 0 then (if 0 ≤ x1 then (if x1 < (ar.length : Int) then (if x8.length < 5864062014805 then (attestorref07_Replace.l0 k x1 (x8 ++ [(ar.set (x1 : Int).toNat (⟨bo, bp⟩ : S36))]) (wrap64 (x9 + 1)) bl bm bn be bo bp) else (none)) else (none)) else (none)) else (if 0 ≤ (wrap64 (x9 - 1)) then (if (wrap64 (x9 - 1)) < (x8.length : Int) then (if 0 ≤ (wrap64 (2 * (wrap64 (Int.tdiv x1 2)))) then (if (wrap64 (2 * (wrap64 (Int.tdiv x1 2)))) < ((rd_L3 x8 (wrap64 (x9 - 1))).length : Int) then (if 0 ≤ (wrap64 ((wrap64 (2 * (wrap64 (Int.tdiv x1 2)))) + 1)) then (if (wrap64 ((wrap64 (2 * (wrap64 (Int.tdiv x1 2)))) + 1)) < ((rd_L3 x8 (wrap64 (x9 - 1))).length : Int) then ((attestorref06_Node.f k bl ((rd_T36 (rd_L3 x8 (wrap64 (x9 - 1))) (wrap64 (2 * (wrap64 (Int.tdiv x1 2))))).f0) ((rd_T36 (rd_L3 x8 (wrap64 (x9 - 1))) (wrap64 (2 * (wrap64 (Int.tdiv x1 2))))).f1) ((rd_T36 (rd_L3 x8 (wrap64 (x9 - 1))) (wrap64 ((wrap64 (2 * (wrap64 (Int.tdiv x1 2)))) + 1))).f0) ((rd_T36 (rd_L3 x8 (wrap64 (x9 - 1))) (wrap64 ((wrap64 (2 * (wrap64 (Int.tdiv x1 2)))) + 1))).f1)).bind fun a9 => (if 0 ≤ (wrap64 (Int.tdiv x1 2)) then (if (wrap64 (Int.tdiv x1 2)) < (ar.length : Int) then (if x8.length < 5864062014805 then (attestorref07_Replace.l0 k (wrap64 (Int.tdiv x1 2)) (x8 ++ [(ar.set ((wrap64 (Int.tdiv x1 2)) : Int).toNat (⟨a9.1, a9.2⟩ : S36))]) (wrap64 (x9 + 1)) bl bm bn be bo bp) else (none)) else (none)) else (none))) else (none)) else (none)) else (none)) else (none)) else (none)) else (none)))) else (none)) else (none)) else (some (bl, bm, bn, x8, 0))
end
def attestorref07_Replace.f (k : Nat) (ad : Int) (ah : Int) (al : Int) (ab : List (List (S36))) (a1 : Int) (aH : Int) (aI : Int) : Option (Int × Int × Int × (List (List (S36))) × Int) := (attestorref07_Valid.f k ad ah al ab).bind fun b3 => (if b3 = true then (if a1 < 0 then (attestorref07_Replace.j0 k a1 true ad ah al ab aH aI) else (if 0 < (ab.length : Int) then (if a1 ≥ ((rd_L3 ab 0).length : Int) then (attestorref07_Replace.j0 k a1 true ad ah al ab aH aI) else ((attestorref07_Proper.f ad aH aI).bind fun bz => (attestorref07_Replace.j0 k a1 (!bz) ad ah al ab aH aI))) else (none))) else (some (0, 0, 0, ([] : List (List (S36))), 1)))
theorem attestorref07_Replace.mono_l : ∀ k, (∀ y0 y1 y2 y3 y4 y5 y6 y7, LeO (attestorref07_Replace.j0 k y0 y1 y2 y3 y4 y5 y6 y7) (attestorref07_Replace.j0 (k + 1) y0 y1 y2 y3 y4 y5 y6 y7)) ∧ (∀ y0 y1 y2 y3 y4 y5 y6 y7 y8, LeO (attestorref07_Replace.l0 k y0 y1 y2 y3 y4 y5 y6 y7 y8) (attestorref07_Replace.l0 (k + 1) y0 y1 y2 y3 y4 y5 y6 y7 y8))
  | 0 => ⟨fun _ _ _ _ _ _ _ _ r h => by simp [attestorref07_Replace.j0] at h, fun _ _ _ _ _ _ _ _ _ r h => by simp [attestorref07_Replace.l0] at h⟩
  | k + 1 => by
    obtain ⟨ih0, ih1⟩ := attestorref07_Replace.mono_l k
    refine ⟨?_, ?_⟩
    · intro y0 y1 y2 y3 y4 y5 y6 y7
      unfold attestorref07_Replace.j0
      repeat' first
      | (with_reducible exact ih0 _ _ _ _ _ _ _ _)
      | (with_reducible exact ih1 _ _ _ _ _ _ _ _ _)
      | (with_reducible exact attestorref06_Node.mono _ _ _ _ _ _)
      | (with_reducible exact attestorref07_Valid.mono _ _ _ _ _)
      | (with_reducible exact LeO.refl _)
      | (with_reducible exact LeO.none _)
      | (with_reducible refine LeO.ite ?_ ?_)
      | (with_reducible refine LeO.bind ?_ (fun _ => ?_))
      | exact ih0 _ _ _ _ _ _ _ _
      | exact ih1 _ _ _ _ _ _ _ _ _
      | exact attestorref06_Node.mono _ _ _ _ _ _
      | exact attestorref07_Valid.mono _ _ _ _ _
      | exact LeO.none _
      | refine LeO.ite ?_ ?_
      | refine LeO.bind ?_ (fun _ => ?_)
    · intro y0 y1 y2 y3 y4 y5 y6 y7 y8
      unfold attestorref07_Replace.l0
      repeat' first
      | (with_reducible exact ih0 _ _ _ _ _ _ _ _)
      | (with_reducible exact ih1 _ _ _ _ _ _ _ _ _)
      | (with_reducible exact attestorref06_Node.mono _ _ _ _ _ _)
      | (with_reducible exact attestorref07_Valid.mono _ _ _ _ _)
      | (with_reducible exact LeO.refl _)
      | (with_reducible exact LeO.none _)
      | (with_reducible refine LeO.ite ?_ ?_)
      | (with_reducible refine LeO.bind ?_ (fun _ => ?_))
      | exact ih0 _ _ _ _ _ _ _ _
      | exact ih1 _ _ _ _ _ _ _ _ _
      | exact attestorref06_Node.mono _ _ _ _ _ _
      | exact attestorref07_Valid.mono _ _ _ _ _
      | exact LeO.none _
      | refine LeO.ite ?_ ?_
      | refine LeO.bind ?_ (fun _ => ?_)
theorem attestorref07_Replace.mono : ∀ a0 a1 a2 a3 a4 a5 a6 k, LeO (attestorref07_Replace.f k a0 a1 a2 a3 a4 a5 a6) (attestorref07_Replace.f (k + 1) a0 a1 a2 a3 a4 a5 a6) := by
  intro a0 a1 a2 a3 a4 a5 a6 k
  obtain ⟨ih0, ih1⟩ := attestorref07_Replace.mono_l k
  unfold attestorref07_Replace.f
  repeat' first
      | (with_reducible exact ih0 _ _ _ _ _ _ _ _)
      | (with_reducible exact ih1 _ _ _ _ _ _ _ _ _)
      | (with_reducible exact attestorref06_Node.mono _ _ _ _ _ _)
      | (with_reducible exact attestorref07_Valid.mono _ _ _ _ _)
      | (with_reducible exact LeO.refl _)
      | (with_reducible exact LeO.none _)
      | (with_reducible refine LeO.ite ?_ ?_)
      | (with_reducible refine LeO.bind ?_ (fun _ => ?_))
      | exact ih0 _ _ _ _ _ _ _ _
      | exact ih1 _ _ _ _ _ _ _ _ _
      | exact attestorref06_Node.mono _ _ _ _ _ _
      | exact attestorref07_Valid.mono _ _ _ _ _
      | exact LeO.none _
      | refine LeO.ite ?_ ?_
      | refine LeO.bind ?_ (fun _ => ?_)
def attestorref07_Replace.T14 : Bool × List (List Nat × List Nat) := (true, [([], []), ([], []), ([], []), ([2], [2]), ([], []), ([], []), ([5], [5]), ([4, 6], [4, 6]), ([7], [7]), ([], []), ([9], [9]), ([8, 10], [8, 10]), ([11], [11]), ([], []), ([], []), ([14], [14]), ([13, 15], [13, 15]), ([16], [16]), ([], []), ([18], [18]), ([19], [19]), ([17, 20], [17, 20]), ([21], [21]), ([3, 12, 22], [3, 12, 22]), ([0, 1, 0, 1, 2, 3, 4, 5, 6, 7, 8, 9, 10, 11, 12, 13, 14, 15, 16, 17, 18, 19, 20, 21, 22, 23], [0, 1]), ([24, 23, 23, 0, 1, 2, 3, 4, 5, 6, 7, 8, 9, 10, 11, 12, 13, 14, 15, 16, 17, 18, 19, 20, 21, 22, 23], [23, 24])])
def attestorref07_Replace.B14 : List Nat := [0, 0, 0, 4, 0, 0, 32, 112, 240, 0, 512, 2032, 4080, 0, 0, 16384, 57344, 122880, 0, 262144, 786432, 2088960, 4186112, 8388604, 16777215, 33554431]
theorem attestorref07_Replace.tab14 : rtab .any (opsOf Tryd.f33 14) = attestorref07_Replace.T14 := by kernel_rfl
theorem attestorref07_Replace.bits14 : waitsOk attestorref07_Replace.T14.2 attestorref07_Replace.B14 = true := by kernel_rfl
set_option maxHeartbeats 8000000 in
set_option maxRecDepth 100000 in
theorem attestorref07_Replace.calls (k : Nat) (ad : Int) (ah : Int) (al : Int) (aJ : Option Addr) (az : Nat) (ab : List (List (S36))) (a1 : Int) (aH : Int) (aI : Int) (r1 : Int) (r2 : Int) (r3 : Int) (r4 : List (List (S36))) (r5 : Int) (w : World) (db : Kd.C (Kd.slice 36 k36) w aJ ab.length ab) (dc : ab.length ≤ az) (h : attestorref07_Replace.f k ad ah al ab a1 aH aI = some (r1, r2, r3, r4, r5)) :
  Calls Tryd.prog 33 #[.agg #[.int .i64 ad, .int .i64 ah, .int .i64 al, .slice aJ ab.length az], .int .i64 a1, .agg #[.int .u64 aH, .int .u64 aI]] w fun e w' => ∃ ep : Value, e = .returned (.tuple #[.agg #[.int .i64 r1, .int .i64 r2, .int .i64 r3, ep], .int .i64 r5]) ∧ Kd.S (Kd.slice 36 k36) 22 w' w.heap.size (fun _ => True) ep r4 ∧ Below w.heap.size w w' := by
 have hu26 := Tryd.underlying26
 have hu36 := Tryd.underlying36
 have bB := aj db
 have dd := aj dc
 clear db dc
 have HB := aj (Below.refl w.heap.size w)
 have H : ((attestorref07_Valid.f k ad ah al ab).bind fun b3 => (if b3 = true then (if a1 < 0 then (attestorref07_Replace.j0 k a1 true ad ah al ab aH aI) else (if 0 < (ab.length : Int) then (if a1 ≥ ((rd_L3 ab 0).length : Int) then (attestorref07_Replace.j0 k a1 true ad ah al ab aH aI) else ((attestorref07_Proper.f ad aH aI).bind fun bz => (attestorref07_Replace.j0 k a1 (!bz) ad ah al ab aH aI))) else (none))) else (some (0, 0, 0, ([] : List (List (S36))), 1)))) = some (r1, r2, r3, r4, r5) := h
 clear h
 replace H := Option.bind_eq_some_iff.mp H
 obtain ⟨b3, eq, H⟩ := H
 have A4 := aj eq
 clear eq
 by_cases c5 : b3 = true
 ·subst c5
  have H1 : (if a1 < 0 then (attestorref07_Replace.j0 k a1 true ad ah al ab aH aI) else (if 0 < (ab.length : Int) then (if a1 ≥ ((rd_L3 ab 0).length : Int) then (attestorref07_Replace.j0 k a1 true ad ah al ab aH aI) else ((attestorref07_Proper.f ad aH aI).bind fun bz => (attestorref07_Replace.j0 k a1 (!bz) ad ah al ab aH aI))) else (none))) = some (r1, r2, r3, r4, r5) := by rw [if_pos rfl] at H; exact H
  clear H
  have H := H1
  clear H1
  have dN := aj H
  clear H
  go_enter Tryd.func33, Tryd.ntmps33
  go_upto_region 3 with (first | ((with_reducible refine gate_dst (N := 3) rfl ?_); (try (refine gate_guard (by rfl) ?_; dsimp only)); refine box_event ?hg (N := 3) ?hd (cs := #[.int .i64 ad, .int .i64 ah, .int .i64 al, .slice aJ ab.length az]) (t := 26) ?hr ?_; (case hd => rfl); (case hg => rfl); (case hr => first | (go_simp; done) | (go_simp; rfl)); intro ai hg w7 hbox hb; have aA := aj (below_step HB.out hb); have aC := aj (hbox); have aD := aj ((by rw [hg]; exact (below_size HB.out) : w.heap.size ≤ ai)); have aE := aj ((by rw [hg]; exact (below_size HB.out) : w.heap.size ≤ ai)); clear HB; have HB := aA; have aa := aC; have ed := aD; have aw := aE; clear aA aC aD aE; clear hb hbox hg) | ((with_reducible refine gate_dst (N := 5) rfl ?_); (try (refine gate_guard (by rfl) ?_; dsimp only)); refine box_event ?hg (N := 5) ?hd (cs := #[.int .u64 aH, .int .u64 aI]) (t := 36) ?hr ?_; (case hd => rfl); (case hg => rfl); (case hr => first | (go_simp; done) | (go_simp; rfl)); intro ap hg w8 hbox hb; have aA := aj (blk_below aa.out hb); have aC := aj (below_step HB.out hb); have aD := aj (hbox); have aE := aj ((by rw [hg]; exact (below_size HB.out) : w.heap.size ≤ ap)); have aM := aj ((by rw [hg]; exact (below_size HB.out) : w.heap.size ≤ ap)); have aN := aj ((by rw [hg]; exact Nat.ne_of_lt (blk_lt aa.out) : ai ≠ ap)); have ba := aj ((by rw [hg]; exact Nat.ne_of_gt (blk_lt aa.out) : ap ≠ ai)); clear aa; clear HB; have aa := aA; have HB := aC; have am := aD; have ee := aE; have aG := aM; have aW := aN; have aX := ba; clear aA aC aD aE aM aN ba; clear hb hbox hg) | ((with_reducible refine gate_dst (N := 6) rfl ?_); (try (refine gate_guard (by rfl) ?_; dsimp only)); refine box_event ?hg (N := 6) ?hd (cs := #[.int .i64 0, .int .i64 0, .int .i64 0, .slice none 0 0]) (t := 26) ?hr ?_; (case hd => rfl); (case hg => rfl); (case hr => first | (go_simp; done) | (go_simp; rfl)); intro ax hg w9 hbox hb; have aA := aj (blk_below aa.out hb); have aC := aj (blk_below am.out hb); have aD := aj (below_step HB.out hb); have aE := aj (hbox); have aM := aj ((by rw [hg]; exact (below_size HB.out) : w.heap.size ≤ ax)); have aN := aj ((by rw [hg]; exact (below_size HB.out) : w.heap.size ≤ ax)); have ba := aj ((by rw [hg]; exact Nat.ne_of_lt (blk_lt aa.out) : ai ≠ ax)); have bx := aj ((by rw [hg]; exact Nat.ne_of_gt (blk_lt aa.out) : ax ≠ ai)); have bV := aj ((by rw [hg]; exact Nat.ne_of_lt (blk_lt am.out) : ap ≠ ax)); have bW := aj ((by rw [hg]; exact Nat.ne_of_gt (blk_lt am.out) : ax ≠ ap)); clear aa; clear am; clear HB; have aa := aA; have am := aC; have HB := aD; have ag := aE; have ef := aM; have aK := aN; have aU := ba; have aQ := bx; have bb := bV; have bc := bW; clear aA aC aD aE aM aN ba bx bV bW; clear hb hbox hg; have fW := aW.out; have fX := aX.out; have fY := aU.out; have fZ := aQ.out; have b5 : w9.cell? ⟨ai, 0, none⟩ = some (.int .i64 ad) := bq_ aa 0; have b6 : w9.cell? ⟨ai, 1, none⟩ = some (.int .i64 ah) := bq_ aa 1; have b7 : w9.cell? ⟨ai, 2, none⟩ = some (.int .i64 al) := bq_ aa 2; have b8 : w9.cell? ⟨ai, 3, none⟩ = some (.slice aJ ab.length az) := bq_ aa 3; have b9 := blk_frozen aa.out 0; have ca := blk_frozen aa.out 1; have cb := blk_frozen aa.out 2; have cc := blk_frozen aa.out 3) | ((with_reducible refine gate_callee (f := 17) rfl ?_); refine goesL_ (some 12) rfl rfl Tryd.func17 (by kernel_rfl) rfl #[.agg #[.int .i64 ad, .int .i64 ah, .int .i64 al, .slice aJ ab.length az]] rfl (by (try simp only [List.map_toArray, List.map_cons, List.map_nil]); first | done | rfl | (go_simp; done)) ?_; (with_reducible refine (attestorref07_Valid.calls k ad ah al _ _ ab true _ ?side1 ?side2 A4.out).mono ?_); (case side1 => exact (Kd.C_below bB.out HB.out)); (case side2 => exact dd.out); rintro e bF ⟨rfl, hb⟩; refine ⟨_, rfl, ?_⟩; have aA := aj (blk_below aa.out hb); have aC := aj (blk_below am.out hb); have aD := aj (blk_below ag.out hb); have aE := aj (below_step HB.out hb); clear aa; clear am; clear ag; clear HB; have aa := aA; have am := aC; have ag := aD; have HB := aE; clear aA aC aD aE; (try clear hb); (try clear hb2); (try clear hk); (try clear hi)))
  (try simp only [Act.put, sa_, sb_, sc_])
  go_cut [32] (fun fF wc => ∃ (kq : Nat) (bZ : Bool), fF = .bool bZ ∧ Aside0 (attestorref07_Replace.j0 kq a1 bZ ad ah al ab aH aI = some (r1, r2, r3, r4, r5)) ∧ Aside0 (kq ≤ k) ∧ Aside0 (wc.heap[ai]? = some (.cells #[.int .i64 ad, .int .i64 ah, .int .i64 al, (.slice aJ ab.length az)] 26 (0, 0))) ∧ Aside0 (wc.heap[ap]? = some (.cells #[.int .u64 aH, .int .u64 aI] 36 (0, 0))) ∧ Aside0 (wc.heap[ax]? = some (.cells #[.int .i64 0, .int .i64 0, .int .i64 0, (.slice none 0 0)] 26 (0, 0))) ∧ Aside0 (Below w.heap.size w wc))
  case first =>
   have H := dN.out
   clear dN
   by_cases bX : a1 < 0
   ·rw [if_pos bX] at H
    have c14b0 : decide (a1 < 0) = true := decide_eq_true bX
    clear bX
    (first | rw [c14b0] | (simp only [i64_w, i32_w]; rw [c14b0]) | skip)
    have H' := aj H
    clear H
    go_wp2
    go_meet
    case rel => exact ⟨_, (true), (by first | rfl | simp), H', ⟨by first | omega | exact Nat.le_refl _⟩, ⟨by exact aa.out⟩, ⟨by exact am.out⟩, ⟨by exact ag.out⟩, ⟨HB.out⟩⟩
   ·rw [if_neg bX] at H
    have c14b0 : decide (a1 < 0) = false := decide_eq_false bX
    clear bX
    (first | rw [c14b0] | (simp only [i64_w, i32_w]; rw [c14b0]) | skip)
    by_cases cd : 0 < (ab.length : Int)
    ·rw [if_pos cd] at H
     have c15b0 : decide (0 < (ab.length : Int)) = true := decide_eq_true cd
     have c15b1 : decide (0 < ab.length) = true := decide_eq_true (by omega)
     clear cd
     by_cases bY : a1 ≥ ((rd_L3 ab 0).length : Int)
     ·rw [if_pos bY] at H
      have c16b0 : decide (((rd_L3 ab 0).length : Int) ≤ a1) = true := decide_eq_true bY
      clear bY
      have H' := aj H
      clear H
      have f2 := aW.out
      have f3 := aX.out
      have f4 := aU.out
      have f5 := aQ.out
      have ce : bF.cell? ⟨ai, 0, none⟩ = some (.int .i64 ad) := bq_ aa 0
      have cf : bF.cell? ⟨ai, 1, none⟩ = some (.int .i64 ah) := bq_ aa 1
      have cg : bF.cell? ⟨ai, 2, none⟩ = some (.int .i64 al) := bq_ aa 2
      have ci : bF.cell? ⟨ai, 3, none⟩ = some (.slice aJ ab.length az) := bq_ aa 3
      have cj := blk_frozen aa.out 0
      have ck := blk_frozen aa.out 1
      have cl := blk_frozen aa.out 2
      have cm := blk_frozen aa.out 3
      have bv : 0 ≤ (0 : Int) := (by omega)
      have bw : 0 < (ab.length : Int) := of_decide_eq_true (by assumption)
      obtain ⟨de, dO, dP, cU, aT, bq, br⟩ := at_L3 bB.out 0 bv bw
      cases cU
      have qi781 : (0 < ab.length) = True := eq_true (by omega)
      (try rw [show ((0 : Int)).toNat = 0 from rfl] at aT)
      (try rw [Addr.add_zero'] at aT)
      replace aT := (HB.out.cell (World.block_lt_of_cell? w _ aT)).trans aT
      have dC := aj br
      have dD := aj bq
      clear br bq
      replace bv := eq_true bv
      replace bw := eq_true bw
      go_wp2
      go_meet
      case rel => exact ⟨_, (true), (by first | rfl | simp), H', ⟨by first | omega | exact Nat.le_refl _⟩, ⟨by exact aa.out⟩, ⟨by exact am.out⟩, ⟨by exact ag.out⟩, ⟨HB.out⟩⟩
     ·rw [if_neg bY] at H
      have c16b0 : decide (((rd_L3 ab 0).length : Int) ≤ a1) = false := decide_eq_false bY
      clear bY
      replace H := Option.bind_eq_some_iff.mp H
      obtain ⟨bz, dQ, H⟩ := H
      have fG := aj dQ
      clear dQ
      have H' := aj H
      clear H
      have f6 := aW.out
      have f7 := aX.out
      have f8 := aU.out
      have f9 := aQ.out
      have cn : bF.cell? ⟨ai, 0, none⟩ = some (.int .i64 ad) := bq_ aa 0
      have co : bF.cell? ⟨ai, 1, none⟩ = some (.int .i64 ah) := bq_ aa 1
      have cp : bF.cell? ⟨ai, 2, none⟩ = some (.int .i64 al) := bq_ aa 2
      have cq : bF.cell? ⟨ai, 3, none⟩ = some (.slice aJ ab.length az) := bq_ aa 3
      have cr := blk_frozen aa.out 0
      have ct := blk_frozen aa.out 1
      have cu := blk_frozen aa.out 2
      have cv := blk_frozen aa.out 3
      have bv : 0 ≤ (0 : Int) := (by omega)
      have bw : 0 < (ab.length : Int) := of_decide_eq_true (by assumption)
      obtain ⟨de, dO, dP, cU, aT, bq, br⟩ := at_L3 bB.out 0 bv bw
      cases cU
      have qi781 : (0 < ab.length) = True := eq_true (by omega)
      (try rw [show ((0 : Int)).toNat = 0 from rfl] at aT)
      (try rw [Addr.add_zero'] at aT)
      replace aT := (HB.out.cell (World.block_lt_of_cell? w _ aT)).trans aT
      have dC := aj br
      have dD := aj bq
      clear br bq
      replace bv := eq_true bv
      replace bw := eq_true bw
      have ga := bb.out
      have gb := bc.out
      have cw : bF.cell? ⟨ap, 0, none⟩ = some (.int .u64 aH) := bq_ am 0
      have cx : bF.cell? ⟨ap, 1, none⟩ = some (.int .u64 aI) := bq_ am 1
      have cy := blk_frozen am.out 0
      have cz := blk_frozen am.out 1
      go_wp2_with (first | (go_at_call 49; (with_reducible refine (attestorref07_Proper.calls ad aH aI bz _ fG.out).mono ?_); rintro e gM ⟨rfl, hb⟩; have aA := aj (blk_below aa.out hb); have aC := aj (blk_below am.out hb); have aD := aj (blk_below ag.out hb); have aE := aj (below_step HB.out hb); clear aa; clear am; clear ag; clear HB; have aa := aA; have am := aC; have ag := aD; have HB := aE; clear aA aC aD aE))
      go_meet
      case rel => exact ⟨_, (!bz), (by first | rfl | simp), H', ⟨by first | omega | exact Nat.le_refl _⟩, ⟨by exact aa.out⟩, ⟨by exact am.out⟩, ⟨by exact ag.out⟩, ⟨HB.out⟩⟩
    ·rw [if_neg cd] at H
     exact absurd H (by simp)
  case rest =>
   clear dN
   obtain ⟨kq, bZ, rfl, HA, df, aa, am, ag, HB⟩ := hcut
   cases kq with
   | zero => exact absurd HA.out (by simp [attestorref07_Replace.j0])
   | succ kj5 =>
    have H := HA.out
    clear HA
    simp only [attestorref07_Replace.j0] at H
    by_cases cR : bZ = true
    ·subst cR
     have H1 : (some (0, 0, 0, ([] : List (List (S36))), 2)) = some (r1, r2, r3, r4, r5) := by rw [if_pos rfl] at H; exact H
     clear H
     have H := H1
     clear H1
     simp only [Option.some.injEq, Prod.mk.injEq] at H
     obtain ⟨rfl, rfl, rfl, rfl, rfl⟩ := H
     have ge := aQ.out
     have gf := aU.out
     have gg := bc.out
     have gh := bb.out
     have dE : wc.cell? ⟨ax, 0, none⟩ = some (.int .i64 0) := bq_ ag 0
     have dF : wc.cell? ⟨ax, 1, none⟩ = some (.int .i64 0) := bq_ ag 1
     have dG : wc.cell? ⟨ax, 2, none⟩ = some (.int .i64 0) := bq_ ag 2
     have dH : wc.cell? ⟨ax, 3, none⟩ = some (.slice none 0 0) := bq_ ag 3
     have dI := blk_frozen ag.out 0
     have dJ := blk_frozen ag.out 1
     have dK := blk_frozen ag.out 2
     have dL := blk_frozen ag.out 3
     go_wp2
     refine bodyPost_ret (results_ct rfl _ _ ax 26 #[.int .i64 0, .int .i64 0, .int .i64 0, .slice none 0 0] (0, 0) _ rfl (by refine blk_put (cs := #[.int .i64 0, .int .i64 0, .int .i64 0, .slice none 0 0]) ?_ 3 _ rfl; refine blk_put (cs := #[.int .i64 0, .int .i64 0, .int .i64 0, .slice none 0 0]) ?_ 2 _ rfl; refine blk_put (cs := #[.int .i64 0, .int .i64 0, .int .i64 0, .slice none 0 0]) ?_ 1 _ rfl; refine blk_put (cs := #[.int .i64 0, .int .i64 0, .int .i64 0, .slice none 0 0]) ?_ 0 _ rfl; exact ag.out) Tryd.underlying26 rfl (by kernel_rfl)) rfl ?_
     exact ⟨_, by first | rfl | (simp [errW_none, errW_some] <;> rfl) | (simp [*, errW_none, errW_some] <;> rfl), by first | exact Kd.S_nil _ _ _ _ _ | exact Kd.N_nil _ _ _ _ _ | exact Kd.V_nil _ _ _ _ _ | exact Kd.Q_nil _ _ _ _ _ | exact Kd.R_nil _ _ _ _ _, by repeat (first | (with_reducible first | exact HB.out | apply below_alloc | apply pw_below_drewN | apply below_drew1 | refine below_set ?_ aw.out | refine below_set ?_ aG.out | refine below_set ?_ aK.out) | exact HB.out)⟩
    ·replace cR := Bool.eq_false_iff.mpr cR
     subst cR
     have H1 : (attestorref07_Replace.l0 kj5 a1 ([] : List (List (S36))) 0 ad ah al ab aH aI) = some (r1, r2, r3, r4, r5) := by rw [if_neg (show ¬ (false = true) by decide)] at H; exact H
     clear H
     have H := H1
     clear H1
     have H' := aj H
     clear H
     go_wp2
     go_loopg [1, 8, 9] kj5 (fun kq v1 v8 v9 w' => ∃ (ak : Int) (ac : List (List (S36))) (av : Int) (ae : Int) (af : Int), v1 = .int .i64 ak ∧ v9 = .int .i64 av ∧ Aside0 (attestorref07_Replace.l0 kq ak ac av ad ah al ab ae af = some (r1, r2, r3, r4, r5)) ∧ Aside0 (kq ≤ kj5) ∧ Aside0 (Kd.S (Kd.slice 36 k36) 22 w' w.heap.size (fun k_ => k_ ≠ ap) v8 ac) ∧ Aside0 (w'.heap[ai]? = some (.cells #[.int .i64 ad, .int .i64 ah, .int .i64 al, (.slice aJ ab.length az)] 26 (0, 0))) ∧ Aside0 (w'.heap[ap]? = some (.cells #[.int .u64 ae, .int .u64 af] 36 (0, 0))) ∧ Aside0 (w'.heap[ax]? = some (.cells #[.int .i64 0, .int .i64 0, .int .i64 0, (.slice none 0 0)] 26 (0, 0))) ∧ Aside0 (Below w.heap.size w w'))
     case atStart => exact ⟨(a1), (([] : List (List (S36)))), (0), (aH), (aI), (by first | rfl | simp), (by first | rfl | simp), H', ⟨Nat.le_refl _⟩, ⟨by first | exact Kd.S_nil _ _ _ _ _ | exact Kd.N_nil _ _ _ _ _ | exact Kd.V_nil _ _ _ _ _ | exact Kd.Q_nil _ _ _ _ _ | exact Kd.R_nil _ _ _ _ _⟩, ⟨by exact aa.out⟩, ⟨by exact am.out⟩, ⟨by exact ag.out⟩, ⟨HB.out⟩⟩
     case round =>
      clear H'
      obtain ⟨ak, ac, av, ae, af, rfl, rfl, HA, dg, ay, aa, am, ag, HB⟩ := hrel
      cases gk with
      | zero => exact absurd HA.out (by simp [attestorref07_Replace.l0])
      | succ k2 =>
       have H := HA.out
       clear HA
       simp only [attestorref07_Replace.l0] at H
       by_cases cA : av < (ab.length : Int)
       ·rw [if_pos cA] at H
        have c31b0 : decide (av < (ab.length : Int)) = true := decide_eq_true cA
        clear cA
        by_cases dh : 0 ≤ av
        ·rw [if_pos dh] at H
         have c32b0 : decide (0 ≤ av) = true := decide_eq_true dh
         clear dh
         by_cases di : ([] : List (S36)).length + (rd_L3 ab av).length < 8796093022208
         ·rw [if_pos di] at H
          have dj := aj di
          clear di
          obtain ⟨ar, bI⟩ : ∃ y_ : List (S36), y_ = (([] : List (S36)) ++ (rd_L3 ab av)) := ⟨_, rfl⟩
          replace H : (if av = 0 then (if 0 ≤ ak then (if ak < (ar.length : Int) then (if ac.length < 5864062014805 then (attestorref07_Replace.l0 k2 ak (ac ++ [(ar.set (ak : Int).toNat (⟨ae, af⟩ : S36))]) (wrap64 (av + 1)) ad ah al ab ae af) else (none)) else (none)) else (none)) else (if 0 ≤ (wrap64 (av - 1)) then (if (wrap64 (av - 1)) < (ac.length : Int) then (if 0 ≤ (wrap64 (2 * (wrap64 (Int.tdiv ak 2)))) then (if (wrap64 (2 * (wrap64 (Int.tdiv ak 2)))) < ((rd_L3 ac (wrap64 (av - 1))).length : Int) then (if 0 ≤ (wrap64 ((wrap64 (2 * (wrap64 (Int.tdiv ak 2)))) + 1)) then (if (wrap64 ((wrap64 (2 * (wrap64 (Int.tdiv ak 2)))) + 1)) < ((rd_L3 ac (wrap64 (av - 1))).length : Int) then ((attestorref06_Node.f k2 ad ((rd_T36 (rd_L3 ac (wrap64 (av - 1))) (wrap64 (2 * (wrap64 (Int.tdiv ak 2))))).f0) ((rd_T36 (rd_L3 ac (wrap64 (av - 1))) (wrap64 (2 * (wrap64 (Int.tdiv ak 2))))).f1) ((rd_T36 (rd_L3 ac (wrap64 (av - 1))) (wrap64 ((wrap64 (2 * (wrap64 (Int.tdiv ak 2)))) + 1))).f0) ((rd_T36 (rd_L3 ac (wrap64 (av - 1))) (wrap64 ((wrap64 (2 * (wrap64 (Int.tdiv ak 2)))) + 1))).f1)).bind fun a9 => (if 0 ≤ (wrap64 (Int.tdiv ak 2)) then (if (wrap64 (Int.tdiv ak 2)) < (ar.length : Int) then (if ac.length < 5864062014805 then (attestorref07_Replace.l0 k2 (wrap64 (Int.tdiv ak 2)) (ac ++ [(ar.set ((wrap64 (Int.tdiv ak 2)) : Int).toNat (⟨a9.1, a9.2⟩ : S36))]) (wrap64 (av + 1)) ad ah al ab ae af) else (none)) else (none)) else (none))) else (none)) else (none)) else (none)) else (none)) else (none)) else (none))) = some (r1, r2, r3, r4, r5) := by first | (rw [bI]; with_reducible exact H) | (have bd := (Option.bind_some _ _).symm.trans H; rw [bI]; with_reducible exact bd) | (have bd := (Option.bind_some _ _).symm.trans H; with_reducible exact bd) | with_reducible exact H | (rw [bI]; exact H) | exact H
          have dk := aj bI
          clear bI
          by_cases b4 : av = 0
          ·rw [if_pos b4] at H
           have c34b0 : (av == 0) = true := beq_iff_eq.mpr b4
           have c34b1 : (av != 0) = false := bne_eq_false_iff_eq.mpr b4
           clear b4
           by_cases dl : 0 ≤ ak
           ·rw [if_pos dl] at H
            have c35b0 : decide (0 ≤ ak) = true := decide_eq_true dl
            clear dl
            by_cases dm : ak < (ar.length : Int)
            ·rw [if_pos dm] at H
             have c36b0 : decide (ak < (ar.length : Int)) = true := decide_eq_true dm
             clear dm
             obtain ⟨cJ, bJ⟩ : ∃ y_ : List (S36), y_ = (ar.set (ak : Int).toNat (⟨ae, af⟩ : S36)) := ⟨_, rfl⟩
             (first | rw [← bJ] at H | simp only [← bJ] at H)
             have eg := aj bJ
             clear bJ
             by_cases dn : ac.length < 5864062014805
             ·rw [if_pos dn] at H
              have eh := aj dn
              clear dn
              obtain ⟨dR, bK⟩ : ∃ y_ : List (List (S36)), y_ = (ac ++ [cJ]) := ⟨_, rfl⟩
              replace H : (attestorref07_Replace.l0 k2 ak dR (wrap64 (av + 1)) ad ah al ab ae af) = some (r1, r2, r3, r4, r5) := by first | (rw [bK]; with_reducible exact H) | (have bd := (Option.bind_some _ _).symm.trans H; rw [bK]; with_reducible exact bd) | (have bd := (Option.bind_some _ _).symm.trans H; with_reducible exact bd) | with_reducible exact H | (rw [bK]; exact H) | exact H
              have ei := aj bK
              clear bK
              have H' := aj H
              clear H
              have gi := aW.out
              have gj := aX.out
              have gl := aU.out
              have gm := aQ.out
              have eC : wr.cell? ⟨ai, 0, none⟩ = some (.int .i64 ad) := bq_ aa 0
              have eD : wr.cell? ⟨ai, 1, none⟩ = some (.int .i64 ah) := bq_ aa 1
              have eE : wr.cell? ⟨ai, 2, none⟩ = some (.int .i64 al) := bq_ aa 2
              have eF : wr.cell? ⟨ai, 3, none⟩ = some (.slice aJ ab.length az) := bq_ aa 3
              have eG := blk_frozen aa.out 0
              have eH := blk_frozen aa.out 1
              have eI := blk_frozen aa.out 2
              have eJ := blk_frozen aa.out 3
              have bG : 0 ≤ (av : Int) := of_decide_eq_true (by assumption)
              have bH : av < (ab.length : Int) := of_decide_eq_true (by assumption)
              obtain ⟨bj, dS, dT, cV, bf, bs, bu⟩ := at_L3 bB.out av bG bH
              cases cV
              replace bf := (HB.out.cell (World.block_lt_of_cell? w _ bf)).trans bf
              have bQ := aj bu
              have dM := aj bs
              clear bu bs
              replace bG := eq_true bG
              replace bH := eq_true bH
              go_wp2_with (first | ((with_reducible refine gate_builtin (b := .append) (xs := #[.tmp 41, .tmp 46]) rfl ?_); (try (refine gate_guard (by rfl) ?_; dsimp only)); at_builtin; refine Kd.R_append_rows k36 (w0 := w) w.heap.size rfl (.tmp 41) (.tmp 46) 22 36 (.agg #[(.int .u64 0), (.int .u64 0)]) 16 rfl Tryd.underlying22 info36 rfl (by decide) (by omega) (.slice none 0 0) ([] : List (S36)) (rd_L3 ab av) _ _ _ (fun k_ => k_ ≠ ap) (fun _ => False) rfl rfl ?aO ?aR (fun _ _ h => h) (fun _ h => h.elim) ?aF ?aB ?aS ?aL ?_; (case aR => repeat (first | exact (Kd.C_below bQ.out HB.out) | (with_reducible refine Kd.C_alloc ?_ _) | (with_reducible refine Kd.C_drewN ?_ _) | (with_reducible refine Kd.C_drew ?_))); (case aB => exact HB.out); (case aF => exact (fun k_ hk => Kd.freshB am.out k_ hk)); (case aO => exact ((Kd.R_nil _ _ _ _ (fun k_ => k_ ≠ ap)))); (case aS => exact (below_size HB.out)); (case aL => have := dj.out; omega); intro ev bL ho hb hg hat; rw [← dk.out] at ho; have aA := aj (Kd.S_after (Kd.S_apart_nil (ay.out)) hg hat); have aC := aj (blk_grown aa.out hg (by simp [Value.ownBlock])); have aD := aj (blk_grown am.out hg (by simp [Value.ownBlock])); have aE := aj (blk_grown ag.out hg (by simp [Value.ownBlock])); have aM := aj (hb); have aN := aj (ho); clear ay; clear aa; clear am; clear ag; clear HB; have ay := aA; have aa := aC; have am := aD; have ag := aE; have HB := aM; have au := aN; clear aA aC aD aE aM aN; have gn := bb.out; have gp := bc.out; have eK : bL.cell? ⟨ap, 0, none⟩ = some (.int .u64 ae) := bq_ am 0; have eL : bL.cell? ⟨ap, 1, none⟩ = some (.int .u64 af) := bq_ am 1; have eM := blk_frozen am.out 0; have eN := blk_frozen am.out 1; have dU : 0 ≤ (ak : Int) := of_decide_eq_true (by assumption); have dV : (ak : Int) < ((ar.length : Int) : Int) := of_decide_eq_true (by assumption); obtain ⟨go37, bR, dW, er, gl37, cl37, HG37⟩ := Kd.R_form au.out (by omega); (first | cases dW | (injection dW with ea_ en_ ec_; (first | subst ea_ | (injection ea_ with ea_; subst ea_)); subst ec_; clear en_)); have GB37 := aj er; have gH := aj HG37; clear er gl37 HG37; obtain ⟨ce37, hcl37, dX, cK, hfr37⟩ := Kd.R_elem au.out z36 (ak : Int) dU dV; obtain rfl := k36_openM dX; have fO : bL.cell? ⟨go37, (ak : Int).toNat * 2, none⟩ = some (.int .u64 ((rd_T36 ar ak).f0)) := cK 0 _ rfl; have fP : bL.cell? ⟨go37, (ak : Int).toNat * 2 + 1, none⟩ = some (.int .u64 ((rd_T36 ar ak).f1)) := cK 1 _ rfl; have hf37_0 : bL.frozen? ⟨go37, (ak : Int).toNat * 2, none⟩ = false := hfr37 0; have hf37_1 : bL.frozen? ⟨go37, (ak : Int).toNat * 2 + 1, none⟩ = false := hfr37 1; clear hcl37 cK hfr37 dX; replace dU := eq_true dU; replace dV := eq_true dV; have dY := aj (show Kd.R k36 36 bL w.heap.size (fun k_ => k_ ≠ ap) (.slice (some ⟨go37, 0, none⟩) ar.length bR) ar from (au.out)); obtain ⟨ce45, hcl45, dZ, b0, hfr45⟩ := Kd.R_elem dY.out z36 (ak : Int) (of_decide_eq_true (by assumption)) (by have h_ : (ak : Int) < ((ar.length : Int) : Int) := of_decide_eq_true (by assumption); first | exact h_ | (have e_ := (Kd.R_reads' au.out).1; omega) | simpa using h_); obtain rfl := k36_openM dZ; have HP45 := Kd.R_seg dY.out (ak : Int) (of_decide_eq_true (by assumption)) (by have h_ : (ak : Int) < ((ar.length : Int) : Int) := of_decide_eq_true (by assumption); first | exact h_ | (have e_ := (Kd.R_reads' au.out).1; omega) | simpa using h_) (seg := [.int .u64 ae, .int .u64 af]) (j := 0) hcl45 b0 (show 2 ≤ 2 from by decide) (x' := (⟨ae, af⟩ : S36)) (k36_mkM _ _ _ (⟨ae, af⟩ : S36) ) (fun _ hk => hk); have d0 := b0 0 _ rfl; (try simp only [show (k36).sz = 2 from rfl, Nat.mul_one, Nat.add_zero] at d0); have hf45_0 := hfr45 0; (try simp only [show (k36).sz = 2 from rfl, Nat.mul_one, Nat.add_zero] at hf45_0); have d1 := b0 1 _ rfl; (try simp only [show (k36).sz = 2 from rfl, Nat.mul_one, Nat.add_zero] at d1); have hf45_1 := hfr45 1; (try simp only [show (k36).sz = 2 from rfl, Nat.mul_one, Nat.add_zero] at hf45_1); clear hcl45 b0 hfr45 dZ) | ((with_reducible refine gate_store (t := 36) (p := 53) rfl ?_); refine store_event (t := 36) (p := 53) (v := ?vo_w46) (w1 := ((bL.setCell ⟨go37, (ak : Int).toNat * 2, none⟩ (.int .u64 ae)).setCell ⟨go37, (ak : Int).toNat * 2 + 1, none⟩ (.int .u64 af))) ?hg ?ho ?hn ?hr ?_; (case ho => rfl); (case hg => rfl); (case hn => rfl); (case hr => first | (go_simp; done) | (go_simp; rfl)); intro d2 hw; have hg : bL.grownBy d2 (some go37) := (by rw [hw]; exact HP45.2); have hp_ : Kd.R k36 36 d2 w.heap.size (fun k_ => k_ ≠ ap) (.slice (some ⟨go37, 0, none⟩) ar.length bR) cJ := (by rw [hw, eg.out]; exact HP45.1); clear HP45; have aA := aj (Kd.S_after (v := (.slice (some ⟨go37, 0, none⟩) ar.length bR)) (v1 := (.slice (some ⟨go37, 0, none⟩) ar.length bR)) (ok := (fun k_ => k_ ≠ ap)) (ay.out) hg (.inl rfl)); have aC := aj (blk_grown aa.out hg (Kd.R_ne au.out aa.out (by decide))); have aD := aj (blk_grown am.out hg (Kd.R_away au.out (fun _ hk => hk))); have aE := aj (blk_grown ag.out hg (Kd.R_ne au.out ag.out (by decide))); have aM := aj (hp_); have aN := aj ((by rw [hw]; exact below_set (below_set (HB.out) GB37.out) GB37.out : Below w.heap.size w d2)); clear ay; clear aa; clear am; clear ag; clear au; clear HB; have ay := aA; have aa := aC; have am := aD; have ag := aE; have au := aM; have HB := aN; clear aA aC aD aE aM aN; clear hg hw hp_) | ((with_reducible refine gate_builtin (b := .append) (xs := #[.tmp 81, .tmp 83]) rfl ?_); (try (refine gate_guard (by rfl) ?_; dsimp only)); at_builtin; refine Kd.S_append (Kd.slice 36 k36) (w0 := w) w.heap.size rfl (.tmp 81) (.tmp 83) 24 22 (.slice none 0 0) 24 rfl Tryd.underlying24 info22 rfl (by decide) (by omega) u8 ac cJ [.slice (some ⟨go37, 0, none⟩) ar.length bR] (fun k_ => k_ ≠ ap) (fun k_ => some k_ = (.slice (some ⟨go37, 0, none⟩) ar.length bR : Value).ownBlock) rfl rfl ?aP (fun k_ hk_ => ((Kd.R_mono (ok' := fun k_ => ((fun k_ => k_ ≠ ap)) k_ ∧ some k_ ≠ (u8 : Value).ownBlock) (Kd.R_apart' (au.out) (Kd.S_typed ay.out) (by decide)) (fun k_ hk => ⟨hk.1, hk.2⟩))).1 k_ hk_.symm) ?aF ?aO ?aB ?aS ?aL ?_; (case aP => exact Kd.M_row (Kd.R_mono (Kd.R_tight rfl (Kd.R_mono (ok' := fun k_ => ((fun k_ => k_ ≠ ap)) k_ ∧ some k_ ≠ (u8 : Value).ownBlock) (Kd.R_apart' (au.out) (Kd.S_typed ay.out) (by decide)) (fun k_ hk => ⟨hk.1, hk.2⟩))) (fun _ h_ => h_))); (case aB => exact HB.out); (case aF => exact (fun k_ hk => Kd.freshB am.out k_ hk)); (case aO => exact (Kd.S_mono ay.out (fun k_ hk => ⟨hk.1, fun e_ => hk.2 e_⟩))); (case aS => exact (below_size HB.out)); (case aL => have := eh.out; omega); intro gI gP ho hb hg hat; rw [← ei.out] at ho; have aA := aj (blk_grown aa.out hg (Kd.S_ne ay.out aa.out (by decide))); have aC := aj (blk_grown am.out hg (Kd.S_ne ay.out am.out (by decide))); have aD := aj (blk_grown ag.out hg (Kd.S_ne ay.out ag.out (by decide))); have aE := aj (hb); have aM := aj (ho); clear aa; clear am; clear ag; clear HB; clear ay; clear au; have aa := aA; have am := aC; have ag := aD; have HB := aE; have ej := aM; clear aA aC aD aE aM))
              go_roundg k2
              case measure => have := df.out; have := dg.out; omega
              case rel => exact ⟨(ak), (dR), (wrap64 (av + 1)), (ae), (af), (by first | rfl | simp), (by first | rfl | simp), H', ⟨by have := df.out; have := dg.out; omega⟩, ⟨by (with_reducible repeat (first | apply Kd.S_alloc | apply Kd.S_drewN | apply Kd.S_drew)); exact ej.out⟩, ⟨by exact aa.out⟩, ⟨by exact am.out⟩, ⟨by exact ag.out⟩, ⟨HB.out⟩⟩
             ·rw [if_neg dn] at H
              exact absurd H (by simp)
            ·rw [if_neg dm] at H
             exact absurd H (by simp)
           ·rw [if_neg dl] at H
            exact absurd H (by simp)
          ·rw [if_neg b4] at H
           have c34b0 : (av == 0) = false := beq_eq_false_iff_ne.mpr b4
           have c34b1 : (av != 0) = true := bne_iff_ne.mpr b4
           obtain ⟨ao, b1⟩ : ∃ j_ : Int, (wrap64 (av - 1)) = j_ := ⟨_, rfl⟩
           replace H : (if 0 ≤ (ao) then (if (ao) < (ac.length : Int) then (if 0 ≤ (wrap64 (2 * (wrap64 (Int.tdiv ak 2)))) then (if (wrap64 (2 * (wrap64 (Int.tdiv ak 2)))) < ((rd_L3 ac (ao)).length : Int) then (if 0 ≤ (wrap64 ((wrap64 (2 * (wrap64 (Int.tdiv ak 2)))) + 1)) then (if (wrap64 ((wrap64 (2 * (wrap64 (Int.tdiv ak 2)))) + 1)) < ((rd_L3 ac (ao)).length : Int) then ((attestorref06_Node.f k2 ad ((rd_T36 (rd_L3 ac (ao)) (wrap64 (2 * (wrap64 (Int.tdiv ak 2))))).f0) ((rd_T36 (rd_L3 ac (ao)) (wrap64 (2 * (wrap64 (Int.tdiv ak 2))))).f1) ((rd_T36 (rd_L3 ac (ao)) (wrap64 ((wrap64 (2 * (wrap64 (Int.tdiv ak 2)))) + 1))).f0) ((rd_T36 (rd_L3 ac (ao)) (wrap64 ((wrap64 (2 * (wrap64 (Int.tdiv ak 2)))) + 1))).f1)).bind fun a9 => (if 0 ≤ (wrap64 (Int.tdiv ak 2)) then (if (wrap64 (Int.tdiv ak 2)) < (ar.length : Int) then (if ac.length < 5864062014805 then (attestorref07_Replace.l0 k2 (wrap64 (Int.tdiv ak 2)) (ac ++ [(ar.set ((wrap64 (Int.tdiv ak 2)) : Int).toNat (⟨a9.1, a9.2⟩ : S36))]) (wrap64 (av + 1)) ad ah al ab ae af) else (none)) else (none)) else (none))) else (none)) else (none)) else (none)) else (none)) else (none)) else (none)) = some (r1, r2, r3, r4, r5) := by first | (rw [b1] at H; exact H) | (simp only [b1] at H ⊢; exact H)
           have hji48w : (IntKind.i64.wrap (av - 1)) = ao := (i64_w _).trans b1
           by_cases dp : 0 ≤ (ao)
           ·rw [if_pos dp] at H
            have c49b0 : decide (0 ≤ (ao)) = true := decide_eq_true dp
            clear dp
            by_cases dq : (ao) < (ac.length : Int)
            ·rw [if_pos dq] at H
             have c50b0 : decide ((ao) < (ac.length : Int)) = true := decide_eq_true dq
             clear dq
             obtain ⟨ji51, hji51⟩ : ∃ j_ : Int, (wrap64 (2 * (wrap64 (Int.tdiv ak 2)))) = j_ := ⟨_, rfl⟩
             replace H : (if 0 ≤ (ji51) then (if (ji51) < ((rd_L3 ac (ao)).length : Int) then (if 0 ≤ (wrap64 ((ji51) + 1)) then (if (wrap64 ((ji51) + 1)) < ((rd_L3 ac (ao)).length : Int) then ((attestorref06_Node.f k2 ad ((rd_T36 (rd_L3 ac (ao)) (ji51)).f0) ((rd_T36 (rd_L3 ac (ao)) (ji51)).f1) ((rd_T36 (rd_L3 ac (ao)) (wrap64 ((ji51) + 1))).f0) ((rd_T36 (rd_L3 ac (ao)) (wrap64 ((ji51) + 1))).f1)).bind fun a9 => (if 0 ≤ (wrap64 (Int.tdiv ak 2)) then (if (wrap64 (Int.tdiv ak 2)) < (ar.length : Int) then (if ac.length < 5864062014805 then (attestorref07_Replace.l0 k2 (wrap64 (Int.tdiv ak 2)) (ac ++ [(ar.set ((wrap64 (Int.tdiv ak 2)) : Int).toNat (⟨a9.1, a9.2⟩ : S36))]) (wrap64 (av + 1)) ad ah al ab ae af) else (none)) else (none)) else (none))) else (none)) else (none)) else (none)) else (none)) = some (r1, r2, r3, r4, r5) := by first | (rw [hji51] at H; exact H) | (simp only [hji51] at H ⊢; exact H)
             have hji51w : (IntKind.i64.wrap (2 * (wrap64 (Int.tdiv ak 2)))) = ji51 := (i64_w _).trans hji51
             by_cases dr : 0 ≤ (ji51)
             ·rw [if_pos dr] at H
              have c52b0 : decide (0 ≤ (ji51)) = true := decide_eq_true dr
              clear dr
              by_cases dt : (ji51) < ((rd_L3 ac (ao)).length : Int)
              ·rw [if_pos dt] at H
               have c53b0 : decide ((ji51) < ((rd_L3 ac (ao)).length : Int)) = true := decide_eq_true dt
               clear dt
               obtain ⟨aV, b2⟩ : ∃ j_ : Int, (wrap64 ((ji51) + 1)) = j_ := ⟨_, rfl⟩
               replace H : (if 0 ≤ (aV) then (if (aV) < ((rd_L3 ac (ao)).length : Int) then ((attestorref06_Node.f k2 ad ((rd_T36 (rd_L3 ac (ao)) (ji51)).f0) ((rd_T36 (rd_L3 ac (ao)) (ji51)).f1) ((rd_T36 (rd_L3 ac (ao)) (aV)).f0) ((rd_T36 (rd_L3 ac (ao)) (aV)).f1)).bind fun a9 => (if 0 ≤ (wrap64 (Int.tdiv ak 2)) then (if (wrap64 (Int.tdiv ak 2)) < (ar.length : Int) then (if ac.length < 5864062014805 then (attestorref07_Replace.l0 k2 (wrap64 (Int.tdiv ak 2)) (ac ++ [(ar.set ((wrap64 (Int.tdiv ak 2)) : Int).toNat (⟨a9.1, a9.2⟩ : S36))]) (wrap64 (av + 1)) ad ah al ab ae af) else (none)) else (none)) else (none))) else (none)) else (none)) = some (r1, r2, r3, r4, r5) := by first | (rw [b2] at H; exact H) | (simp only [b2] at H ⊢; exact H)
               have hji54w : (IntKind.i64.wrap ((ji51) + 1)) = aV := (i64_w _).trans b2
               by_cases du : 0 ≤ (aV)
               ·rw [if_pos du] at H
                have c55b0 : decide (0 ≤ (aV)) = true := decide_eq_true du
                clear du
                by_cases dv : (aV) < ((rd_L3 ac (ao)).length : Int)
                ·rw [if_pos dv] at H
                 have c56b0 : decide ((aV) < ((rd_L3 ac (ao)).length : Int)) = true := decide_eq_true dv
                 clear dv
                 replace H := Option.bind_eq_some_iff.mp H
                 obtain ⟨⟨aY, aZ⟩, d3, H⟩ := H
                 replace H : (if 0 ≤ (wrap64 (Int.tdiv ak 2)) then (if (wrap64 (Int.tdiv ak 2)) < (ar.length : Int) then (if ac.length < 5864062014805 then (attestorref07_Replace.l0 k2 (wrap64 (Int.tdiv ak 2)) (ac ++ [(ar.set ((wrap64 (Int.tdiv ak 2)) : Int).toNat (⟨aY, aZ⟩ : S36))]) (wrap64 (av + 1)) ad ah al ab ae af) else (none)) else (none)) else (none)) = some (r1, r2, r3, r4, r5) := H
                 have et := aj d3
                 clear d3
                 obtain ⟨aq, bC⟩ : ∃ j_ : Int, (wrap64 (Int.tdiv ak 2)) = j_ := ⟨_, rfl⟩
                 replace H : (if 0 ≤ (aq) then (if (aq) < (ar.length : Int) then (if ac.length < 5864062014805 then (attestorref07_Replace.l0 k2 aq (ac ++ [(ar.set ((aq) : Int).toNat (⟨aY, aZ⟩ : S36))]) (wrap64 (av + 1)) ad ah al ab ae af) else (none)) else (none)) else (none)) = some (r1, r2, r3, r4, r5) := by first | (rw [bC] at H; exact H) | (simp only [bC] at H ⊢; exact H)
                 (try rw [bC] at et)
                 have hji58w : (IntKind.i64.wrap (Int.tdiv ak 2)) = aq := (i64_w _).trans bC
                 have hji51' : wrap64 (2 * aq) = ji51 := by rw [← bC]; exact hji51
                 have hji51'w : (IntKind.i64.wrap (2 * aq)) = ji51 := (i64_w _).trans hji51'
                 by_cases dw : 0 ≤ (aq)
                 ·rw [if_pos dw] at H
                  have c59b0 : decide (0 ≤ (aq)) = true := decide_eq_true dw
                  clear dw
                  by_cases dx : (aq) < (ar.length : Int)
                  ·rw [if_pos dx] at H
                   have c60b0 : decide ((aq) < (ar.length : Int)) = true := decide_eq_true dx
                   clear dx
                   obtain ⟨cL, bM⟩ : ∃ y_ : List (S36), y_ = (ar.set ((aq) : Int).toNat (⟨aY, aZ⟩ : S36)) := ⟨_, rfl⟩
                   (first | rw [← bM] at H | simp only [← bM] at H)
                   have ek := aj bM
                   clear bM
                   by_cases dy : ac.length < 5864062014805
                   ·rw [if_pos dy] at H
                    have el := aj dy
                    clear dy
                    obtain ⟨d4, bN⟩ : ∃ y_ : List (List (S36)), y_ = (ac ++ [cL]) := ⟨_, rfl⟩
                    (first | rw [← bN] at H | simp only [← bN] at H)
                    have em := aj bN
                    clear bN
                    have H' := aj H
                    clear H
                    have gq := aW.out
                    have gr := aX.out
                    have gs := aU.out
                    have gt := aQ.out
                    have eO : wr.cell? ⟨ai, 0, none⟩ = some (.int .i64 ad) := bq_ aa 0
                    have eP : wr.cell? ⟨ai, 1, none⟩ = some (.int .i64 ah) := bq_ aa 1
                    have eQ : wr.cell? ⟨ai, 2, none⟩ = some (.int .i64 al) := bq_ aa 2
                    have eR : wr.cell? ⟨ai, 3, none⟩ = some (.slice aJ ab.length az) := bq_ aa 3
                    have eS := blk_frozen aa.out 0
                    have eT := blk_frozen aa.out 1
                    have eU := blk_frozen aa.out 2
                    have eV := blk_frozen aa.out 3
                    have bG : 0 ≤ (av : Int) := of_decide_eq_true (by assumption)
                    have bH : av < (ab.length : Int) := of_decide_eq_true (by assumption)
                    obtain ⟨bj, dS, dT, cV, bf, bs, bu⟩ := at_L3 bB.out av bG bH
                    cases cV
                    replace bf := (HB.out.cell (World.block_lt_of_cell? w _ bf)).trans bf
                    have bQ := aj bu
                    have dM := aj bs
                    clear bu bs
                    replace bG := eq_true bG
                    replace bH := eq_true bH
                    try go_wp2_with (first | ((with_reducible refine gate_builtin (b := .append) (xs := #[.tmp 41, .tmp 46]) rfl ?_); (try (refine gate_guard (by rfl) ?_; dsimp only)); at_builtin; refine Kd.R_append_rows k36 (w0 := w) w.heap.size rfl (.tmp 41) (.tmp 46) 22 36 (.agg #[(.int .u64 0), (.int .u64 0)]) 16 rfl Tryd.underlying22 info36 rfl (by decide) (by omega) (.slice none 0 0) ([] : List (S36)) (rd_L3 ab av) _ _ _ (fun k_ => k_ ≠ ap) (fun _ => False) rfl rfl ?aO ?aR (fun _ _ h => h) (fun _ h => h.elim) ?aF ?aB ?aS ?aL ?_; (case aR => repeat (first | exact (Kd.C_below bQ.out HB.out) | (with_reducible refine Kd.C_alloc ?_ _) | (with_reducible refine Kd.C_drewN ?_ _) | (with_reducible refine Kd.C_drew ?_))); (case aB => exact HB.out); (case aF => exact (fun k_ hk => Kd.freshB am.out k_ hk)); (case aO => exact ((Kd.R_nil _ _ _ _ (fun k_ => k_ ≠ ap)))); (case aS => exact (below_size HB.out)); (case aL => have := dj.out; omega); intro ev fQ ho hb hg hat; rw [← dk.out] at ho; have aA := aj (Kd.S_after (Kd.S_apart_nil (ay.out)) hg hat); have aC := aj (blk_grown aa.out hg (by simp [Value.ownBlock])); have aD := aj (blk_grown am.out hg (by simp [Value.ownBlock])); have aE := aj (blk_grown ag.out hg (by simp [Value.ownBlock])); have aM := aj (hb); have aN := aj (ho); clear ay; clear aa; clear am; clear ag; clear HB; have ay := aA; have aa := aC; have am := aD; have ag := aE; have HB := aM; have au := aN; clear aA aC aD aE aM aN))
                    have aA := aj (Kd.S_drew ay.out)
                    have aC := aj (Kd.R_drew au.out)
                    have aD := aj (blk_drew aa.out)
                    have aE := aj (blk_drew am.out)
                    have aM := aj (blk_drew ag.out)
                    have aN := aj (below_drew1 HB.out)
                    clear ay
                    clear au
                    clear aa
                    clear am
                    clear ag
                    clear HB
                    have ay := aA
                    have au := aC
                    have aa := aD
                    have am := aE
                    have ag := aM
                    have HB := aN
                    clear aA aC aD aE aM aN
                    obtain ⟨gJ, bS, d5⟩ := Kd.S_slice ay.out
                    (first | subst d5 | (injection d5 with f1_ f2_ f3_; have f4_ := f1_.symm; have f5_ := f3_.symm; clear f1_ f2_ f3_; subst f4_; subst f5_))
                    have cM : 0 ≤ ((ao) : Int) := of_decide_eq_true (by assumption)
                    have cN : (ao) < (ac.length : Int) := of_decide_eq_true (by assumption)
                    obtain ⟨bk, fR, bO, ew, bD, cB, cC⟩ := at_L3 (Kd.S_reads' ay.out).2.2 (ao) cM cN
                    cases ew
                    obtain ⟨ce791, d6, hMe791, cS⟩ := Kd.S_get ay.out [] (ao) cM (by first | exact cN | exact of_decide_eq_true (by assumption) | (have e_ := (Kd.S_reads' ay.out).1; omega))
                    obtain ⟨eW, rfl, bT⟩ := hMe791
                    have hv791_0 := cS 0 _ rfl
                    rw [Nat.add_zero, show ((Kd.slice 36 k36)).sz = 1 from rfl, Nat.mul_one] at hv791_0
                    replace hv791_0 := Option.some.inj (hv791_0.symm.trans bD)
                    rw [hv791_0] at bT
                    have a7 := aj (show Kd.R k36 36 _ _ _ _ (rd_L3 ac (ao)) from bT)
                    clear hv791_0 bT
                    clear cS d6
                    have bg := aj cC
                    have eX := aj cB
                    clear cC cB
                    replace cM := eq_true cM
                    replace cN := eq_true cN
                    have cW : 0 ≤ ((ji51) : Int) := of_decide_eq_true (by assumption)
                    have cX : (ji51) < ((rd_L3 ac (ao)).length : Int) := of_decide_eq_true (by assumption)
                    obtain ⟨bi, ey, cD, cE⟩ := at_T36 (by repeat (first | (with_reducible exact bg.out) | (with_reducible refine Kd.C_alloc ?_ _) | (with_reducible refine Kd.C_drewN ?_ _) | (with_reducible refine Kd.C_drew ?_) | exact bg.out)) (ji51) cW cX
                    cases ey
                    replace cW := eq_true cW
                    replace cX := eq_true cX
                    have cO : 0 ≤ ((ao) : Int) := of_decide_eq_true (by assumption)
                    have cP : (ao) < (ac.length : Int) := of_decide_eq_true (by assumption)
                    obtain ⟨en, fS, fT, ez, bE, cF, cG⟩ := at_L3 (Kd.S_reads' ay.out).2.2 (ao) cO cP
                    obtain rfl : bk = en := (by injection ez)
                    obtain ⟨ce793, d7, hMe793, cT⟩ := Kd.S_get ay.out [] (ao) cO (by first | exact cP | exact of_decide_eq_true (by assumption) | (have e_ := (Kd.S_reads' ay.out).1; omega))
                    obtain ⟨eY, rfl, bU⟩ := hMe793
                    have hv793_0 := cT 0 _ rfl
                    rw [Nat.add_zero, show ((Kd.slice 36 k36)).sz = 1 from rfl, Nat.mul_one] at hv793_0
                    replace hv793_0 := Option.some.inj (hv793_0.symm.trans bE)
                    rw [hv793_0] at bU
                    have a8 := aj (show Kd.R k36 36 _ _ _ _ (rd_L3 ac (ao)) from bU)
                    clear hv793_0 bU
                    clear cT d7
                    have bh := aj cG
                    have eZ := aj cF
                    clear cG cF
                    replace cO := eq_true cO
                    replace cP := eq_true cP
                    have ea_ := Option.some.inj (bD.symm.trans bE)
                    injection ea_ with ea_ en_ ec_
                    subst ea_
                    subst ec_
                    clear en_
                    have cY : 0 ≤ ((aV) : Int) := of_decide_eq_true (by assumption)
                    have cZ : (aV) < ((rd_L3 ac (ao)).length : Int) := of_decide_eq_true (by assumption)
                    obtain ⟨gu, eA, cH, cI⟩ := at_T36 (by repeat (first | (with_reducible exact bh.out) | (with_reducible refine Kd.C_alloc ?_ _) | (with_reducible refine Kd.C_drewN ?_ _) | (with_reducible refine Kd.C_drew ?_) | exact bh.out)) (aV) cY cZ
                    cases eA
                    replace cY := eq_true cY
                    replace cZ := eq_true cZ
                    refine start_ (n := 26) (S := fun w' => w'.cell? ⟨ai, 0, none⟩ = some (.int .i64 ad) ∧ w'.cell? ⟨ai, 1, none⟩ = some (.int .i64 ah) ∧ w'.cell? ⟨ai, 2, none⟩ = some (.int .i64 al) ∧ w'.cell? ⟨ai, 3, none⟩ = some (.slice (some bj) ab.length az) ∧ w'.cell? (bk.add ((ao)).toNat) = some (.slice (some bi) (rd_L3 ac (ao)).length bO) ∧ w'.cell? (bi.add (((ji51)).toNat * 2)) = some (.int .u64 ((rd_T36 (rd_L3 ac (ao)) (ji51)).f0)) ∧ w'.cell? ⟨(bi.add (((ji51)).toNat * 2)).block, (bi.add (((ji51)).toNat * 2)).off + 1, none⟩ = some (.int .u64 ((rd_T36 (rd_L3 ac (ao)) (ji51)).f1)) ∧ w'.cell? (bk.add ((ao)).toNat) = some (.slice (some bi) (rd_L3 ac (ao)).length bO) ∧ w'.cell? (bi.add (((aV)).toNat * 2)) = some (.int .u64 ((rd_T36 (rd_L3 ac (ao)) (aV)).f0)) ∧ w'.cell? ⟨(bi.add (((aV)).toNat * 2)).block, (bi.add (((aV)).toNat * 2)).off + 1, none⟩ = some (.int .u64 ((rd_T36 (rd_L3 ac (ao)) (aV)).f1))) (ds := [25]) z33_0_ (by kernel_rfl) rfl rfl ⟨bq_ aa 0, bq_ aa 1, bq_ aa 2, bq_ aa 3, bD, cD, cE, bE, cH, cI⟩ (fun hL => ?_); refine with_tabW attestorref07_Replace.tab14 attestorref07_Replace.bits14 (fun T_ W_ => ?_)
                    generalize fQ.drew = gQ at ay au aa am ag HB a7 a8 bg bh bD cD cE bE cH cI hL ⊢
                    refine pure_ (i := 0) (N := some 56) (v := ?_) (a' := ?_) z33_1_ rfl rfl (an_ T_) (fun _ _ _ h => h) (Or.inl ⟨by rfl, ?_⟩) ?_ ?_
                    rotate_left; · intro w'; go_simp; with_reducible rfl
                    rotate_left; · simp only [Act.put, sa_, sb_, sc_, i64_w, i32_w]; rfl
                    refine pure_ (i := 1) (N := some 57) (v := ?_) (a' := ?_) z33_2_ rfl rfl (an_ T_) (fun _ _ _ h => h) (Or.inl ⟨by rfl, ?_⟩) ?_ ?_
                    rotate_left; · intro w'; go_simp; with_reducible rfl
                    rotate_left; · simp only [Act.put, sa_, sb_, sc_, i64_w, i32_w]; rfl
                    refine pure_ (i := 2) (N := some 58) (v := ?_) (a' := ?_) z33_3_ rfl rfl (an_ T_) (fun _ _ _ h => h) (Or.inl ⟨by rfl, ?_⟩) ?_ ?_
                    rotate_left; · intro w'; go_simp; with_reducible rfl
                    rotate_left; · simp only [Act.put, sa_, sb_, sc_, i64_w, i32_w]; rfl
                    refine pure_ (i := 4) (N := some 60) (v := ?_) (a' := ?_) z33_4_ rfl rfl (an_ T_) (fun _ _ _ h => h) (Or.inl ⟨by rfl, ?_⟩) ?_ ?_
                    rotate_left; · intro w'; go_simp; with_reducible rfl
                    rotate_left; · simp only [Act.put, sa_, sb_, sc_, i64_w, i32_w]; rfl
                    refine pure_ (i := 5) (N := some 61) (v := ?_) (a' := ?_) z33_5_ rfl rfl (an_ T_) (fun _ _ _ h => h) (Or.inl ⟨by rfl, ?_⟩) ?_ ?_
                    rotate_left; · intro w'; go_simp; with_reducible rfl
                    rotate_left; · simp only [Act.put, sa_, sb_, sc_, i64_w, i32_w]; rfl
                    refine pure_ (i := 6) (N := some 62) (v := ?_) (a' := ?_) z33_6_ rfl rfl (an_ T_) (fun _ _ _ h => h) (Or.inl ⟨by rfl, ?_⟩) ?_ ?_
                    rotate_left; · intro w'; go_simp; with_reducible rfl
                    rotate_left; · simp only [Act.put, sa_, sb_, sc_, i64_w, i32_w]; rfl
                    refine pure_ (i := 7) (N := some 63) (v := ?_) (a' := ?_) z33_7_ rfl rfl (an_ T_) (fun _ _ _ h => h) (Or.inl ⟨by rfl, ?_⟩) ?_ ?_
                    rotate_left; · intro w'; go_simp; with_reducible rfl
                    rotate_left; · simp only [Act.put, sa_, sb_, sc_, i64_w, i32_w]; rfl
                    refine pure_ (i := 9) (N := some 65) (v := ?_) (a' := ?_) z33_8_ rfl rfl (an_ T_) (fun _ _ _ h => h) (Or.inl ⟨by rfl, ?_⟩) ?_ ?_
                    rotate_left; · intro w'; go_simp; with_reducible rfl
                    rotate_left; · simp only [Act.put, sa_, sb_, sc_, i64_w, i32_w]; rfl
                    refine pure_ (i := 10) (N := some 66) (v := ?_) (a' := ?_) z33_9_ rfl rfl (an_ T_) (fun _ _ _ h => h) (Or.inl ⟨by rfl, ?_⟩) ?_ ?_
                    rotate_left; · intro w'; go_simp; with_reducible rfl
                    rotate_left; · simp only [Act.put, sa_, sb_, sc_, i64_w, i32_w]; rfl
                    refine pure_ (i := 13) (N := some 69) (v := ?_) (a' := ?_) z33_10_ rfl rfl (an_ T_) (fun _ _ _ h => h) (Or.inl ⟨by rfl, ?_⟩) ?_ ?_
                    rotate_left; · intro w'; go_simp; with_reducible rfl
                    rotate_left; · simp only [Act.put, sa_, sb_, sc_, i64_w, i32_w]; rfl
                    refine pure_ (i := 14) (N := some 70) (v := ?_) (a' := ?_) z33_11_ rfl rfl (an_ T_) (fun _ _ _ h => h) (Or.inl ⟨by rfl, ?_⟩) ?_ ?_
                    rotate_left; · intro w'; go_simp; with_reducible rfl
                    rotate_left; · simp only [Act.put, sa_, sb_, sc_, i64_w, i32_w]; rfl
                    refine pure_ (i := 15) (N := some 71) (v := ?_) (a' := ?_) z33_12_ rfl rfl (an_ T_) (fun _ _ _ h => h) (Or.inl ⟨by rfl, ?_⟩) ?_ ?_
                    rotate_left; · intro w'; go_simp; with_reducible rfl
                    rotate_left; · simp only [Act.put, sa_, sb_, sc_, i64_w, i32_w]; rfl
                    refine pure_ (i := 16) (N := some 72) (v := ?_) (a' := ?_) z33_13_ rfl rfl (an_ T_) (fun _ _ _ h => h) (Or.inl ⟨by rfl, ?_⟩) ?_ ?_
                    rotate_left; · intro w'; go_simp; with_reducible rfl
                    rotate_left; · simp only [Act.put, sa_, sb_, sc_, i64_w, i32_w]; rfl
                    refine pure_ (i := 18) (N := some 74) (v := ?_) (a' := ?_) z33_14_ rfl rfl (an_ T_) (fun _ _ _ h => h) (Or.inl ⟨by rfl, ?_⟩) ?_ ?_
                    rotate_left; · intro w'; go_simp; with_reducible rfl
                    rotate_left; · simp only [Act.put, sa_, sb_, sc_, i64_w, i32_w]; rfl
                    refine pure_ (i := 19) (N := some 75) (v := ?_) (a' := ?_) z33_15_ rfl rfl (an_ T_) (fun _ _ _ h => h) (Or.inl ⟨by rfl, ?_⟩) ?_ ?_
                    rotate_left; · intro w'; go_simp; with_reducible rfl
                    rotate_left; · simp only [Act.put, sa_, sb_, sc_, i64_w, i32_w]; rfl
                    refine pure_ (i := 20) (N := some 76) (v := ?_) (a' := ?_) z33_16_ rfl rfl (an_ T_) (fun _ _ _ h => h) (Or.inl ⟨by rfl, ?_⟩) ?_ ?_
                    rotate_left; · intro w'; go_simp; with_reducible rfl
                    rotate_left; · simp only [Act.put, sa_, sb_, sc_, i64_w, i32_w]; rfl
                    refine take_ (i := 3) (N := some 59) (v := ?_) (a' := ?_) z33_17_ rfl rfl (tk_ T_ W_) (fun _ _ _ h => h) (Or.inl ⟨by rfl, ?_⟩) hL ?_ ?_
                    rotate_left
                    ·rintro w' ⟨s0, s1, s2, s3, s4, s5, s6, s7, s8, s9⟩
                     go_simp
                     with_reducible rfl
                    rotate_left
                    ·simp only [Act.put, sa_, sb_, sc_, i64_w, i32_w]
                     rfl
                    refine take_ (i := 8) (N := some 64) (v := ?_) (a' := ?_) z33_18_ rfl rfl (tk_ T_ W_) (fun _ _ _ h => h) (Or.inl ⟨by rfl, ?_⟩) hL ?_ ?_
                    rotate_left
                    ·rintro w' ⟨s0, s1, s2, s3, s4, s5, s6, s7, s8, s9⟩
                     go_simp
                     with_reducible rfl
                    rotate_left
                    ·simp only [Act.put, sa_, sb_, sc_, i64_w, i32_w]
                     rfl
                    refine pure_ (i := 11) (N := some 67) (v := ?_) (a' := ?_) z33_19_ rfl rfl (an_ T_) (fun _ _ _ h => h) (Or.inl ⟨by rfl, ?_⟩) ?_ ?_
                    rotate_left; · intro w'; go_simp; with_reducible rfl
                    rotate_left; · simp only [Act.put, sa_, sb_, sc_, i64_w, i32_w]; rfl
                    refine take_ (i := 12) (N := some 68) (v := ?_) (a' := ?_) z33_20_ rfl rfl (tk_ T_ W_) (fun _ _ _ h => h) (Or.inl ⟨by rfl, ?_⟩) hL ?_ ?_
                    rotate_left
                    ·rintro w' ⟨s0, s1, s2, s3, s4, s5, s6, s7, s8, s9⟩
                     go_simp
                     with_reducible rfl
                    rotate_left
                    ·simp only [Act.put, sa_, sb_, sc_, i64_w, i32_w]
                     rfl
                    refine take_ (i := 17) (N := some 73) (v := ?_) (a' := ?_) z33_21_ rfl rfl (tk_ T_ W_) (fun _ _ _ h => h) (Or.inl ⟨by rfl, ?_⟩) hL ?_ ?_
                    rotate_left
                    ·rintro w' ⟨s0, s1, s2, s3, s4, s5, s6, s7, s8, s9⟩
                     go_simp
                     with_reducible rfl
                    rotate_left
                    ·simp only [Act.put, sa_, sb_, sc_, i64_w, i32_w]
                     rfl
                    refine pure_ (i := 21) (N := some 77) (v := ?_) (a' := ?_) z33_22_ rfl rfl (an_ T_) (fun _ _ _ h => h) (Or.inl ⟨by rfl, ?_⟩) ?_ ?_
                    rotate_left; · intro w'; go_simp; with_reducible rfl
                    rotate_left; · simp only [Act.put, sa_, sb_, sc_, i64_w, i32_w]; rfl
                    refine take_ (i := 22) (N := some 78) (v := ?_) (a' := ?_) z33_23_ rfl rfl (tk_ T_ W_) (fun _ _ _ h => h) (Or.inl ⟨by rfl, ?_⟩) hL ?_ ?_
                    rotate_left
                    ·rintro w' ⟨s0, s1, s2, s3, s4, s5, s6, s7, s8, s9⟩
                     go_simp
                     with_reducible rfl
                    rotate_left
                    ·simp only [Act.put, sa_, sb_, sc_, i64_w, i32_w]
                     rfl
                    refine one_ (i := 23) (N := some 79) z33_24_ rfl rfl (on_ T_) (by decide) (fun K hK => ?_)
                    refine goes_ Tryd.func44 (by kernel_rfl) rfl #[.int .i64 ad, .agg #[.int .u64 ((rd_T36 (rd_L3 ac (ao)) (ji51)).f0), .int .u64 ((rd_T36 (rd_L3 ac (ao)) (ji51)).f1)], .agg #[.int .u64 ((rd_T36 (rd_L3 ac (ao)) (aV)).f0), .int .u64 ((rd_T36 (rd_L3 ac (ao)) (aV)).f1)]] (by rfl) rfl rfl (by (try simp only [List.map_toArray, List.map_cons, List.map_nil]); first | done | (simp only [b1, hji51, b2]; rfl) | rfl | (simp only [List.length_drop, List.length_take]; rfl) | (go_simp; done) | (go_simp; rw [Int.tmod_eq_emod_of_nonneg (by omega)]; omega)) ?_
                    with_reducible refine (attestorref06_Node.calls k2 ad ((rd_T36 (rd_L3 ac (ao)) (ji51)).f0) ((rd_T36 (rd_L3 ac (ao)) (ji51)).f1) ((rd_T36 (rd_L3 ac (ao)) (aV)).f0) ((rd_T36 (rd_L3 ac (ao)) (aV)).f1) aY aZ _ et.out).mono ?_
                    rintro e bP ⟨rfl, hb⟩
                    have HS4_ := (hb.cell (World.block_lt_of_cell? _ _ (hL.2.2.2.2.1))).trans (hL.2.2.2.2.1)
                    have HS5_ := (hb.cell (World.block_lt_of_cell? _ _ (hL.2.2.2.2.2.1))).trans (hL.2.2.2.2.2.1)
                    have HS6_ := (hb.cell (World.block_lt_of_cell? _ _ (hL.2.2.2.2.2.2.1))).trans (hL.2.2.2.2.2.2.1)
                    have HS7_ := (hb.cell (World.block_lt_of_cell? _ _ (hL.2.2.2.2.2.2.2.1))).trans (hL.2.2.2.2.2.2.2.1)
                    have HS8_ := (hb.cell (World.block_lt_of_cell? _ _ (hL.2.2.2.2.2.2.2.2.1))).trans (hL.2.2.2.2.2.2.2.2.1)
                    have HS9_ := (hb.cell (World.block_lt_of_cell? _ _ (hL.2.2.2.2.2.2.2.2.2))).trans (hL.2.2.2.2.2.2.2.2.2)
                    refine ⟨_, rfl, ?_⟩
                    have aA := aj (Kd.S_below (ay.out) hb)
                    have aC := aj (Kd.R_below (au.out) hb)
                    have aD := aj (Kd.R_below (a7.out) hb)
                    have aE := aj (Kd.R_below (a8.out) hb)
                    have aM := aj (blk_below aa.out hb)
                    have aN := aj (blk_below am.out hb)
                    have ba := aj (blk_below ag.out hb)
                    have bx := aj (Kd.C_below (by repeat (first | (with_reducible exact bg.out) | (with_reducible refine Kd.C_alloc ?_ _) | (with_reducible refine Kd.C_drewN ?_ _) | (with_reducible refine Kd.C_drew ?_) | exact bg.out)) hb)
                    have bV := aj (Kd.C_below (by repeat (first | (with_reducible exact bh.out) | (with_reducible refine Kd.C_alloc ?_ _) | (with_reducible refine Kd.C_drewN ?_ _) | (with_reducible refine Kd.C_drew ?_) | exact bh.out)) hb)
                    have bW := aj (below_step HB.out hb)
                    clear ay
                    clear au
                    clear a7
                    clear a8
                    clear aa
                    clear am
                    clear ag
                    clear bg
                    clear bh
                    clear HB
                    have ay := aA
                    have au := aC
                    have a7 := aD
                    have a8 := aE
                    have aa := aM
                    have am := aN
                    have ag := ba
                    have bg := bx
                    have bh := bV
                    have HB := bW
                    clear aA aC aD aE aM aN ba bx bV bW
                    have d8 : 0 ≤ ((aq) : Int) := of_decide_eq_true (by assumption)
                    have d9 : ((aq) : Int) < ((ar.length : Int) : Int) := of_decide_eq_true (by assumption)
                    obtain ⟨go61, bA, ea, eu, gl61, cl61, HG61⟩ := Kd.R_form au.out (by omega)
                    (first | cases ea | (injection ea with ea_ en_ ec_; (first | subst ea_ | (injection ea_ with ea_; subst ea_)); subst ec_; clear en_))
                    have GB61 := aj eu
                    have gK := aj HG61
                    clear eu gl61 HG61
                    obtain ⟨ce61, hcl61, eb, cQ, hfr61⟩ := Kd.R_elem au.out z36 ((aq) : Int) d8 d9
                    obtain rfl := k36_openM eb
                    have fU : World.cell? _ ⟨go61, ((aq) : Int).toNat * 2, none⟩ = some (.int .u64 ((rd_T36 ar (aq)).f0)) := cQ 0 _ rfl
                    have fV : World.cell? _ ⟨go61, ((aq) : Int).toNat * 2 + 1, none⟩ = some (.int .u64 ((rd_T36 ar (aq)).f1)) := cQ 1 _ rfl
                    have hf61_0 : World.frozen? _ ⟨go61, ((aq) : Int).toNat * 2, none⟩ = false := hfr61 0
                    have hf61_1 : World.frozen? _ ⟨go61, ((aq) : Int).toNat * 2 + 1, none⟩ = false := hfr61 1
                    clear hcl61 cQ hfr61 eb
                    replace d8 := eq_true d8
                    replace d9 := eq_true d9
                    obtain ⟨ce70, hcl70, ec, dz, hfr70⟩ := Kd.R_elem au.out z36 ((aq) : Int) (of_decide_eq_true (by assumption)) (by have h_ : ((aq) : Int) < ((ar.length : Int) : Int) := of_decide_eq_true (by assumption); first | exact h_ | (have e_ := (Kd.R_reads' au.out).1; omega) | simpa using h_)
                    obtain rfl := k36_openM ec
                    have HP70 := (Kd.R_seg au.out ((aq) : Int) (of_decide_eq_true (by assumption)) (by have h_ : ((aq) : Int) < ((ar.length : Int) : Int) := of_decide_eq_true (by assumption); first | exact h_ | (have e_ := (Kd.R_reads' au.out).1; omega) | simpa using h_) (seg := [.int .u64 aY, .int .u64 aZ]) (j := 0) hcl70 dz (show 2 ≤ 2 from by decide) (x' := (⟨aY, aZ⟩ : S36)) (k36_mkM _ _ _ (⟨aY, aZ⟩ : S36) ) (fun _ hk => hk)).1
                    rw [← ek.out] at HP70
                    have HQ70 := aj HP70
                    clear hcl70 dz hfr70 ec HP70
                    refine hK.out _ _ ⟨bq_ aa 0, bq_ aa 1, bq_ aa 2, bq_ aa 3, HS4_, HS5_, HS6_, HS7_, HS8_, HS9_⟩ (fun hL => ?_)
                    clear hK K
                    refine norm_ (a' := ?_) ?_ ?_
                    rotate_left
                    ·show Act.put _ (some 79) _ = _
                     simp only [Act.put, sa_, sb_, sc_, i64_w, i32_w]
                     rfl
                    refine pure_ (i := 24) (N := some 80) (v := ?_) (a' := ?_) z33_25_ rfl rfl (an_ T_) (fun _ _ _ h => h) (Or.inl ⟨by rfl, ?_⟩) ?_ ?_
                    rotate_left; · intro w'; go_simp; with_reducible rfl
                    rotate_left; · simp only [Act.put, sa_, sb_, sc_, i64_w, i32_w]; rfl
                    refine last_ (i := 25) (N := none) z33_26_ rfl rfl (on_ T_) (by decide) (fun K hK => ?_)
                    refine skip_ (w1 := ?_) (by rfl) rfl ?_ ?_
                    rotate_left
                    ·go_simp
                     rfl
                    refine hK.out _ _ ?_
                    clear hK K
                    refine done_ (done_of T_.out (by kernel_rfl)) ?_
                    have aA : Aside0 (Kd.S (Kd.slice 36 k36) 22 ((bP.setCell ⟨go61, ((aq) : Int).toNat * 2, none⟩ (.int .u64 aY)).setCell ⟨go61, ((aq) : Int).toNat * 2 + 1, none⟩ (.int .u64 aZ)) w.heap.size (fun k_ => some k_ ≠ (.slice (some ⟨go61, 0, none⟩) ar.length bA : Value).ownBlock ∧ k_ ≠ ap) (.slice (some bk) ac.length bS) ac) := ⟨by (with_reducible repeat (first | apply Kd.S_alloc | apply Kd.S_drewN | apply Kd.S_drew)); exact Kd.S_mono (Kd.S_far (p := ⟨go61, ((aq) : Int).toNat * 2 + 1, none⟩) (Kd.S_far (p := ⟨go61, ((aq) : Int).toNat * 2, none⟩) (Kd.S_mono ay.out (fun k_ hk => (⟨hk, fun e_ => hk.2 (by rw [e_]; rfl)⟩ : _ ∧ k_ ≠ go61))) (fun _ hk => hk.2) (.int .u64 aY)) (fun _ hk => hk.2) (.int .u64 aZ)) (fun _ hk => ⟨hk.1.2, hk.1.1⟩)⟩
                    have aC : Aside0 (Kd.R k36 36 ((bP.setCell ⟨go61, ((aq) : Int).toNat * 2, none⟩ (.int .u64 aY)).setCell ⟨go61, ((aq) : Int).toNat * 2 + 1, none⟩ (.int .u64 aZ)) w.heap.size (fun k_ => k_ ≠ ap) (.slice (some ⟨go61, 0, none⟩) ar.length bA) cL) := ⟨by (with_reducible repeat (first | apply Kd.R_alloc | apply Kd.R_drewN | apply Kd.R_drew)); exact HQ70.out⟩
                    have aD : Aside0 (Kd.R k36 36 ((bP.setCell ⟨go61, ((aq) : Int).toNat * 2, none⟩ (.int .u64 aY)).setCell ⟨go61, ((aq) : Int).toNat * 2 + 1, none⟩ (.int .u64 aZ)) w.heap.size (fun k_ => some k_ ≠ (.slice (some bk) ac.length bS : Value).ownBlock ∧ some k_ ≠ (.slice (some ⟨go61, 0, none⟩) ar.length bA : Value).ownBlock ∧ k_ ≠ ap) (.slice (some bi) (rd_L3 ac (ao)).length bO) (rd_L3 ac (ao))) := ⟨by (with_reducible repeat (first | apply Kd.R_alloc | apply Kd.R_drewN | apply Kd.R_drew)); exact Kd.R_mono (Kd.R_far (p := ⟨go61, ((aq) : Int).toNat * 2 + 1, none⟩) (Kd.R_far (p := ⟨go61, ((aq) : Int).toNat * 2, none⟩) (Kd.R_mono a7.out (fun k_ hk => (⟨hk, fun e_ => hk.1.2 (by rw [e_]; rfl)⟩ : _ ∧ k_ ≠ go61))) (fun _ hk => hk.2) (.int .u64 aY)) (fun _ hk => hk.2) (.int .u64 aZ)) (fun _ hk => ⟨hk.1.2, ⟨hk.1.1.2, hk.1.1.1⟩⟩)⟩
                    have aE : Aside0 (Kd.R k36 36 ((bP.setCell ⟨go61, ((aq) : Int).toNat * 2, none⟩ (.int .u64 aY)).setCell ⟨go61, ((aq) : Int).toNat * 2 + 1, none⟩ (.int .u64 aZ)) w.heap.size (fun k_ => some k_ ≠ (.slice (some bk) ac.length bS : Value).ownBlock ∧ some k_ ≠ (.slice (some ⟨go61, 0, none⟩) ar.length bA : Value).ownBlock ∧ k_ ≠ ap) (.slice (some bi) (rd_L3 ac (ao)).length bO) (rd_L3 ac (ao))) := ⟨by (with_reducible repeat (first | apply Kd.R_alloc | apply Kd.R_drewN | apply Kd.R_drew)); exact Kd.R_mono (Kd.R_far (p := ⟨go61, ((aq) : Int).toNat * 2 + 1, none⟩) (Kd.R_far (p := ⟨go61, ((aq) : Int).toNat * 2, none⟩) (Kd.R_mono a8.out (fun k_ hk => (⟨hk, fun e_ => hk.1.2 (by rw [e_]; rfl)⟩ : _ ∧ k_ ≠ go61))) (fun _ hk => hk.2) (.int .u64 aY)) (fun _ hk => hk.2) (.int .u64 aZ)) (fun _ hk => ⟨hk.1.2, ⟨hk.1.1.2, hk.1.1.1⟩⟩)⟩
                    have aM : Aside0 (((bP.setCell ⟨go61, ((aq) : Int).toNat * 2, none⟩ (.int .u64 aY)).setCell ⟨go61, ((aq) : Int).toNat * 2 + 1, none⟩ (.int .u64 aZ)).heap[ai]? = some (.cells #[.int .i64 ad, .int .i64 ah, .int .i64 al, .slice (some bj) ab.length az] 26 (0, 0))) := ⟨by refine blk_far ?_ (by have h_ := Kd.R_ne au.out aa.out (by decide); intro e_; exact h_ (by rw [e_]; rfl)) _; refine blk_far ?_ (by have h_ := Kd.R_ne au.out aa.out (by decide); intro e_; exact h_ (by rw [e_]; rfl)) _; exact aa.out⟩
                    have aN : Aside0 (((bP.setCell ⟨go61, ((aq) : Int).toNat * 2, none⟩ (.int .u64 aY)).setCell ⟨go61, ((aq) : Int).toNat * 2 + 1, none⟩ (.int .u64 aZ)).heap[ap]? = some (.cells #[.int .u64 ae, .int .u64 af] 36 (0, 0))) := ⟨by refine blk_far ?_ (by have h_ := Kd.R_away au.out (fun _ hk => hk); intro e_; exact h_ (by rw [e_]; rfl)) _; refine blk_far ?_ (by have h_ := Kd.R_away au.out (fun _ hk => hk); intro e_; exact h_ (by rw [e_]; rfl)) _; exact am.out⟩
                    have ba : Aside0 (((bP.setCell ⟨go61, ((aq) : Int).toNat * 2, none⟩ (.int .u64 aY)).setCell ⟨go61, ((aq) : Int).toNat * 2 + 1, none⟩ (.int .u64 aZ)).heap[ax]? = some (.cells #[.int .i64 0, .int .i64 0, .int .i64 0, .slice none 0 0] 26 (0, 0))) := ⟨by refine blk_far ?_ (by have h_ := Kd.R_ne au.out ag.out (by decide); intro e_; exact h_ (by rw [e_]; rfl)) _; refine blk_far ?_ (by have h_ := Kd.R_ne au.out ag.out (by decide); intro e_; exact h_ (by rw [e_]; rfl)) _; exact ag.out⟩
                    have bx : Aside0 (Below w.heap.size w ((bP.setCell ⟨go61, ((aq) : Int).toNat * 2, none⟩ (.int .u64 aY)).setCell ⟨go61, ((aq) : Int).toNat * 2 + 1, none⟩ (.int .u64 aZ))) := ⟨by repeat (first | (with_reducible first | exact HB.out | apply below_alloc | apply pw_below_drewN | apply below_drew1 | refine below_set ?_ GB61.out | refine below_set ?_ GB61.out | refine below_set ?_ aw.out | refine below_set ?_ aG.out | refine below_set ?_ aK.out) | exact HB.out)⟩
                    generalize ((bP.setCell ⟨go61, ((aq) : Int).toNat * 2, none⟩ (.int .u64 aY)).setCell ⟨go61, ((aq) : Int).toNat * 2 + 1, none⟩ (.int .u64 aZ)) = gR at aA aC aD aE aM aN ba bx ⊢
                    have ay := aA
                    have au := aC
                    have a7 := aD
                    have a8 := aE
                    have aa := aM
                    have am := aN
                    have ag := ba
                    have HB := bx
                    clear aA aC aD aE aM aN ba bx
                    try go_wp2_with (first | ((with_reducible refine gate_builtin (b := .append) (xs := #[.tmp 81, .tmp 83]) rfl ?_); (try (refine gate_guard (by rfl) ?_; dsimp only)); at_builtin; refine Kd.S_append (Kd.slice 36 k36) (w0 := w) w.heap.size rfl (.tmp 81) (.tmp 83) 24 22 (.slice none 0 0) 24 rfl Tryd.underlying24 info22 rfl (by decide) (by omega) (.slice (some bk) ac.length bS) ac cL [.slice (some ⟨go61, 0, none⟩) ar.length bA] (fun k_ => k_ ≠ ap) (fun k_ => some k_ = (.slice (some ⟨go61, 0, none⟩) ar.length bA : Value).ownBlock) rfl rfl ?aP (fun k_ hk_ => ((Kd.R_mono (ok' := fun k_ => ((fun k_ => k_ ≠ ap)) k_ ∧ some k_ ≠ (.slice (some bk) ac.length bS : Value).ownBlock) (Kd.R_apart' (au.out) (Kd.S_typed ay.out) (by decide)) (fun k_ hk => ⟨hk.1, hk.2⟩))).1 k_ hk_.symm) ?aF ?aO ?aB ?aS ?aL ?_; (case aP => exact Kd.M_row (Kd.R_mono (Kd.R_tight rfl (Kd.R_mono (ok' := fun k_ => ((fun k_ => k_ ≠ ap)) k_ ∧ some k_ ≠ (.slice (some bk) ac.length bS : Value).ownBlock) (Kd.R_apart' (au.out) (Kd.S_typed ay.out) (by decide)) (fun k_ hk => ⟨hk.1, hk.2⟩))) (fun _ h_ => h_))); (case aB => exact HB.out); (case aF => exact (fun k_ hk => Kd.freshB am.out k_ hk)); (case aO => exact (Kd.S_mono ay.out (fun k_ hk => ⟨hk.2, fun e_ => hk.1 e_⟩))); (case aS => exact (below_size HB.out)); (case aL => have := el.out; omega); intro gL gS ho hb hg hat; rw [← em.out] at ho; have aA := aj (blk_grown aa.out hg (Kd.S_ne ay.out aa.out (by decide))); have aC := aj (blk_grown am.out hg (Kd.S_ne ay.out am.out (by decide))); have aD := aj (blk_grown ag.out hg (Kd.S_ne ay.out ag.out (by decide))); have aE := aj (Kd.R_after (ok := (fun k_ => some k_ ≠ (.slice (some ⟨go61, 0, none⟩) ar.length bA : Value).ownBlock ∧ k_ ≠ ap)) (Kd.R_mono a7.out (fun _ hk => ⟨⟨hk.2.1, hk.2.2⟩, hk.1⟩)) hg hat); have aM := aj (Kd.R_after (ok := (fun k_ => some k_ ≠ (.slice (some ⟨go61, 0, none⟩) ar.length bA : Value).ownBlock ∧ k_ ≠ ap)) (Kd.R_mono a8.out (fun _ hk => ⟨⟨hk.2.1, hk.2.2⟩, hk.1⟩)) hg hat); have aN := aj (hb); have ba := aj (ho); clear aa; clear am; clear ag; clear a7; clear a8; clear HB; clear ay; clear au; have aa := aA; have am := aC; have ag := aD; have a7 := aE; have a8 := aM; have HB := aN; have eo := ba; clear aA aC aD aE aM aN ba))
                    go_roundg k2
                    case measure => have := df.out; have := dg.out; omega
                    case rel => exact ⟨(aq), (d4), (wrap64 (av + 1)), (ae), (af), (by first | rfl | (simp; done) | (simp only [← bC] <;> (first | rfl | simp)) | (simp [*]; done) | (simp; rfl) | (simp; decide +kernel)), (by first | rfl | simp), H', ⟨by have := df.out; have := dg.out; omega⟩, ⟨by (with_reducible repeat (first | apply Kd.S_alloc | apply Kd.S_drewN | apply Kd.S_drew)); exact eo.out⟩, ⟨by exact aa.out⟩, ⟨by exact am.out⟩, ⟨by exact ag.out⟩, ⟨HB.out⟩⟩
                   ·rw [if_neg dy] at H
                    exact absurd H (by simp)
                  ·rw [if_neg dx] at H
                   exact absurd H (by simp)
                 ·rw [if_neg dw] at H
                  exact absurd H (by simp)
                ·rw [if_neg dv] at H
                 exact absurd H (by simp)
               ·rw [if_neg du] at H
                exact absurd H (by simp)
              ·rw [if_neg dt] at H
               exact absurd H (by simp)
             ·rw [if_neg dr] at H
              exact absurd H (by simp)
            ·rw [if_neg dq] at H
             exact absurd H (by simp)
           ·rw [if_neg dp] at H
            exact absurd H (by simp)
         ·rw [if_neg di] at H
          exact absurd H (by simp)
        ·rw [if_neg dh] at H
         exact absurd H (by simp)
       ·rw [if_neg cA] at H
        have c31b0 : decide (av < (ab.length : Int)) = false := decide_eq_false cA
        clear cA
        simp only [Option.some.injEq, Prod.mk.injEq] at H
        obtain ⟨rfl, rfl, rfl, rfl, rfl⟩ := H
        have gv := aW.out
        have gw := aX.out
        have gx := aU.out
        have gy := aQ.out
        have e0 : wr.cell? ⟨ai, 0, none⟩ = some (.int .i64 ad) := bq_ aa 0
        have e1 : wr.cell? ⟨ai, 1, none⟩ = some (.int .i64 ah) := bq_ aa 1
        have e2 : wr.cell? ⟨ai, 2, none⟩ = some (.int .i64 al) := bq_ aa 2
        have e3 : wr.cell? ⟨ai, 3, none⟩ = some (.slice aJ ab.length az) := bq_ aa 3
        have e4 := blk_frozen aa.out 0
        have e5 := blk_frozen aa.out 1
        have e6 := blk_frozen aa.out 2
        have e7 := blk_frozen aa.out 3
        obtain ⟨c0, da, eB⟩ := Kd.S_slice ay.out
        subst eB
        have gz := bc.out
        have gA := bb.out
        have e8 : wr.cell? ⟨ax, 0, none⟩ = some (.int .i64 0) := bq_ ag 0
        have e9 : wr.cell? ⟨ax, 1, none⟩ = some (.int .i64 0) := bq_ ag 1
        have fa : wr.cell? ⟨ax, 2, none⟩ = some (.int .i64 0) := bq_ ag 2
        have fb : wr.cell? ⟨ax, 3, none⟩ = some (.slice none 0 0) := bq_ ag 3
        have fc := blk_frozen ag.out 0
        have ff := blk_frozen ag.out 1
        have fh := blk_frozen ag.out 2
        have fi := blk_frozen ag.out 3
        go_wp2
        refine bodyPost_ret (results_ct rfl _ _ ax 26 #[.int .i64 ad, .int .i64 ah, .int .i64 al, .slice c0 ac.length da] (0, 0) _ rfl (by refine blk_put (cs := #[.int .i64 ad, .int .i64 ah, .int .i64 al, .slice none 0 0]) ?_ 3 _ rfl; refine blk_put (cs := #[.int .i64 ad, .int .i64 ah, .int .i64 0, .slice none 0 0]) ?_ 2 _ rfl; refine blk_put (cs := #[.int .i64 ad, .int .i64 0, .int .i64 0, .slice none 0 0]) ?_ 1 _ rfl; refine blk_put (cs := #[.int .i64 0, .int .i64 0, .int .i64 0, .slice none 0 0]) ?_ 0 _ rfl; refine blk_far ?_ aQ.out _; exact ag.out) Tryd.underlying26 rfl (by kernel_rfl)) rfl ?_
        exact ⟨_, by first | rfl | (simp [errW_none, errW_some] <;> rfl) | (simp [*, errW_none, errW_some] <;> rfl), by (with_reducible repeat (first | apply Kd.S_alloc | apply Kd.S_drewN | apply Kd.S_drew)); exact Kd.S_mono (Kd.S_far (p := ⟨ax, 3, none⟩) (Kd.S_far (p := ⟨ax, 2, none⟩) (Kd.S_far (p := ⟨ax, 1, none⟩) (Kd.S_far (p := ⟨ax, 0, none⟩) (Kd.S_far (p := ⟨ai, 3, none⟩) (Kd.S_types (Kd.S_types ay.out aa.out (by decide)) ag.out (by decide)) (fun _ hk => hk.1.2) (.slice c0 ac.length da)) (fun _ hk => hk.2) (.int .i64 ad)) (fun _ hk => hk.2) (.int .i64 ah)) (fun _ hk => hk.2) (.int .i64 al)) (fun _ hk => hk.2) (.slice c0 ac.length da)) (fun _ hk => trivial), by repeat (first | (with_reducible first | exact HB.out | apply below_alloc | apply pw_below_drewN | apply below_drew1 | refine below_set ?_ aw.out | refine below_set ?_ aG.out | refine below_set ?_ aK.out) | exact HB.out)⟩
 ·replace c5 := Bool.eq_false_iff.mpr c5
  subst c5
  have H1 : (some (0, 0, 0, ([] : List (List (S36))), 1)) = some (r1, r2, r3, r4, r5) := by rw [if_neg (show ¬ (false = true) by decide)] at H; exact H
  clear H
  have H := H1
  clear H1
  simp only [Option.some.injEq, Prod.mk.injEq] at H
  obtain ⟨rfl, rfl, rfl, rfl, rfl⟩ := H
  go_enter Tryd.func33, Tryd.ntmps33
  go_wp2_with (first | ((with_reducible refine gate_dst (N := 3) rfl ?_); (try (refine gate_guard (by rfl) ?_; dsimp only)); refine box_event ?hg (N := 3) ?hd (cs := #[.int .i64 ad, .int .i64 ah, .int .i64 al, .slice aJ ab.length az]) (t := 26) ?hr ?_; (case hd => rfl); (case hg => rfl); (case hr => first | (go_simp; done) | (go_simp; rfl)); intro ai hg gT hbox hb; have aA := aj (below_step HB.out hb); have aC := aj (hbox); have aD := aj ((by rw [hg]; exact (below_size HB.out) : w.heap.size ≤ ai)); have aE := aj ((by rw [hg]; exact (below_size HB.out) : w.heap.size ≤ ai)); clear HB; have HB := aA; have aa := aC; have ed := aD; have aw := aE; clear aA aC aD aE; clear hb hbox hg) | ((with_reducible refine gate_dst (N := 5) rfl ?_); (try (refine gate_guard (by rfl) ?_; dsimp only)); refine box_event ?hg (N := 5) ?hd (cs := #[.int .u64 aH, .int .u64 aI]) (t := 36) ?hr ?_; (case hd => rfl); (case hg => rfl); (case hr => first | (go_simp; done) | (go_simp; rfl)); intro ap hg gU hbox hb; have aA := aj (blk_below aa.out hb); have aC := aj (below_step HB.out hb); have aD := aj (hbox); have aE := aj ((by rw [hg]; exact (below_size HB.out) : w.heap.size ≤ ap)); have aM := aj ((by rw [hg]; exact (below_size HB.out) : w.heap.size ≤ ap)); have aN := aj ((by rw [hg]; exact Nat.ne_of_lt (blk_lt aa.out) : ai ≠ ap)); have ba := aj ((by rw [hg]; exact Nat.ne_of_gt (blk_lt aa.out) : ap ≠ ai)); clear aa; clear HB; have aa := aA; have HB := aC; have am := aD; have ee := aE; have aG := aM; have aW := aN; have aX := ba; clear aA aC aD aE aM aN ba; clear hb hbox hg) | ((with_reducible refine gate_dst (N := 6) rfl ?_); (try (refine gate_guard (by rfl) ?_; dsimp only)); refine box_event ?hg (N := 6) ?hd (cs := #[.int .i64 0, .int .i64 0, .int .i64 0, .slice none 0 0]) (t := 26) ?hr ?_; (case hd => rfl); (case hg => rfl); (case hr => first | (go_simp; done) | (go_simp; rfl)); intro ax hg dA hbox hb; have aA := aj (blk_below aa.out hb); have aC := aj (blk_below am.out hb); have aD := aj (below_step HB.out hb); have aE := aj (hbox); have aM := aj ((by rw [hg]; exact (below_size HB.out) : w.heap.size ≤ ax)); have aN := aj ((by rw [hg]; exact (below_size HB.out) : w.heap.size ≤ ax)); have ba := aj ((by rw [hg]; exact Nat.ne_of_lt (blk_lt aa.out) : ai ≠ ax)); have bx := aj ((by rw [hg]; exact Nat.ne_of_gt (blk_lt aa.out) : ax ≠ ai)); have bV := aj ((by rw [hg]; exact Nat.ne_of_lt (blk_lt am.out) : ap ≠ ax)); have bW := aj ((by rw [hg]; exact Nat.ne_of_gt (blk_lt am.out) : ax ≠ ap)); clear aa; clear am; clear HB; have aa := aA; have am := aC; have HB := aD; have ag := aE; have ef := aM; have aK := aN; have aU := ba; have aQ := bx; have bb := bV; have bc := bW; clear aA aC aD aE aM aN ba bx bV bW; clear hb hbox hg; have gB := aW.out; have gC := aX.out; have gD := aU.out; have gE := aQ.out; have fj : dA.cell? ⟨ai, 0, none⟩ = some (.int .i64 ad) := bq_ aa 0; have fk : dA.cell? ⟨ai, 1, none⟩ = some (.int .i64 ah) := bq_ aa 1; have fm : dA.cell? ⟨ai, 2, none⟩ = some (.int .i64 al) := bq_ aa 2; have fo : dA.cell? ⟨ai, 3, none⟩ = some (.slice aJ ab.length az) := bq_ aa 3; have fq := blk_frozen aa.out 0; have fs := blk_frozen aa.out 1; have fu := blk_frozen aa.out 2; have fv := blk_frozen aa.out 3) | ((with_reducible refine gate_callee (f := 17) rfl ?_); refine goesL_ (some 12) rfl rfl Tryd.func17 (by kernel_rfl) rfl #[.agg #[.int .i64 ad, .int .i64 ah, .int .i64 al, .slice aJ ab.length az]] rfl (by (try simp only [List.map_toArray, List.map_cons, List.map_nil]); first | done | rfl | (go_simp; done)) ?_; (with_reducible refine (attestorref07_Valid.calls k ad ah al _ _ ab false _ ?side1 ?side2 A4.out).mono ?_); (case side1 => exact (Kd.C_below bB.out HB.out)); (case side2 => exact dd.out); rintro e dB ⟨rfl, hb⟩; refine ⟨_, rfl, ?_⟩; have aA := aj (blk_below aa.out hb); have aC := aj (blk_below am.out hb); have aD := aj (blk_below ag.out hb); have aE := aj (below_step HB.out hb); clear aa; clear am; clear ag; clear HB; have aa := aA; have am := aC; have ag := aD; have HB := aE; clear aA aC aD aE; (try clear hb); (try clear hb2); (try clear hk); (try clear hi); have gF := bc.out; have gG := bb.out; have fw : dB.cell? ⟨ax, 0, none⟩ = some (.int .i64 0) := bq_ ag 0; have fx : dB.cell? ⟨ax, 1, none⟩ = some (.int .i64 0) := bq_ ag 1; have fy : dB.cell? ⟨ax, 2, none⟩ = some (.int .i64 0) := bq_ ag 2; have fz : dB.cell? ⟨ax, 3, none⟩ = some (.slice none 0 0) := bq_ ag 3; have fA := blk_frozen ag.out 0; have fB := blk_frozen ag.out 1; have fC := blk_frozen ag.out 2; have fD := blk_frozen ag.out 3))
  refine bodyPost_ret (results_ct rfl _ _ ax 26 #[.int .i64 0, .int .i64 0, .int .i64 0, .slice none 0 0] (0, 0) _ rfl (by refine blk_put (cs := #[.int .i64 0, .int .i64 0, .int .i64 0, .slice none 0 0]) ?_ 3 _ rfl; refine blk_put (cs := #[.int .i64 0, .int .i64 0, .int .i64 0, .slice none 0 0]) ?_ 2 _ rfl; refine blk_put (cs := #[.int .i64 0, .int .i64 0, .int .i64 0, .slice none 0 0]) ?_ 1 _ rfl; refine blk_put (cs := #[.int .i64 0, .int .i64 0, .int .i64 0, .slice none 0 0]) ?_ 0 _ rfl; exact ag.out) Tryd.underlying26 rfl (by kernel_rfl)) rfl ?_
  exact ⟨_, by first | rfl | (simp [errW_none, errW_some] <;> rfl) | (simp [*, errW_none, errW_some] <;> rfl), by first | exact Kd.S_nil _ _ _ _ _ | exact Kd.N_nil _ _ _ _ _ | exact Kd.V_nil _ _ _ _ _ | exact Kd.Q_nil _ _ _ _ _ | exact Kd.R_nil _ _ _ _ _, by repeat (first | (with_reducible first | exact HB.out | apply below_alloc | apply pw_below_drewN | apply below_drew1 | refine below_set ?_ aw.out | refine below_set ?_ aG.out | refine below_set ?_ aK.out) | exact HB.out)⟩

end Go.Proofs.YtpnpmeogffodgaaDoor.Q
end
section
namespace Go.Proofs.YtpnpmeogffodgaaDoor.Q
open Go.RowKit Go.Proofs.YtpnpmeogffodgaaDoorW.PrintWords Go.Proofs.YtpnpmeogffodgaaDoorW.PrintLast Go.Proofs.YtpnpmeogffodgaaDoorW.PrintMore
set_option linter.unusedVariables false
set_option linter.unusedSimpArgs false
/-- Headers, each as an element of one cell. -/
def hd1 (H : List Value) : List (List Value) := H.map fun v => [v]
theorem hd1_len (H : List Value) : (hd1 H).length = H.length := by simp [hd1]
theorem hd1_get {H : List Value} {j : Nat} {u : Value} (h : H[j]? = some u) : (hd1 H)[j]? = some [u] := by simp [hd1, h]
theorem hd1_set (H : List Value) (j : Nat) (u : Value) : (hd1 H).set j [u] = hd1 (H.set j u) := by simp [hd1, List.map_set]
/-- The headers of rows that are read. -/
theorem C_hdrs {w : World} {A : Option Addr} {ls : List (List S36)} (h : Kd.C (Kd.slice 36 k36) w A ls.length ls) : ∃ H : List Value, H.length = ls.length ∧ Kd.C (Kd.raw 1) w A ls.length (hd1 H) ∧ ∀ (j : Nat) (l : List S36), ls[j]? = some l → ∃ (A : Option Addr) (c : Nat), H[j]? = some (Value.slice A l.length c) ∧ l.length ≤ c ∧ Kd.C k36 w A l.length l := by
  have hle := h.2.1
  by_cases hn : 0 < ls.length
  · obtain ⟨ad, hA, hcc⟩ := h.2.2 hn
    subst hA
    have hx : ∀ j : Nat, ∃ v : Value, ∀ l : List S36, ls[j]? = some l → (∃ (A : Option Addr) (c : Nat), v = Value.slice A l.length c ∧ l.length ≤ c ∧ Kd.C k36 w A l.length l) ∧ w.cell? (ad.add j) = some v := by
      intro j
      cases hj : ls[j]? with
      | none => exact ⟨undef, fun l hl => by cases hl⟩
      | some l0 =>
        obtain ⟨c, hcl, ⟨A, c0, rfl, h1, h2⟩, hcell⟩ := hcc j l0 hj
        refine ⟨Value.slice A l0.length c0, fun l hl => ?_⟩
        obtain rfl := Option.some.inj hl
        have h0 := hcell 0 _ rfl
        simp only [show (Kd.slice 36 k36).sz = 1 from rfl, Nat.mul_one, Nat.add_zero] at h0
        exact ⟨⟨A, c0, rfl, h1, h2⟩, h0⟩
    obtain ⟨F, hF⟩ := Classical.axiomOfChoice hx
    have hget : ∀ (j : Nat) (l : List S36), ls[j]? = some l → ((List.range ls.length).map F)[j]? = some (F j) := by
      intro j l hl
      have := (List.getElem?_eq_some_iff.mp hl).1
      simp [this]
    refine ⟨(List.range ls.length).map F, by simp, ⟨by rw [hd1_len]; simp, hle, fun _ => ⟨ad, rfl, fun j p hp => ?_⟩⟩, fun j l hl => ?_⟩
    · have hlt : j < ls.length := by
        have := (List.getElem?_eq_some_iff.mp hp).1
        rw [hd1_len] at this
        simpa using this
      have hl := List.getElem?_eq_getElem hlt
      have e := hd1_get (hget j _ hl)
      rw [e] at hp
      obtain rfl := Option.some.inj hp
      obtain ⟨⟨A, c, hv, _, _⟩, hcell⟩ := hF j _ hl
      refine ⟨[F j], rfl, ⟨rfl, rfl, fun u hu => ?_⟩, fun i u hi => ?_⟩
      · rw [List.mem_singleton.mp hu, hv]; rfl
      · cases i with
        | zero =>
          obtain rfl := Option.some.inj hi
          simp only [show (Kd.raw 1).sz = 1 from rfl, Nat.mul_one, Nat.add_zero]
          exact hcell
        | succ i => simp at hi
    · obtain ⟨⟨A, c, hv, h1, h2⟩, _⟩ := hF j l hl
      exact ⟨A, c, by rw [hget j l hl, hv], h1, h2⟩
  · have h0 : ls = [] := List.eq_nil_of_length_eq_zero (by omega)
    subst h0
    exact ⟨[], rfl, ⟨rfl, Nat.zero_le _, fun h => absurd h (Nat.lt_irrefl 0)⟩, fun j l hl => by simp at hl⟩
/-- A header cell of an own row of headers. -/
theorem hd_cell {W : World} {base gO n c : Nat} {ok : Nat → Prop} {H : List Value} (h : Kd.R (Kd.raw 1) 22 W base ok (.slice (some ⟨gO, 0, none⟩) n c) (hd1 H)) (j : Nat) (u : Value) (hj : H[j]? = some u) : W.cell? ⟨gO, j, none⟩ = some u := by
  obtain ⟨hn, _, hC⟩ := Kd.R_reads' h
  have hlt := (List.getElem?_eq_some_iff.mp hj).1
  obtain ⟨ad, e, hc⟩ := hC.2.2 (by rw [hd1_len]; omega)
  injection e with e
  subst e
  obtain ⟨cs, hl, ⟨rfl, _, _⟩, hcell⟩ := hc j _ (hd1_get hj)
  have := hcell 0 u rfl
  simp only [show (Kd.raw 1).sz = 1 from rfl, Nat.mul_one, Nat.add_zero] at this
  rw [add_plain] at this
  exact this
/-- Own rows, told by headers, each of its own block. -/
structure RwI (b : Nat) (H : List Value) (pre : List (List S36)) (W : World) : Prop where
  row : ∀ (j : Nat) (l : List S36), pre[j]? = some l → ∃ u : Value, H[j]? = some u ∧ Kd.R k36 36 W b (fun k => some k = u.ownBlock) u l
  ne : ∀ (j j' : Nat) (u u' : Value) (k : Nat), j < pre.length → j' < pre.length → H[j]? = some u → H[j']? = some u' → u.ownBlock = some k → u'.ownBlock = some k → j = j'
theorem RwI.move {b : Nat} {H : List Value} {pre : List (List S36)} {W W1 : World} (h : RwI b H pre W) (hm : ∀ k, b ≤ k → k < W.heap.size → (∃ cs, W.heap[k]? = some (Obj.cells cs 36 (0, 0))) → W1.heap[k]? = W.heap[k]?) : RwI b H pre W1 := by
  refine ⟨fun j l hl => ?_, h.ne⟩
  obtain ⟨u, hu, hr⟩ := h.row j l hl
  refine ⟨u, hu, Kd.R_mono (Kd.R_step (Kd.R_bound hr) fun k hk _ => ?_) fun k hk => hk.1⟩
  obtain ⟨_, h1, h2, q, hq, cs, hc⟩ := hk
  obtain rfl : q = 36 := by simpa [k36, Kd.iso, Kd.pair, Kd.int, Kd.scalar] using hq
  exact hm k h1 h2 ⟨cs, hc⟩
theorem RwI.below {b : Nat} {H : List Value} {pre : List (List S36)} {W W1 : World} (h : RwI b H pre W) (hb : Below W.heap.size W W1) : RwI b H pre W1 := h.move fun k _ hk _ => hb.block k hk
theorem RwI.setLow {b : Nat} {H : List Value} {pre : List (List S36)} {W : World} (h : RwI b H pre W) {g : Nat} (hg : g < b) (j : Nat) (u : Value) : RwI b H pre (W.setCell ⟨g, j, none⟩ u) := h.move fun k hk _ _ => Below.heap_setCell W ⟨g, j, none⟩ u k (by show k ≠ g; omega)
theorem RwI.setOther {b : Nat} {H : List Value} {pre : List (List S36)} {W : World} (h : RwI b H pre W) {g t : Nat} {cells : Array Value} (hg : W.heap[g]? = some (.cells cells t (0, 0))) (ht : t ≠ 36) (j : Nat) (u : Value) : RwI b H pre (W.setCell ⟨g, j, none⟩ u) := h.move fun k _ _ hc => Below.heap_setCell W ⟨g, j, none⟩ u k (fun e : k = g => by
  obtain ⟨cs, hc⟩ := hc
  subst e
  rw [hc] at hg
  injection hg with e1
  injection e1 with _ e2
  exact ht e2.symm)
/-- The header at a place is put anew. -/
theorem hd_put {W : World} {base gO n c : Nat} {H : List Value} (h : Kd.R (Kd.raw 1) 22 W base (fun _ => True) (.slice (some ⟨gO, 0, none⟩) n c) (hd1 H)) (j : Nat) (hj : j < n) (u : Value) (hu : u.oneCell' = true) : Kd.R (Kd.raw 1) 22 (W.setCell ⟨gO, j, none⟩ u) base (fun _ => True) (.slice (some ⟨gO, 0, none⟩) n c) (hd1 (H.set j u)) := by
  obtain ⟨ce, hcl, hMe, hcc, hfr⟩ := Kd.R_elem h [] (j : Int) (by omega) (by omega)
  have hce : ce.length = 1 := hcl
  obtain ⟨x, rfl⟩ : ∃ x, ce = [x] := by
    match ce, hce with
    | [x], _ => exact ⟨x, rfl⟩
  have hP := (Kd.R_seg h (j : Int) (by omega) (by omega) (seg := [u]) (j := 0) hcl hcc (show 1 ≤ 1 from Nat.le_refl _) (x' := [u]) (okp := fun k => True ∧ k ≠ gO) (show Kd.M (Kd.raw 1) W base _ [u] [u] from ⟨rfl, rfl, fun y hy => by rw [List.mem_singleton.mp hy]; exact hu⟩) (fun _ hk => hk)).1
  simp only [show (Kd.raw 1).sz = 1 from rfl, Nat.mul_one, Nat.add_zero, Int.toNat_natCast] at hP
  rw [hd1_set] at hP
  exact hP
theorem hd_far {W : World} {base gO n c : Nat} {H : List Value} (h : Kd.R (Kd.raw 1) 22 W base (fun _ => True) (.slice (some ⟨gO, 0, none⟩) n c) (hd1 H)) {g : Nat} (hne : gO ≠ g) (j : Nat) (u : Value) : Kd.R (Kd.raw 1) 22 (W.setCell ⟨g, j, none⟩ u) base (fun _ => True) (.slice (some ⟨gO, 0, none⟩) n c) (hd1 H) :=
  Kd.R_mono (Kd.R_far (p := ⟨g, j, none⟩) (Kd.R_tight rfl h) (fun k hk => by
    have e : k = gO := Option.some.inj hk
    subst e
    exact hne) u) (fun _ _ => trivial)
/-- A digest of an own row is put anew. -/
theorem dg_put {W : World} {base g n c : Nat} {ok : Nat → Prop} {l : List S36} (h : Kd.R k36 36 W base ok (.slice (some ⟨g, 0, none⟩) n c) l) (i : Nat) (hi : i < n) (d : S36) : Kd.R k36 36 ((W.setCell ⟨g, i * 2, none⟩ (.int .u64 d.f0)).setCell ⟨g, i * 2 + 1, none⟩ (.int .u64 d.f1)) base ok (.slice (some ⟨g, 0, none⟩) n c) (l.set i d) := by
  obtain ⟨ce, hcl, hMe, hcc, hfr⟩ := Kd.R_elem h z36 (i : Int) (by omega) (by omega)
  obtain rfl := k36_openM hMe
  have hP := (Kd.R_seg h (i : Int) (by omega) (by omega) (seg := [.int .u64 d.f0, .int .u64 d.f1]) (j := 0) hcl hcc (show 2 ≤ 2 from by decide) (x' := d) (k36_mkM _ _ _ d) (fun _ hk => hk)).1
  simp only [show (k36).sz = 2 from rfl, Nat.mul_one, Nat.add_zero, Int.toNat_natCast] at hP
  exact hP
/-- A new row comes behind the own rows. -/
theorem RwI.snoc {b : Nat} {H : List Value} {pre : List (List S36)} {W : World} {u : Value} {l : List S36} {N : Nat} (h : RwI b H pre W) (hr : Kd.R k36 36 W N (fun _ => True) u l) (hN : b ≤ N) (hold : ∀ j v k, j < pre.length → H[j]? = some v → v.ownBlock = some k → k < N) (hl : pre.length < H.length) : RwI b (H.set pre.length u) (pre ++ [l]) W := by
  have hun : ∀ k, u.ownBlock = some k → N ≤ k := Kd.R_base hr
  have get : ∀ j v, j < (pre ++ [l]).length → (H.set pre.length u)[j]? = some v → (j < pre.length ∧ H[j]? = some v) ∨ (j = pre.length ∧ v = u) := by
    intro j v hj hv
    rw [List.getElem?_set] at hv
    split at hv
    · rename_i e
      subst e
      (try rw [if_pos hl] at hv)
      exact Or.inr ⟨rfl, (Option.some.inj hv).symm⟩
    · rename_i e
      rw [List.length_append, List.length_singleton] at hj
      exact Or.inl ⟨by omega, hv⟩
  refine ⟨fun j m hm => ?_, fun j j' v v' k hj hj' hv hv' hk hk' => ?_⟩
  · have hlt := (List.getElem?_eq_some_iff.mp hm).1
    rw [List.length_append, List.length_singleton] at hlt
    by_cases hj : j < pre.length
    · rw [List.getElem?_append_left hj] at hm
      obtain ⟨v, hv, hr0⟩ := h.row j m hm
      exact ⟨v, by rw [List.getElem?_set, if_neg (by omega)]; exact hv, hr0⟩
    · obtain rfl : j = pre.length := by omega
      rw [List.getElem?_append_right (Nat.le_refl _), Nat.sub_self] at hm
      obtain rfl := Option.some.inj hm
      exact ⟨u, by rw [List.getElem?_set, if_pos rfl, if_pos hl], Kd.R_lower (Kd.R_tight rfl hr) hN⟩
  · rcases get j v hj hv with ⟨h1, h2⟩ | ⟨h1, rfl⟩
    · rcases get j' v' hj' hv' with ⟨h3, h4⟩ | ⟨h3, rfl⟩
      · exact h.ne j j' v v' k h1 h3 h2 h4 hk hk'
      · have := hold j v k h1 h2 hk
        have := hun k hk'
        omega
    · rcases get j' v' hj' hv' with ⟨h3, h4⟩ | ⟨h3, rfl⟩
      · have := hold j' v' k h3 h4 hk'
        have := hun k hk
        omega
      · rw [h1, h3]
theorem RwI.old {b : Nat} {H : List Value} {pre : List (List S36)} {W : World} (h : RwI b H pre W) (j : Nat) (v : Value) (k : Nat) (hj : j < pre.length) (hv : H[j]? = some v) (hk : v.ownBlock = some k) : b ≤ k ∧ k < W.heap.size := by
  obtain ⟨u, hu, hr⟩ := h.row j _ (List.getElem?_eq_getElem hj)
  rw [hv] at hu
  obtain rfl := Option.some.inj hu
  exact ⟨Kd.R_base hr k hk, Kd.R_lt hr k hk⟩
/-- The last row is written into. -/
theorem RwI.put {b g n c : Nat} {H : List Value} {pre : List (List S36)} {l : List S36} {W : World} (h : RwI b H (pre ++ [l]) W) (hg : H[pre.length]? = some (.slice (some ⟨g, 0, none⟩) n c)) (i : Nat) (hi : i < n) (d : S36) : RwI b H (pre ++ [l.set i d]) ((W.setCell ⟨g, i * 2, none⟩ (.int .u64 d.f0)).setCell ⟨g, i * 2 + 1, none⟩ (.int .u64 d.f1)) := by
  refine ⟨fun j m hm => ?_, fun j j' v v' k hj hj' => h.ne j j' v v' k (by simpa using hj) (by simpa using hj')⟩
  have hlt := (List.getElem?_eq_some_iff.mp hm).1
  rw [List.length_append, List.length_singleton] at hlt
  by_cases hj : j < pre.length
  · rw [List.getElem?_append_left hj] at hm
    obtain ⟨v, hv, hr0⟩ := h.row j m (by rw [List.getElem?_append_left hj]; exact hm)
    have hne : ∀ k, some k = v.ownBlock → k ≠ g := fun k hk e => by
      subst e
      have := h.ne j pre.length v _ k (by simp; omega) (by simp) hv hg hk.symm rfl
      omega
    exact ⟨v, hv, Kd.R_far (p := ⟨g, _, none⟩) (Kd.R_far (p := ⟨g, _, none⟩) hr0 hne _) hne _⟩
  · obtain rfl : j = pre.length := by omega
    rw [List.getElem?_append_right (Nat.le_refl _), Nat.sub_self] at hm
    obtain rfl := Option.some.inj hm
    obtain ⟨v, hv, hr0⟩ := h.row pre.length l (by rw [List.getElem?_append_right (Nat.le_refl _), Nat.sub_self]; rfl)
    rw [hg] at hv
    obtain rfl := Option.some.inj hv
    exact ⟨_, hg, dg_put hr0 i hi d⟩
/-- Rows of rows out of their headers. -/
theorem S_rows {W : World} {base : Nat} {v : Value} {H : List Value} {xs : List (List S36)} (h : Kd.R (Kd.raw 1) 22 W base (fun _ => True) v (hd1 H)) (hl : H.length = xs.length) (hr : RwI base H xs W) : Kd.S (Kd.slice 36 k36) 22 W base (fun _ => True) v xs := by
  have hf : ∀ k : Nat, ∃ j : Nat, ∀ j' u, j' < xs.length → H[j']? = some u → u.ownBlock = some k → j = j' := by
    intro k
    by_cases hx : ∃ (j : Nat) (u : Value), j < xs.length ∧ H[j]? = some u ∧ u.ownBlock = some k
    · obtain ⟨j, u, h1, h2, h3⟩ := hx
      exact ⟨j, fun j' u' g1 g2 g3 => hr.ne j j' u u' k h1 g1 h2 g2 h3 g3⟩
    · exact ⟨0, fun j' u' g1 g2 g3 => absurd ⟨j', u', g1, g2, g3⟩ hx⟩
  obtain ⟨F, hF⟩ := Classical.axiomOfChoice hf
  have hty := Kd.R_typed h
  obtain ⟨_, inner, ho, hi⟩ := h
  refine ⟨F, fun _ _ => trivial, inner, ?_, ?_, fun j p hp => ?_⟩
  · rw [List.length_zipIdx, ← hl, ← hd1_len]; exact ho
  · have := hi.1
    rw [hd1_len, hl] at this
    rw [List.length_zipIdx]
    exact this
  · rw [List.getElem?_zipIdx, Nat.zero_add] at hp
    obtain ⟨l, hj, rfl⟩ := Option.map_eq_some_iff.1 hp
    obtain ⟨u, hu, hru⟩ := hr.row j l hj
    have hM := hi.2 j [u] (hd1_get hu)
    refine ⟨u, hM.1, Kd.R_mono hru fun k hk => ⟨⟨trivial, fun e => ?_⟩, hF k j u (List.getElem?_eq_some_iff.mp hj).1 hu hk.symm⟩⟩
    obtain ⟨c1, h1⟩ := hty k e.symm
    obtain ⟨c2, h2⟩ := Kd.R_typed hru k hk.symm
    rw [h1] at h2
    injection h2 with e1
    injection e1 with _ e2
    exact absurd e2 (by decide)
end Go.Proofs.YtpnpmeogffodgaaDoor.Q
end
section
namespace Go.Proofs.YtpnpmeogffodgaaDoor.Q
open Go.RowKit Go.Proofs.YtpnpmeogffodgaaDoorW.PrintWords Go.Proofs.YtpnpmeogffodgaaDoorW.PrintLast Go.Proofs.YtpnpmeogffodgaaDoorW.PrintMore
set_option linter.unusedVariables false
set_option linter.unusedSimpArgs false
/-- The leaf of a level: the one that came in, or the node of the pair below. -/
def leafL (f : Int) : Option (List S36) → Nat → S36 → Option S36
  | none, _, d => some d
  | some p, i, _ => if 2 * i + 1 < p.length then (sponge_Node.f 200 f (p.getD (2 * i) z36).f0 (p.getD (2 * i) z36).f1 (p.getD (2 * i + 1) z36).f0 (p.getD (2 * i + 1) z36).f1).bind fun n => some ⟨n.1, n.2⟩ else none
/-- The levels with another leaf. -/
def replL (f : Int) : Option (List S36) → List (List S36) → Nat → S36 → Option (List (List S36))
  | _, [], _, _ => some []
  | p, row :: rest, i, d => (leafL f p i d).bind fun x => if i < row.length ∧ row.length ≤ 1048576 then (replL f (some (row.set i x)) rest (i / 2) x).bind fun r => some (row.set i x :: r) else none
def tree_Replace.f (k : Nat) (af ag ah : Int) (ab : List (List S36)) (a1 d0 d1 : Int) : Option (Int × Int × Int × List (List S36) × Int) :=
  (tree_place.f k af ag ah ab a1).bind fun e => if e = 0 then ((tree_proper.f af [⟨d0, d1⟩]).bind fun p => if p = true then (if 0 ≤ a1 ∧ 0 < ab.length ∧ ab.length ≤ 1000 then (replL af none ab a1.toNat ⟨d0, d1⟩).bind fun r => some (af, ag, ah, r, 0) else none) else some (0, 0, 0, [], 2)) else some (0, 0, 0, [], e)
theorem tree_Replace.mono : ∀ a0 a1 a2 a3 a4 a5 a6 k, LeO (tree_Replace.f k a0 a1 a2 a3 a4 a5 a6) (tree_Replace.f (k + 1) a0 a1 a2 a3 a4 a5 a6) := by
  intro a0 a1 a2 a3 a4 a5 a6 k r h
  unfold tree_Replace.f at h ⊢
  obtain ⟨e, he, h⟩ := Option.bind_eq_some_iff.mp h
  rw [tree_place.mono _ _ _ _ _ _ _ he, Option.bind_some]
  exact h
theorem R_low {α : Type} {d : Kd α} {e b : Nat} {ok : Nat → Prop} {W : World} {v : Value} {xs : List α} (h : d.R e W b ok v xs) {g : Nat} (hg : g < b) (j : Nat) (u : Value) : d.R e (W.setCell ⟨g, j, none⟩ u) b ok v xs :=
  Kd.R_mono (Kd.R_step (Kd.R_bound h) (fun k hk _ => Below.heap_setCell W ⟨g, j, none⟩ u k (by have := hk.2.1; show k ≠ g; omega))) (fun _ hk => hk.1)
theorem rowsC (A : Option Addr) (c n : Nat) (H : List Value) (hn : H.length = n) (w : World) (hr : Kd.C (Kd.raw 1) w A n (hd1 H)) (hc : n ≤ c) (h1 : n ≤ 1000) : Calls Tryd.prog 53 #[.slice A n c] w fun e w' => ∃ bm : Value, e = .returned bm ∧ Kd.R (Kd.raw 1) 22 w' w.heap.size (fun _ => True) bm (hd1 H) ∧ Below w.heap.size w w' := by
  obtain rfl : (hd1 H).length = n := by rw [hd1_len]; exact hn
  refine rows_Clone.calls A c (hd1 H) (hd1 H) w hr hc ?_
  unfold rows_Clone.f
  rw [Option.bind_some, if_pos (by rw [List.length_nil]; omega)]
  rfl
set_option maxHeartbeats 4000000 in
set_option maxRecDepth 100000 in
theorem replace_place (k : Nat) (af ag ah : Int) (ai : Option Addr) (ak : Nat) (ab : List (List S36)) (a1 d0 d1 : Int) (w : World) (aw : Kd.C (Kd.slice 36 k36) w ai ab.length ab) (ax : ab.length ≤ ak) (hrG : GL w) (e : Int) (h1 : tree_place.f k af ag ah ab a1 = some e) (he : e ≠ 0) : Calls Tryd.prog 32 #[.agg #[.int .i64 af, .int .i64 ag, .int .i64 ah, .slice ai ab.length ak], .int .i64 a1, .agg #[.int .u64 d0, .int .u64 d1]] w fun e' w' => e' = .returned (.tuple #[.agg #[.int .i64 0, .int .i64 0, .int .i64 0, .slice none 0 0], .int .i64 e]) ∧ Below w.heap.size w w' := by
  have hu26 := Tryd.underlying26
  have hu36 := Tryd.underlying36
  have hu24 := Tryd.underlying24
  have hu22 := Tryd.underlying22
  obtain ⟨w0, aC⟩ : ∃ w0, w0 = w := ⟨_, rfl⟩
  generalize hSS : (fun _ : Nat => False) = S
  have HS : Aside0 (Stp w0 w S w) := ⟨by rw [aC]; exact Below.refl _ _, Kept.refl _ _⟩
  have HW := aj aC
  have a8 : Aside0 (Kd.C (Kd.slice 36 k36) w0 ai ab.length ab) := ⟨by rw [aC]; exact aw⟩
  have a9 := aj ax
  have HRG : Aside0 (GL w0) := ⟨by rw [aC]; exact hrG⟩
  clear hSS aC aw ax hrG
  have ba := aj h1
  clear h1
  have he0 : (e != 0) = true := bne_iff_ne.mpr he
  clear he
  go_enter Tryd.func32, Tryd.ntmps32
  go_wp2_with (first
    | ((with_reducible refine gate_dst (N := 3) rfl ?_); refine box_event ?hg (N := 3) ?hd (cs := #[.int .i64 af, .int .i64 ag, .int .i64 ah, .slice ai ab.length ak]) (t := 26) ?hr ?_; (case hd => rfl); (case hg => rfl); (case hr => first | (go_simp; done) | (go_simp; rfl)); intro g3 xg w1 y_ hb; skip; have bi := aj (stp_new HS.out xg); replace HS := aj (show Stp w0 w S w1 from stp_below HS.out hb); have aa := aj y_; clear xg y_ hb; skip)
    | ((with_reducible refine gate_dst (N := 5) rfl ?_); refine box_event ?hg (N := 5) ?hd (cs := #[.int .u64 d0, .int .u64 d1]) (t := 36) ?hr ?_; (case hd => rfl); (case hg => rfl); (case hr => first | (go_simp; done) | (go_simp; rfl)); intro g5 xg w2 y_ hb; skip; have aB := aj (new_ne aa.out xg); have aV := aj aB.out.symm; have bd := aj (stp_new HS.out xg); replace aa := aj (show w2.heap[g3]? = some (.cells #[.int .i64 af, .int .i64 ag, .int .i64 ah, .slice ai ab.length ak] 26 (0, 0)) from blk_below aa.out hb); replace HS := aj (show Stp w0 w S w2 from stp_below HS.out hb); have ac := aj y_; clear xg y_ hb; skip)
    | ((with_reducible refine gate_dst (N := 6) rfl ?_); refine box_event ?hg (N := 6) ?hd (cs := #[.int .i64 0, .int .i64 0, .int .i64 0, .slice none 0 0]) (t := 26) ?hr ?_; (case hd => rfl); (case hg => rfl); (case hr => first | (go_simp; done) | (go_simp; rfl)); intro g6 xg w3 y_ hb; skip; have ay := aj (new_ne aa.out xg); have aW := aj ay.out.symm; have az := aj (new_ne ac.out xg); have aS := aj az.out.symm; have aA := aj (stp_new HS.out xg); replace aa := aj (show w3.heap[g3]? = some (.cells #[.int .i64 af, .int .i64 ag, .int .i64 ah, .slice ai ab.length ak] 26 (0, 0)) from blk_below aa.out hb); replace ac := aj (show w3.heap[g5]? = some (.cells #[.int .u64 d0, .int .u64 d1] 36 (0, 0)) from blk_below ac.out hb); replace HS := aj (show Stp w0 w S w3 from stp_below HS.out hb); have ae := aj y_; clear xg y_ hb; have am := bq_ aa 0; have ao := blk_frozen aa.out 0; have ap := bq_ aa 1; have aq := blk_frozen aa.out 1; have ar := bq_ aa 2; have au := blk_frozen aa.out 2; have al := bq_ aa 3; have av := blk_frozen aa.out 3)
    | (go_at_call 46; (with_reducible refine (tree_place.calls k af ag ah _ _ ab a1 e _ (Kd.C_below a8.out (stp_b HS.out)) a9.out (GL.below HRG.out (stp_b HS.out)) ba.out).mono ?_); rintro e w4 ⟨rfl, hb⟩; clear am ao ap aq ar au al av; replace aa := aj (show w4.heap[g3]? = some (.cells #[.int .i64 af, .int .i64 ag, .int .i64 ah, .slice ai ab.length ak] 26 (0, 0)) from blk_below aa.out hb); replace ac := aj (show w4.heap[g5]? = some (.cells #[.int .u64 d0, .int .u64 d1] 36 (0, 0)) from blk_below ac.out hb); replace ae := aj (show w4.heap[g6]? = some (.cells #[.int .i64 0, .int .i64 0, .int .i64 0, .slice none 0 0] 26 (0, 0)) from blk_below ae.out hb); replace HS := aj (show Stp w0 w S w4 from stp_below HS.out hb); have aG := bq_ ae 0; have aH := blk_frozen ae.out 0; have aI := bq_ ae 1; have aJ := blk_frozen ae.out 1; have aK := bq_ ae 2; have aL := blk_frozen ae.out 2; have aM := bq_ ae 3; have aN := blk_frozen ae.out 3)
    | ((with_reducible refine gate_store (t := 26) (p := 6) rfl ?_); refine store_event (t := 26) (p := 6) (v := .tmp 16) (w1 := ((((w4.setCell ⟨g6, 0, none⟩ (.int .i64 0)).setCell ⟨g6, 1, none⟩ (.int .i64 0)).setCell ⟨g6, 2, none⟩ (.int .i64 0)).setCell ⟨g6, 3, none⟩ (.slice none 0 0))) ?hg ?ho ?hn ?hr ?_; (case ho => rfl); (case hg => rfl); (case hn => rfl); (case hr => first | (go_simp; done) | (go_simp; rfl)); intro w5 hw; clear aG aH aI aJ aK aL aM aN; replace aa := aj (show w5.heap[g3]? = some (.cells #[.int .i64 af, .int .i64 ag, .int .i64 ah, .slice ai ab.length ak] 26 (0, 0)) from (by rw [hw]; (repeat (refine blk_far ?_ ay.out _)); exact aa.out)); replace ac := aj (show w5.heap[g5]? = some (.cells #[.int .u64 d0, .int .u64 d1] 36 (0, 0)) from (by rw [hw]; (repeat (refine blk_far ?_ az.out _)); exact ac.out)); replace ae := aj (show w5.heap[g6]? = some (.cells #[.int .i64 0, .int .i64 0, .int .i64 0, .slice none 0 0] 26 (0, 0)) from (by rw [hw]; exact (blk_put (cs := #[.int .i64 0, .int .i64 0, .int .i64 0, .slice none 0 0]) (blk_put (cs := #[.int .i64 0, .int .i64 0, .int .i64 0, .slice none 0 0]) (blk_put (cs := #[.int .i64 0, .int .i64 0, .int .i64 0, .slice none 0 0]) (blk_put (cs := #[.int .i64 0, .int .i64 0, .int .i64 0, .slice none 0 0]) ae.out 0 (.int .i64 0) rfl) 1 (.int .i64 0) rfl) 2 (.int .i64 0) rfl) 3 (.slice none 0 0) rfl))); replace HS := aj (show Stp w0 w S w5 from (by rw [hw]; exact (stp_set (stp_set (stp_set (stp_set HS.out aA.out 0 (.int .i64 0)) aA.out 1 (.int .i64 0)) aA.out 2 (.int .i64 0)) aA.out 3 (.slice none 0 0)))); skip))
  refine bodyPost_ret (results_list (rs := [.cell 6 26, .tmp 7]) rfl (by simp) (.cell g6 26 #[.int .i64 0, .int .i64 0, .int .i64 0, .slice none 0 0] (0, 0) _ rfl ae.out Tryd.underlying26 rfl (by kernel_rfl) (.tmp .nil))) rfl ?_
  obtain rfl := HW.out
  exact ⟨rfl, stp_b HS.out⟩
set_option maxHeartbeats 4000000 in
set_option maxRecDepth 100000 in
theorem replace_prop (k : Nat) (af ag ah : Int) (ai : Option Addr) (ak : Nat) (ab : List (List S36)) (a1 d0 d1 : Int) (w : World) (aw : Kd.C (Kd.slice 36 k36) w ai ab.length ab) (ax : ab.length ≤ ak) (hrG : GL w) (h1 : tree_place.f k af ag ah ab a1 = some 0) (h2 : tree_proper.f af [⟨d0, d1⟩] = some false) : Calls Tryd.prog 32 #[.agg #[.int .i64 af, .int .i64 ag, .int .i64 ah, .slice ai ab.length ak], .int .i64 a1, .agg #[.int .u64 d0, .int .u64 d1]] w fun e' w' => e' = .returned (.tuple #[.agg #[.int .i64 0, .int .i64 0, .int .i64 0, .slice none 0 0], .int .i64 2]) ∧ Below w.heap.size w w' := by
  have hu26 := Tryd.underlying26
  have hu36 := Tryd.underlying36
  have hu24 := Tryd.underlying24
  have hu22 := Tryd.underlying22
  obtain ⟨w0, aC⟩ : ∃ w0, w0 = w := ⟨_, rfl⟩
  generalize hSS : (fun _ : Nat => False) = S
  have HS : Aside0 (Stp w0 w S w) := ⟨by rw [aC]; exact Below.refl _ _, Kept.refl _ _⟩
  have HW := aj aC
  have a8 : Aside0 (Kd.C (Kd.slice 36 k36) w0 ai ab.length ab) := ⟨by rw [aC]; exact aw⟩
  have a9 := aj ax
  have HRG : Aside0 (GL w0) := ⟨by rw [aC]; exact hrG⟩
  clear hSS aC aw ax hrG
  have ba := aj h1
  clear h1
  obtain ⟨yy, hyy⟩ : ∃ yy, yy = [(⟨d0, d1⟩ : S36)] := ⟨_, rfl⟩
  have HYY := aj hyy
  rw [← hyy] at h2
  have bj := aj h2
  clear h2 hyy
  go_enter Tryd.func32, Tryd.ntmps32
  go_wp2_with (first
    | ((with_reducible refine gate_dst (N := 3) rfl ?_); refine box_event ?hg (N := 3) ?hd (cs := #[.int .i64 af, .int .i64 ag, .int .i64 ah, .slice ai ab.length ak]) (t := 26) ?hr ?_; (case hd => rfl); (case hg => rfl); (case hr => first | (go_simp; done) | (go_simp; rfl)); intro g3 xg w1 y_ hb; skip; have bi := aj (stp_new HS.out xg); replace HS := aj (show Stp w0 w S w1 from stp_below HS.out hb); have aa := aj y_; clear xg y_ hb; skip)
    | ((with_reducible refine gate_dst (N := 5) rfl ?_); refine box_event ?hg (N := 5) ?hd (cs := #[.int .u64 d0, .int .u64 d1]) (t := 36) ?hr ?_; (case hd => rfl); (case hg => rfl); (case hr => first | (go_simp; done) | (go_simp; rfl)); intro g5 xg w2 y_ hb; skip; have aB := aj (new_ne aa.out xg); have aV := aj aB.out.symm; have bd := aj (stp_new HS.out xg); replace aa := aj (show w2.heap[g3]? = some (.cells #[.int .i64 af, .int .i64 ag, .int .i64 ah, .slice ai ab.length ak] 26 (0, 0)) from blk_below aa.out hb); replace HS := aj (show Stp w0 w S w2 from stp_below HS.out hb); have ac := aj y_; clear xg y_ hb; skip)
    | ((with_reducible refine gate_dst (N := 6) rfl ?_); refine box_event ?hg (N := 6) ?hd (cs := #[.int .i64 0, .int .i64 0, .int .i64 0, .slice none 0 0]) (t := 26) ?hr ?_; (case hd => rfl); (case hg => rfl); (case hr => first | (go_simp; done) | (go_simp; rfl)); intro g6 xg w3 y_ hb; skip; have ay := aj (new_ne aa.out xg); have aW := aj ay.out.symm; have az := aj (new_ne ac.out xg); have aS := aj az.out.symm; have aA := aj (stp_new HS.out xg); replace aa := aj (show w3.heap[g3]? = some (.cells #[.int .i64 af, .int .i64 ag, .int .i64 ah, .slice ai ab.length ak] 26 (0, 0)) from blk_below aa.out hb); replace ac := aj (show w3.heap[g5]? = some (.cells #[.int .u64 d0, .int .u64 d1] 36 (0, 0)) from blk_below ac.out hb); replace HS := aj (show Stp w0 w S w3 from stp_below HS.out hb); have ae := aj y_; clear xg y_ hb; have am := bq_ aa 0; have ao := blk_frozen aa.out 0; have ap := bq_ aa 1; have aq := blk_frozen aa.out 1; have ar := bq_ aa 2; have au := blk_frozen aa.out 2; have al := bq_ aa 3; have av := blk_frozen aa.out 3)
    | (go_at_call 46; (with_reducible refine (tree_place.calls k af ag ah _ _ ab a1 0 _ (Kd.C_below a8.out (stp_b HS.out)) a9.out (GL.below HRG.out (stp_b HS.out)) ba.out).mono ?_); rintro e w4 ⟨rfl, hb⟩; clear am ao ap aq ar au al av; replace aa := aj (show w4.heap[g3]? = some (.cells #[.int .i64 af, .int .i64 ag, .int .i64 ah, .slice ai ab.length ak] 26 (0, 0)) from blk_below aa.out hb); replace ac := aj (show w4.heap[g5]? = some (.cells #[.int .u64 d0, .int .u64 d1] 36 (0, 0)) from blk_below ac.out hb); replace ae := aj (show w4.heap[g6]? = some (.cells #[.int .i64 0, .int .i64 0, .int .i64 0, .slice none 0 0] 26 (0, 0)) from blk_below ae.out hb); replace HS := aj (show Stp w0 w S w4 from stp_below HS.out hb); have am := bq_ aa 0; have ao := blk_frozen aa.out 0; have ap := bq_ aa 1; have aq := blk_frozen aa.out 1; have ar := bq_ aa 2; have au := blk_frozen aa.out 2; have al := bq_ aa 3; have av := blk_frozen aa.out 3; have aO := bq_ ac 0; have aP := blk_frozen ac.out 0; have aQ := bq_ ac 1; have aR := blk_frozen ac.out 1)
    | ((with_reducible refine gate_dst (N := 21) rfl ?_); refine Kd.R_lit k36 _ 36 ?hg (N := 21) ?hd (xs := [(⟨d0, d1⟩ : S36)]) (inner := [.int .u64 d0, .int .u64 d1]) (ok := fun _ => True) (okp := fun _ => True) ?hr ?hp (fun _ hk => hk) trivial (Below.refl _ _) (Nat.le_refl _) (by simp) ?_; (case hd => rfl); (case hg => rfl); (case hr => first | (go_simp; done) | (go_simp; rfl)); (case hp => exact (Reps.c2 (show Kd.M k36 _ _ _ (⟨d0, d1⟩ : S36) [.int .u64 d0, .int .u64 d1] from (k36_mkM _ _ _ (⟨d0, d1⟩ : S36))) (Reps.none _ _))); intro bv w5 ho hb hg_ hnew_; clear hg_ hnew_; clear am ao ap aq ar au al av aO aP aQ aR; replace aa := aj (show w5.heap[g3]? = some (.cells #[.int .i64 af, .int .i64 ag, .int .i64 ah, .slice ai ab.length ak] 26 (0, 0)) from blk_below aa.out hb); replace ac := aj (show w5.heap[g5]? = some (.cells #[.int .u64 d0, .int .u64 d1] 36 (0, 0)) from blk_below ac.out hb); replace ae := aj (show w5.heap[g6]? = some (.cells #[.int .i64 0, .int .i64 0, .int .i64 0, .slice none 0 0] 26 (0, 0)) from blk_below ae.out hb); replace HS := aj (show Stp w0 w S w5 from stp_below HS.out hb); rw [← HYY.out] at ho; obtain ⟨Al, cl, el⟩ := Kd.R_slice ho; subst el; have HLt := aj ho)
    | (go_at_call 39; (with_reducible refine (tree_proper.calls af _ _ yy false _ (Kd.R_reads' HLt.out).2.2 (Kd.R_reads' HLt.out).2.1 (GL.below HRG.out (stp_b HS.out)) bj.out).mono ?_); rintro e w6 ⟨rfl, hb⟩; skip; replace aa := aj (show w6.heap[g3]? = some (.cells #[.int .i64 af, .int .i64 ag, .int .i64 ah, .slice ai ab.length ak] 26 (0, 0)) from blk_below aa.out hb); replace ac := aj (show w6.heap[g5]? = some (.cells #[.int .u64 d0, .int .u64 d1] 36 (0, 0)) from blk_below ac.out hb); replace ae := aj (show w6.heap[g6]? = some (.cells #[.int .i64 0, .int .i64 0, .int .i64 0, .slice none 0 0] 26 (0, 0)) from blk_below ae.out hb); replace HS := aj (show Stp w0 w S w6 from stp_below HS.out hb); have aG := bq_ ae 0; have aH := blk_frozen ae.out 0; have aI := bq_ ae 1; have aJ := blk_frozen ae.out 1; have aK := bq_ ae 2; have aL := blk_frozen ae.out 2; have aM := bq_ ae 3; have aN := blk_frozen ae.out 3)
    | ((with_reducible refine gate_store (t := 26) (p := 6) rfl ?_); refine store_event (t := 26) (p := 6) (v := .tmp 24) (w1 := ((((w6.setCell ⟨g6, 0, none⟩ (.int .i64 0)).setCell ⟨g6, 1, none⟩ (.int .i64 0)).setCell ⟨g6, 2, none⟩ (.int .i64 0)).setCell ⟨g6, 3, none⟩ (.slice none 0 0))) ?hg ?ho ?hn ?hr ?_; (case ho => rfl); (case hg => rfl); (case hn => rfl); (case hr => first | (go_simp; done) | (go_simp; rfl)); intro w7 hw; clear aG aH aI aJ aK aL aM aN; replace aa := aj (show w7.heap[g3]? = some (.cells #[.int .i64 af, .int .i64 ag, .int .i64 ah, .slice ai ab.length ak] 26 (0, 0)) from (by rw [hw]; (repeat (refine blk_far ?_ ay.out _)); exact aa.out)); replace ac := aj (show w7.heap[g5]? = some (.cells #[.int .u64 d0, .int .u64 d1] 36 (0, 0)) from (by rw [hw]; (repeat (refine blk_far ?_ az.out _)); exact ac.out)); replace ae := aj (show w7.heap[g6]? = some (.cells #[.int .i64 0, .int .i64 0, .int .i64 0, .slice none 0 0] 26 (0, 0)) from (by rw [hw]; exact (blk_put (cs := #[.int .i64 0, .int .i64 0, .int .i64 0, .slice none 0 0]) (blk_put (cs := #[.int .i64 0, .int .i64 0, .int .i64 0, .slice none 0 0]) (blk_put (cs := #[.int .i64 0, .int .i64 0, .int .i64 0, .slice none 0 0]) (blk_put (cs := #[.int .i64 0, .int .i64 0, .int .i64 0, .slice none 0 0]) ae.out 0 (.int .i64 0) rfl) 1 (.int .i64 0) rfl) 2 (.int .i64 0) rfl) 3 (.slice none 0 0) rfl))); replace HS := aj (show Stp w0 w S w7 from (by rw [hw]; exact (stp_set (stp_set (stp_set (stp_set HS.out aA.out 0 (.int .i64 0)) aA.out 1 (.int .i64 0)) aA.out 2 (.int .i64 0)) aA.out 3 (.slice none 0 0)))); skip))
  refine bodyPost_ret (results_list (rs := [.cell 6 26, .tmp 7]) rfl (by simp) (.cell g6 26 #[.int .i64 0, .int .i64 0, .int .i64 0, .slice none 0 0] (0, 0) _ rfl ae.out Tryd.underlying26 rfl (by kernel_rfl) (.tmp .nil))) rfl ?_
  obtain rfl := HW.out
  exact ⟨rfl, stp_b HS.out⟩
set_option maxHeartbeats 16000000 in
set_option maxRecDepth 100000 in
theorem replace_go (k : Nat) (af ag ah : Int) (ai : Option Addr) (ak : Nat) (ab : List (List S36)) (a1 d0 d1 : Int) (w : World) (aw : Kd.C (Kd.slice 36 k36) w ai ab.length ab) (ax : ab.length ≤ ak) (hrG : GL w) (h1 : tree_place.f k af ag ah ab a1 = some 0) (h2 : tree_proper.f af [⟨d0, d1⟩] = some true) (bn : 0 ≤ a1) (hn0 : 0 < ab.length) (hn1 : ab.length ≤ 1000) (R : List (List S36)) (h : replL af none ab a1.toNat ⟨d0, d1⟩ = some R) :
    Calls Tryd.prog 32 #[.agg #[.int .i64 af, .int .i64 ag, .int .i64 ah, .slice ai ab.length ak], .int .i64 a1, .agg #[.int .u64 d0, .int .u64 d1]] w fun e w' => ∃ aX : Value, e = .returned (.tuple #[.agg #[.int .i64 af, .int .i64 ag, .int .i64 ah, aX], .int .i64 0]) ∧ Kd.S (Kd.slice 36 k36) 22 w' w.heap.size (fun _ => True) aX R ∧ Below w.heap.size w w' := by
  have hu26 := Tryd.underlying26
  have hu36 := Tryd.underlying36
  have hu24 := Tryd.underlying24
  have hu22 := Tryd.underlying22
  obtain ⟨w0, aC⟩ : ∃ w0, w0 = w := ⟨_, rfl⟩
  generalize hSS : (fun _ : Nat => False) = S
  have HS : Aside0 (Stp w0 w S w) := ⟨by rw [aC]; exact Below.refl _ _, Kept.refl _ _⟩
  have HW := aj aC
  have a8 : Aside0 (Kd.C (Kd.slice 36 k36) w0 ai ab.length ab) := ⟨by rw [aC]; exact aw⟩
  have a9 := aj ax
  have HRG : Aside0 (GL w0) := ⟨by rw [aC]; exact hrG⟩
  clear hSS aC aw ax hrG
  have ba := aj h1
  obtain ⟨yy, hyy⟩ : ∃ yy, yy = [(⟨d0, d1⟩ : S36)] := ⟨_, rfl⟩
  have HYY := aj hyy
  rw [← hyy] at h2
  have bj := aj h2
  clear hyy
  have H' := aj h
  obtain ⟨H0, hH0, hCH, hrow⟩ := C_hdrs a8.out
  have HCH := aj hCH
  have HROW := aj hrow
  have HN : Aside0 (ab.length ≤ 1000 ∧ H0.length = ab.length ∧ 0 < (hd1 H0).length) := ⟨hn1, hH0, by rw [hd1_len, hH0]; exact hn0⟩
  have HI0 := aj bn
  clear h1 h2 h bn hn0 hn1 hH0 hCH hrow
  go_enter Tryd.func32, Tryd.ntmps32
  go_wp2_with (first
    | ((with_reducible refine gate_dst (N := 3) rfl ?_); refine box_event ?hg (N := 3) ?hd (cs := #[.int .i64 af, .int .i64 ag, .int .i64 ah, .slice ai ab.length ak]) (t := 26) ?hr ?_; (case hd => rfl); (case hg => rfl); (case hr => first | (go_simp; done) | (go_simp; rfl)); intro g3 xg w1 y_ hb; skip; have bi := aj (stp_new HS.out xg); replace HS := aj (show Stp w0 w S w1 from stp_below HS.out hb); have aa := aj y_; clear xg y_ hb; skip)
    | ((with_reducible refine gate_dst (N := 5) rfl ?_); refine box_event ?hg (N := 5) ?hd (cs := #[.int .u64 d0, .int .u64 d1]) (t := 36) ?hr ?_; (case hd => rfl); (case hg => rfl); (case hr => first | (go_simp; done) | (go_simp; rfl)); intro g5 xg w2 y_ hb; skip; have aB := aj (new_ne aa.out xg); have aV := aj aB.out.symm; have bd := aj (stp_new HS.out xg); replace aa := aj (show w2.heap[g3]? = some (.cells #[.int .i64 af, .int .i64 ag, .int .i64 ah, .slice ai ab.length ak] 26 (0, 0)) from blk_below aa.out hb); replace HS := aj (show Stp w0 w S w2 from stp_below HS.out hb); have ac := aj y_; clear xg y_ hb; skip)
    | ((with_reducible refine gate_dst (N := 6) rfl ?_); refine box_event ?hg (N := 6) ?hd (cs := #[.int .i64 0, .int .i64 0, .int .i64 0, .slice none 0 0]) (t := 26) ?hr ?_; (case hd => rfl); (case hg => rfl); (case hr => first | (go_simp; done) | (go_simp; rfl)); intro g6 xg w3 y_ hb; skip; have ay := aj (new_ne aa.out xg); have aW := aj ay.out.symm; have az := aj (new_ne ac.out xg); have aS := aj az.out.symm; have aA := aj (stp_new HS.out xg); replace aa := aj (show w3.heap[g3]? = some (.cells #[.int .i64 af, .int .i64 ag, .int .i64 ah, .slice ai ab.length ak] 26 (0, 0)) from blk_below aa.out hb); replace ac := aj (show w3.heap[g5]? = some (.cells #[.int .u64 d0, .int .u64 d1] 36 (0, 0)) from blk_below ac.out hb); replace HS := aj (show Stp w0 w S w3 from stp_below HS.out hb); have ae := aj y_; clear xg y_ hb; have am := bq_ aa 0; have ao := blk_frozen aa.out 0; have ap := bq_ aa 1; have aq := blk_frozen aa.out 1; have ar := bq_ aa 2; have au := blk_frozen aa.out 2; have al := bq_ aa 3; have av := blk_frozen aa.out 3)
    | (go_at_call 46; (with_reducible refine (tree_place.calls k af ag ah _ _ ab a1 0 _ (Kd.C_below a8.out (stp_b HS.out)) a9.out (GL.below HRG.out (stp_b HS.out)) ba.out).mono ?_); rintro e w4 ⟨rfl, hb⟩; clear am ao ap aq ar au al av; replace aa := aj (show w4.heap[g3]? = some (.cells #[.int .i64 af, .int .i64 ag, .int .i64 ah, .slice ai ab.length ak] 26 (0, 0)) from blk_below aa.out hb); replace ac := aj (show w4.heap[g5]? = some (.cells #[.int .u64 d0, .int .u64 d1] 36 (0, 0)) from blk_below ac.out hb); replace ae := aj (show w4.heap[g6]? = some (.cells #[.int .i64 0, .int .i64 0, .int .i64 0, .slice none 0 0] 26 (0, 0)) from blk_below ae.out hb); replace HS := aj (show Stp w0 w S w4 from stp_below HS.out hb); have am := bq_ aa 0; have ao := blk_frozen aa.out 0; have ap := bq_ aa 1; have aq := blk_frozen aa.out 1; have ar := bq_ aa 2; have au := blk_frozen aa.out 2; have al := bq_ aa 3; have av := blk_frozen aa.out 3; have aO := bq_ ac 0; have aP := blk_frozen ac.out 0; have aQ := bq_ ac 1; have aR := blk_frozen ac.out 1)
    | ((with_reducible refine gate_dst (N := 21) rfl ?_); refine Kd.R_lit k36 _ 36 ?hg (N := 21) ?hd (xs := [(⟨d0, d1⟩ : S36)]) (inner := [.int .u64 d0, .int .u64 d1]) (ok := fun _ => True) (okp := fun _ => True) ?hr ?hp (fun _ hk => hk) trivial (Below.refl _ _) (Nat.le_refl _) (by simp) ?_; (case hd => rfl); (case hg => rfl); (case hr => first | (go_simp; done) | (go_simp; rfl)); (case hp => exact (Reps.c2 (show Kd.M k36 _ _ _ (⟨d0, d1⟩ : S36) [.int .u64 d0, .int .u64 d1] from (k36_mkM _ _ _ (⟨d0, d1⟩ : S36))) (Reps.none _ _))); intro bv w5 ho hb hg_ hnew_; clear hg_ hnew_; clear am ao ap aq ar au al av aO aP aQ aR; replace aa := aj (show w5.heap[g3]? = some (.cells #[.int .i64 af, .int .i64 ag, .int .i64 ah, .slice ai ab.length ak] 26 (0, 0)) from blk_below aa.out hb); replace ac := aj (show w5.heap[g5]? = some (.cells #[.int .u64 d0, .int .u64 d1] 36 (0, 0)) from blk_below ac.out hb); replace ae := aj (show w5.heap[g6]? = some (.cells #[.int .i64 0, .int .i64 0, .int .i64 0, .slice none 0 0] 26 (0, 0)) from blk_below ae.out hb); replace HS := aj (show Stp w0 w S w5 from stp_below HS.out hb); rw [← HYY.out] at ho; obtain ⟨Al, cl, el⟩ := Kd.R_slice ho; subst el; have HLt := aj ho)
    | (go_at_call 39; (with_reducible refine (tree_proper.calls af _ _ yy true _ (Kd.R_reads' HLt.out).2.2 (Kd.R_reads' HLt.out).2.1 (GL.below HRG.out (stp_b HS.out)) bj.out).mono ?_); rintro e w6 ⟨rfl, hb⟩; skip; replace aa := aj (show w6.heap[g3]? = some (.cells #[.int .i64 af, .int .i64 ag, .int .i64 ah, .slice ai ab.length ak] 26 (0, 0)) from blk_below aa.out hb); replace ac := aj (show w6.heap[g5]? = some (.cells #[.int .u64 d0, .int .u64 d1] 36 (0, 0)) from blk_below ac.out hb); replace ae := aj (show w6.heap[g6]? = some (.cells #[.int .i64 0, .int .i64 0, .int .i64 0, .slice none 0 0] 26 (0, 0)) from blk_below ae.out hb); replace HS := aj (show Stp w0 w S w6 from stp_below HS.out hb); have am := bq_ aa 0; have ao := blk_frozen aa.out 0; have ap := bq_ aa 1; have aq := blk_frozen aa.out 1; have ar := bq_ aa 2; have au := blk_frozen aa.out 2; have al := bq_ aa 3; have av := blk_frozen aa.out 3)
    | (go_at_call 53; (with_reducible refine (rowsC ai ak ab.length H0 HN.out.2.1 _ (Kd.C_below HCH.out (stp_b HS.out)) a9.out HN.out.1).mono ?_); rintro e w7 ⟨bF, rfl, ho, hb⟩; have HOUT := aj ho; clear am ao ap aq ar au al av; have HB0 := aj (⟨(stp_b HS.out).size, blk_lt aa.out, blk_lt ac.out, blk_lt ae.out⟩ : w0.heap.size ≤ w6.heap.size ∧ g3 < w6.heap.size ∧ g5 < w6.heap.size ∧ g6 < w6.heap.size); replace aa := aj (show w7.heap[g3]? = some (.cells #[.int .i64 af, .int .i64 ag, .int .i64 ah, .slice ai ab.length ak] 26 (0, 0)) from blk_below aa.out hb); replace ac := aj (show w7.heap[g5]? = some (.cells #[.int .u64 d0, .int .u64 d1] 36 (0, 0)) from blk_below ac.out hb); replace ae := aj (show w7.heap[g6]? = some (.cells #[.int .i64 0, .int .i64 0, .int .i64 0, .slice none 0 0] 26 (0, 0)) from blk_below ae.out hb); replace HS := aj (show Stp w0 w S w7 from stp_below HS.out hb); obtain ⟨gO, cO, eO, _, _, _, _⟩ := Kd.R_form HOUT.out HN.out.2.2; rw [hd1_len, HN.out.2.1] at eO; subst eO; have am := bq_ aa 0; have ao := blk_frozen aa.out 0; have ap := bq_ aa 1; have aq := blk_frozen aa.out 1; have ar := bq_ aa 2; have au := blk_frozen aa.out 2; have al := bq_ aa 3; have av := blk_frozen aa.out 3)
    | ((with_reducible refine gate_store (t := 24) (p := 28) rfl ?_); refine store_event (t := 24) (p := 28) (v := .tmp 27) (w1 := (w7.setCell ⟨g3, 3, none⟩ (.slice (some ⟨gO, 0, none⟩) ab.length cO))) ?hg ?ho ?hn ?hr ?_; (case ho => rfl); (case hg => rfl); (case hn => rfl); (case hr => first | (go_simp; done) | (go_simp; rfl)); intro w8 hw; clear am ao ap aq ar au al av; replace aa := aj (show w8.heap[g3]? = some (.cells #[.int .i64 af, .int .i64 ag, .int .i64 ah, .slice (some ⟨gO, 0, none⟩) ab.length cO] 26 (0, 0)) from (by rw [hw]; exact (blk_put (cs := #[.int .i64 af, .int .i64 ag, .int .i64 ah, .slice ai ab.length ak]) aa.out 3 (.slice (some ⟨gO, 0, none⟩) ab.length cO) rfl))); replace ac := aj (show w8.heap[g5]? = some (.cells #[.int .u64 d0, .int .u64 d1] 36 (0, 0)) from (by rw [hw]; exact blk_far ac.out aV.out _)); replace ae := aj (show w8.heap[g6]? = some (.cells #[.int .i64 0, .int .i64 0, .int .i64 0, .slice none 0 0] 26 (0, 0)) from (by rw [hw]; exact blk_far ae.out aW.out _)); replace HS := aj (show Stp w0 w S w8 from (by rw [hw]; exact stp_set HS.out bi.out 3 (.slice (some ⟨gO, 0, none⟩) ab.length cO))); replace HOUT := aj (show Kd.R (Kd.raw 1) 22 w8 w6.heap.size (fun _ => True) (.slice (some ⟨gO, 0, none⟩) ab.length cO) (hd1 H0) from (by rw [hw]; exact R_low HOUT.out HB0.out.2.1 _ _)); clear hw; have am := bq_ aa 0; have ao := blk_frozen aa.out 0; have ap := bq_ aa 1; have aq := blk_frozen aa.out 1; have ar := bq_ aa 2; have au := blk_frozen aa.out 2; have al := bq_ aa 3; have av := blk_frozen aa.out 3))
  have HRW0 : Aside0 (RwI w6.heap.size H0 [] w8) := ⟨⟨fun j l hl => by simp at hl, fun j j' u u' k hj => by simp at hj⟩⟩
  have HNO : Aside0 (w6.heap.size ≤ gO ∧ g3 ≠ gO ∧ g5 ≠ gO ∧ g6 ≠ gO ∧ (w0.heap.size ≤ gO ∧ (S gO ∨ w.heap.size ≤ gO))) := ⟨by
    have h1 := Kd.R_base HOUT.out gO rfl
    have h2 := HB0.out
    have h3 : w.heap.size = w0.heap.size := by rw [HW.out]
    exact ⟨h1, by omega, by omega, by omega, by omega, Or.inr (by omega)⟩⟩
  go_loopg [1, 9, 10, 32] (ab.length + 1) (fun kq v1 v9 bG bw w' => ∃ (j i : Nat) (H : List Value) (pre : List (List S36)) (d : S36) (r : List (List S36)), v1 = .int .i64 (i : Int) ∧ bw = .int .i64 (j : Int) ∧ Aside0 (replL af pre.getLast? (ab.drop j) i d = some r) ∧ Aside0 (pre.length = j ∧ R = pre ++ r) ∧ Aside0 (kq + j = ab.length + 1 ∧ j ≤ ab.length) ∧ Aside0 (w'.heap[g3]? = some (.cells #[.int .i64 af, .int .i64 ag, .int .i64 ah, .slice (some ⟨gO, 0, none⟩) ab.length cO] 26 (0, 0))) ∧ Aside0 (w'.heap[g5]? = some (.cells #[.int .u64 d.f0, .int .u64 d.f1] 36 (0, 0))) ∧ Aside0 (w'.heap[g6]? = some (.cells #[.int .i64 0, .int .i64 0, .int .i64 0, .slice none 0 0] 26 (0, 0))) ∧ Aside0 (Kd.R (Kd.raw 1) 22 w' w6.heap.size (fun _ => True) (.slice (some ⟨gO, 0, none⟩) ab.length cO) (hd1 H)) ∧ Aside0 (H.length = ab.length ∧ ∀ j', j ≤ j' → H[j']? = H0[j']?) ∧ Aside0 (RwI w6.heap.size H pre w') ∧ Aside0 (Stp w0 w S w'))
  case atStart => exact ⟨0, a1.toNat, H0, [], ⟨d0, d1⟩, R, by rw [Int.toNat_of_nonneg HI0.out], rfl, H', ⟨⟨rfl, rfl⟩⟩, ⟨⟨rfl, Nat.zero_le _⟩⟩, aa, ac, ae, HOUT, ⟨⟨HN.out.2.1, fun _ _ => rfl⟩⟩, HRW0, HS⟩
  case round =>
    clear H' HS ba bj HOUT HRW0 aa ac ae
    obtain ⟨j, i, H, pre, d, r, rfl, rfl, HA, HP, HK, aa, ac, ae, HOUT, HH, RWS, HS⟩ := hrel
    by_cases c3 : j < ab.length
    · obtain ⟨k1, rfl⟩ : ∃ k1, gk = k1 + 1 := ⟨gk - 1, by have := HK.out.1; omega⟩
      obtain ⟨row, hrj⟩ : ∃ row, ab[j]? = some row := ⟨_, List.getElem?_eq_getElem c3⟩
      have hdr : ab.drop j = row :: ab.drop (j + 1) := by
        rw [List.drop_eq_getElem_cons c3]
        rw [List.getElem?_eq_getElem c3] at hrj
        rw [Option.some.inj hrj]
      have aD := HA.out
      clear HA
      rw [hdr] at aD
      simp only [replL] at aD
      obtain ⟨x, hx, aD⟩ := Option.bind_eq_some_iff.mp aD
      by_cases hq : i < row.length ∧ row.length ≤ 1048576
      · rw [if_pos hq] at aD
        obtain ⟨r2, bo, aD⟩ := Option.bind_eq_some_iff.mp aD
        obtain rfl := Option.some.inj aD
        have HX := aj hx
        have H' := aj bo
        obtain ⟨A1, c1, hH0j, bp, bq⟩ := HROW.out j row hrj
        have hHj : H[j]? = some (.slice A1 row.length c1) := (HH.out.2 j (Nat.le_refl _)).trans hH0j
        have HHJ := aj hHj
        have br := aj bq
        have HCL := aj bp
        have HQ := aj hq
        have bs := hd_cell HOUT.out j _ hHj
        have HJ := aj c3
        have c3b : decide (j < ab.length) = true := decide_eq_true c3
        have p2 : (0 ≤ (j : Int)) = True := eq_true (by omega)
        have q2 : ((j : Int) < (ab.length : Int)) = True := eq_true (by omega)
        have q2n : (j < ab.length) = True := eq_true c3
        have hadd : wrap64 ((j : Int) + 1) = ((j + 1 : Nat) : Int) := by have := HN.out.1; unfold wrap64; omega
        clear aD hx bo hH0j bp bq hHj hdr hrj hq c3
        go_upto_region 10 with (fail)
        refine start_ (n := 11) (S := fun w' => w'.cell? ⟨g3, 3, none⟩ = some (.slice (some ⟨gO, 0, none⟩) ab.length cO) ∧ w'.cell? ⟨gO, j, none⟩ = some (.slice A1 row.length c1)) (ds := [10]) #[false, false, false, false, false, false, false, false, false, false, false] (by kernel_rfl) rfl rfl ⟨(blk_cell aa.out 3).trans rfl, bs⟩ (fun hHeld => ?_)
        replace aa := aj (show wr.drew.heap[g3]? = some (.cells #[.int .i64 af, .int .i64 ag, .int .i64 ah, .slice (some ⟨gO, 0, none⟩) ab.length cO] 26 (0, 0)) from aa.out)
        replace ac := aj (show wr.drew.heap[g5]? = some (.cells #[.int .u64 d.f0, .int .u64 d.f1] 36 (0, 0)) from ac.out)
        replace ae := aj (show wr.drew.heap[g6]? = some (.cells #[.int .i64 0, .int .i64 0, .int .i64 0, .slice none 0 0] 26 (0, 0)) from ae.out)
        replace HOUT := aj (show Kd.R (Kd.raw 1) 22 wr.drew w6.heap.size (fun _ => True) (.slice (some ⟨gO, 0, none⟩) ab.length cO) (hd1 H) from Kd.R_drew HOUT.out)
        replace RWS := aj (show RwI w6.heap.size H (pre) wr.drew from RWS.out.below (Below.refl _ _).drew)
        replace HS := aj (show Stp w0 w S wr.drew from stp_drew HS.out)
        generalize wr.drew = w7 at aa ac ae HOUT RWS HS hHeld ⊢
        clear bs
        refine pure_ (i := 0) (N := some 35) (v := ?_) (a' := ?_) #[true, false, false, false, false, false, false, false, false, false, false] rfl rfl (by kernel_rfl) (fun _ _ _ h => h) (Or.inl ⟨by rfl, ?_⟩) ?_ ?_
        rotate_left
        · intro w'
          go_simp
          with_reducible rfl
        rotate_left
        · simp only [Act.put, List.setIfInBounds_toArray, List.set_cons_zero, List.set_cons_succ, i64_w, i32_w]
          rfl
        refine take_ (i := 1) (N := some 36) (v := ?_) (a' := ?_) #[true, true, false, false, false, false, false, false, false, false, false] rfl rfl (by kernel_rfl) (fun _ _ _ h => h) (Or.inl ⟨by rfl, ?_⟩) hHeld ?_ ?_
        rotate_left
        · rintro w' ⟨s0, s1⟩
          go_simp
          with_reducible rfl
        rotate_left
        · simp only [Act.put, List.setIfInBounds_toArray, List.set_cons_zero, List.set_cons_succ, i64_w, i32_w]
          rfl
        refine pure_ (i := 2) (N := some 37) (v := ?_) (a' := ?_) #[true, true, true, false, false, false, false, false, false, false, false] rfl rfl (by kernel_rfl) (fun _ _ _ h => h) (Or.inl ⟨by rfl, ?_⟩) ?_ ?_
        rotate_left
        · intro w'
          go_simp
          with_reducible rfl
        rotate_left
        · simp only [Act.put, List.setIfInBounds_toArray, List.set_cons_zero, List.set_cons_succ, i64_w, i32_w]
          rfl
        refine pure_ (i := 3) (N := some 38) (v := ?_) (a' := ?_) #[true, true, true, true, false, false, false, false, false, false, false] rfl rfl (by kernel_rfl) (fun _ _ _ h => h) (Or.inl ⟨by rfl, ?_⟩) ?_ ?_
        rotate_left
        · intro w'
          go_simp
          with_reducible rfl
        rotate_left
        · simp only [Act.put, List.setIfInBounds_toArray, List.set_cons_zero, List.set_cons_succ, i64_w, i32_w]
          rfl
        refine take_ (i := 4) (N := some 39) (v := ?_) (a' := ?_) #[true, true, true, true, true, false, false, false, false, false, false] rfl rfl (by kernel_rfl) (fun _ _ _ h => h) (Or.inl ⟨by rfl, ?_⟩) hHeld ?_ ?_
        rotate_left
        · rintro w' ⟨s0, s1⟩
          go_simp
          with_reducible rfl
        rotate_left
        · simp only [Act.put, List.setIfInBounds_toArray, List.set_cons_zero, List.set_cons_succ, i64_w, i32_w]
          rfl
        refine pure_ (i := 5) (N := some 40) (v := ?_) (a' := ?_) #[true, true, true, true, true, true, false, false, false, false, false] rfl rfl (by kernel_rfl) (fun _ _ _ h => h) (Or.inl ⟨by rfl, ?_⟩) ?_ ?_
        rotate_left
        · intro w'
          go_simp
          with_reducible rfl
        rotate_left
        · simp only [Act.put, List.setIfInBounds_toArray, List.set_cons_zero, List.set_cons_succ, i64_w, i32_w]
          rfl
        refine pure_ (i := 6) (N := some 41) (v := ?_) (a' := ?_) #[true, true, true, true, true, true, true, false, false, false, false] rfl rfl (by kernel_rfl) (fun _ _ _ h => h) (Or.inl ⟨by rfl, ?_⟩) ?_ ?_
        rotate_left
        · intro w'
          go_simp
          with_reducible rfl
        rotate_left
        · simp only [Act.put, List.setIfInBounds_toArray, List.set_cons_zero, List.set_cons_succ, i64_w, i32_w]
          rfl
        refine take_ (i := 7) (N := some 42) (v := ?_) (a' := ?_) #[true, true, true, true, true, true, true, true, false, false, false] rfl rfl (by kernel_rfl) (fun _ _ _ h => h) (Or.inl ⟨by rfl, ?_⟩) hHeld ?_ ?_
        rotate_left
        · rintro w' ⟨s0, s1⟩
          go_simp
          with_reducible rfl
        rotate_left
        · simp only [Act.put, List.setIfInBounds_toArray, List.set_cons_zero, List.set_cons_succ, i64_w, i32_w]
          rfl
        refine one_ (i := 8) (N := some 43) #[true, true, true, true, true, true, true, true, true, false, false] rfl rfl (by kernel_rfl) (by decide) (fun K hK => ?_)
        refine goes_ Tryd.func45 (by kernel_rfl) rfl #[.slice A1 row.length c1] (by rfl) rfl rfl (by (try simp only [List.map_toArray, List.map_cons, List.map_nil]); first | done | rfl | (go_simp; done)) ?_
        with_reducible refine (slices_Clone.calls A1 c1 row row _ (Kd.C_below br.out (stp_b HS.out)) HCL.out (clone_f row HQ.out.2)).mono ?_
        rintro e aE ⟨v0, rfl, ho, hb⟩
        refine ⟨_, rfl, ?_⟩
        have HBW := aj (Nat.le_trans HNO.out.1 (Nat.le_of_lt (Kd.R_lt HOUT.out gO rfl)))
        have HOLD := aj (fun j' v k h1 h2 h3 => (RwI.old RWS.out j' v k h1 h2 h3).2)
        replace aa := aj (show aE.heap[g3]? = some (.cells #[.int .i64 af, .int .i64 ag, .int .i64 ah, .slice (some ⟨gO, 0, none⟩) ab.length cO] 26 (0, 0)) from blk_below aa.out hb)
        replace ac := aj (show aE.heap[g5]? = some (.cells #[.int .u64 d.f0, .int .u64 d.f1] 36 (0, 0)) from blk_below ac.out hb)
        replace ae := aj (show aE.heap[g6]? = some (.cells #[.int .i64 0, .int .i64 0, .int .i64 0, .slice none 0 0] 26 (0, 0)) from blk_below ae.out hb)
        replace HOUT := aj (show Kd.R (Kd.raw 1) 22 aE w6.heap.size (fun _ => True) (.slice (some ⟨gO, 0, none⟩) ab.length cO) (hd1 H) from Kd.R_below HOUT.out hb)
        replace RWS := aj (show RwI w6.heap.size H (pre) aE from RWS.out.below hb)
        replace HS := aj (show Stp w0 w S aE from stp_below HS.out hb)
        obtain ⟨gN, cN, eN, hgb, hgl, cellsN, hcN⟩ := Kd.R_form ho (by have := HQ.out.1; omega)
        subst eN
        have HNR := aj ho
        clear ho hgb hgl hcN
        refine hK.out _ _ ⟨pw_cell_below hb hHeld.1, pw_cell_below hb hHeld.2⟩ (fun hHeld => ?_)
        clear hK K hb
        refine norm_ (a' := ?_) ?_ ?_
        rotate_left
        · show Act.put _ (some 43) _ = _
          simp only [Act.put, List.setIfInBounds_toArray, List.set_cons_zero, List.set_cons_succ, i64_w, i32_w]
          rfl
        refine pure_ (i := 9) (N := some 44) (v := ?_) (a' := ?_) #[true, true, true, true, true, true, true, true, true, true, false] rfl rfl (by kernel_rfl) (fun _ _ _ h => h) (Or.inl ⟨by rfl, ?_⟩) ?_ ?_
        rotate_left
        · intro w'
          go_simp
          with_reducible rfl
        rotate_left
        · simp only [Act.put, List.setIfInBounds_toArray, List.set_cons_zero, List.set_cons_succ, i64_w, i32_w]
          rfl
        refine last_ (i := 10) (N := none) #[true, true, true, true, true, true, true, true, true, true, true] rfl rfl (by kernel_rfl) (by decide) (fun K hK => ?_)
        have hz0 := hHeld.2
        obtain ⟨cellsO, hcO⟩ := Kd.R_typed HOUT.out gO rfl
        have hf0 := blk_frozen hcO j
        refine skip_ (w1 := ?_) (by rfl) rfl ?_ ?_
        rotate_left
        · go_simp
          rfl
        have HS1 := aj (show RwI w6.heap.size (H.set j (.slice (some ⟨gN, 0, none⟩) row.length cN)) (pre ++ [row]) aE from (by have e_ := RwI.snoc RWS.out HNR.out HBW.out HOLD.out (by have := HP.out.1; have := HH.out.1; have := HJ.out; omega); rw [HP.out.1] at e_; exact e_))
        have HGN := aj (Nat.le_trans HBW.out (Kd.R_base HNR.out gN rfl))
        replace aa := aj (show (aE.setCell ⟨gO, j, none⟩ (.slice (some ⟨gN, 0, none⟩) row.length cN)).heap[g3]? = some (.cells #[.int .i64 af, .int .i64 ag, .int .i64 ah, .slice (some ⟨gO, 0, none⟩) ab.length cO] 26 (0, 0)) from blk_far aa.out HNO.out.2.1 _)
        replace ac := aj (show (aE.setCell ⟨gO, j, none⟩ (.slice (some ⟨gN, 0, none⟩) row.length cN)).heap[g5]? = some (.cells #[.int .u64 d.f0, .int .u64 d.f1] 36 (0, 0)) from blk_far ac.out HNO.out.2.2.1 _)
        replace ae := aj (show (aE.setCell ⟨gO, j, none⟩ (.slice (some ⟨gN, 0, none⟩) row.length cN)).heap[g6]? = some (.cells #[.int .i64 0, .int .i64 0, .int .i64 0, .slice none 0 0] 26 (0, 0)) from blk_far ae.out HNO.out.2.2.2.1 _)
        replace HOUT := aj (show Kd.R (Kd.raw 1) 22 (aE.setCell ⟨gO, j, none⟩ (.slice (some ⟨gN, 0, none⟩) row.length cN)) w6.heap.size (fun _ => True) (.slice (some ⟨gO, 0, none⟩) ab.length cO) (hd1 (H.set j (.slice (some ⟨gN, 0, none⟩) row.length cN))) from hd_put HOUT.out j HJ.out _ rfl)
        replace RWS := aj (show RwI w6.heap.size (H.set j (.slice (some ⟨gN, 0, none⟩) row.length cN)) ((pre ++ [row])) (aE.setCell ⟨gO, j, none⟩ (.slice (some ⟨gN, 0, none⟩) row.length cN)) from HS1.out.setOther hcO (by decide) j _)
        replace HS := aj (show Stp w0 w S (aE.setCell ⟨gO, j, none⟩ (.slice (some ⟨gN, 0, none⟩) row.length cN)) from stp_set HS.out HNO.out.2.2.2.2 j _)
        refine hK.out _ _ ?_
        clear hK K hz0 hf0 hcO hHeld HS1 HOLD
        generalize (aE.setCell ⟨gO, j, none⟩ (.slice (some ⟨gN, 0, none⟩) row.length cN)) = w9 at aa ac ae HOUT RWS HS ⊢
        refine done_ (by kernel_rfl) ?_
        have HHN := aj (show (H.set j (.slice (some ⟨gN, 0, none⟩) row.length cN))[j]? = some (.slice (some ⟨gN, 0, none⟩) row.length cN) from (by rw [List.getElem?_set_self (by have := HH.out.1; have := HJ.out; omega)]))
        have HH1 := aj (show (H.set j (.slice (some ⟨gN, 0, none⟩) row.length cN)).length = ab.length ∧ ∀ j', j + 1 ≤ j' → (H.set j (.slice (some ⟨gN, 0, none⟩) row.length cN))[j']? = H0[j']? from ⟨by rw [List.length_set]; exact HH.out.1, fun j' h => by rw [List.getElem?_set, if_neg (by omega)]; exact HH.out.2 j' (by omega)⟩)
        generalize H.set j (.slice (some ⟨gN, 0, none⟩) row.length cN) = H1 at HOUT RWS HHN HH1
        clear HH HHJ br HCL HNR
        have pi_ : (0 ≤ (i : Int)) = True := eq_true (by omega)
        have qi_ : ((i : Int) < (row.length : Int)) = True := eq_true (by have := HQ.out.1; omega)
        have qin_ : (i < row.length) = True := eq_true HQ.out.1
        rcases Nat.eq_zero_or_pos j with hj0 | hj0
        · have bx : decide (0 < j) = false := decide_eq_false (by omega)
          have bz : decide (0 < (j : Int)) = false := decide_eq_false (by omega)
          have bA : (0 < j) = False := eq_false (by omega)
          have hxd : x = d := by
            have h_ := HX.out
            rw [List.eq_nil_of_length_eq_zero (HP.out.1.trans hj0)] at h_
            exact (Option.some.inj h_).symm
          replace ac := aj (show w9.heap[g5]? = some (.cells #[.int .u64 x.f0, .int .u64 x.f1] 36 (0, 0)) from by rw [hxd]; exact ac.out)
          clear hxd hj0
          go_upto_region 14 with (fail)
          refine start_ (n := 9) (S := fun w' => w'.cell? ⟨g3, 3, none⟩ = some (.slice (some ⟨gO, 0, none⟩) ab.length cO) ∧ w'.cell? ⟨gO, j, none⟩ = some (.slice (some ⟨gN, 0, none⟩) row.length cN) ∧ w'.cell? ⟨g5, 0, none⟩ = some (.int .u64 x.f0) ∧ w'.cell? ⟨g5, 1, none⟩ = some (.int .u64 x.f1)) (ds := [8]) #[false, false, false, false, false, false, false, false, false] (by kernel_rfl) rfl rfl ⟨(blk_cell aa.out 3).trans rfl, hd_cell HOUT.out j _ HHN.out, (blk_cell ac.out 0).trans rfl, (blk_cell ac.out 1).trans rfl⟩ (fun hHeld => ?_)
          replace aa := aj (show w9.drew.heap[g3]? = some (.cells #[.int .i64 af, .int .i64 ag, .int .i64 ah, .slice (some ⟨gO, 0, none⟩) ab.length cO] 26 (0, 0)) from aa.out)
          replace ac := aj (show w9.drew.heap[g5]? = some (.cells #[.int .u64 x.f0, .int .u64 x.f1] 36 (0, 0)) from ac.out)
          replace ae := aj (show w9.drew.heap[g6]? = some (.cells #[.int .i64 0, .int .i64 0, .int .i64 0, .slice none 0 0] 26 (0, 0)) from ae.out)
          replace HOUT := aj (show Kd.R (Kd.raw 1) 22 w9.drew w6.heap.size (fun _ => True) (.slice (some ⟨gO, 0, none⟩) ab.length cO) (hd1 H1) from Kd.R_drew HOUT.out)
          replace RWS := aj (show RwI w6.heap.size H1 ((pre ++ [row])) w9.drew from RWS.out.below (Below.refl _ _).drew)
          replace HS := aj (show Stp w0 w S w9.drew from stp_drew HS.out)
          generalize w9.drew = aY at aa ac ae HOUT RWS HS hHeld ⊢
          refine pure_ (i := 0) (N := some 67) (v := ?_) (a' := ?_) #[true, false, false, false, false, false, false, false, false] rfl rfl (by kernel_rfl) (fun _ _ _ h => h) (Or.inl ⟨by rfl, ?_⟩) ?_ ?_
          rotate_left
          · intro w'
            go_simp
            with_reducible rfl
          rotate_left
          · simp only [Act.put, List.setIfInBounds_toArray, List.set_cons_zero, List.set_cons_succ, i64_w, i32_w]
            rfl
          refine take_ (i := 1) (N := some 68) (v := ?_) (a' := ?_) #[true, true, false, false, false, false, false, false, false] rfl rfl (by kernel_rfl) (fun _ _ _ h => h) (Or.inl ⟨by rfl, ?_⟩) hHeld ?_ ?_
          rotate_left
          · rintro w' ⟨s0, s1, s2, s3⟩
            go_simp
            with_reducible rfl
          rotate_left
          · simp only [Act.put, List.setIfInBounds_toArray, List.set_cons_zero, List.set_cons_succ, i64_w, i32_w]
            rfl
          refine pure_ (i := 2) (N := some 69) (v := ?_) (a' := ?_) #[true, true, true, false, false, false, false, false, false] rfl rfl (by kernel_rfl) (fun _ _ _ h => h) (Or.inl ⟨by rfl, ?_⟩) ?_ ?_
          rotate_left
          · intro w'
            go_simp
            with_reducible rfl
          rotate_left
          · simp only [Act.put, List.setIfInBounds_toArray, List.set_cons_zero, List.set_cons_succ, i64_w, i32_w]
            rfl
          refine pure_ (i := 3) (N := some 70) (v := ?_) (a' := ?_) #[true, true, true, true, false, false, false, false, false] rfl rfl (by kernel_rfl) (fun _ _ _ h => h) (Or.inl ⟨by rfl, ?_⟩) ?_ ?_
          rotate_left
          · intro w'
            go_simp
            with_reducible rfl
          rotate_left
          · simp only [Act.put, List.setIfInBounds_toArray, List.set_cons_zero, List.set_cons_succ, i64_w, i32_w]
            rfl
          refine take_ (i := 4) (N := some 71) (v := ?_) (a' := ?_) #[true, true, true, true, true, false, false, false, false] rfl rfl (by kernel_rfl) (fun _ _ _ h => h) (Or.inl ⟨by rfl, ?_⟩) hHeld ?_ ?_
          rotate_left
          · rintro w' ⟨s0, s1, s2, s3⟩
            go_simp
            with_reducible rfl
          rotate_left
          · simp only [Act.put, List.setIfInBounds_toArray, List.set_cons_zero, List.set_cons_succ, i64_w, i32_w]
            rfl
          refine pure_ (i := 5) (N := some 72) (v := ?_) (a' := ?_) #[true, true, true, true, true, true, false, false, false] rfl rfl (by kernel_rfl) (fun _ _ _ h => h) (Or.inl ⟨by rfl, ?_⟩) ?_ ?_
          rotate_left
          · intro w'
            go_simp
            with_reducible rfl
          rotate_left
          · simp only [Act.put, List.setIfInBounds_toArray, List.set_cons_zero, List.set_cons_succ, i64_w, i32_w]
            rfl
          refine take_ (i := 6) (N := some 73) (v := ?_) (a' := ?_) #[true, true, true, true, true, true, true, false, false] rfl rfl (by kernel_rfl) (fun _ _ _ h => h) (Or.inl ⟨by rfl, ?_⟩) hHeld ?_ ?_
          rotate_left
          · rintro w' ⟨s0, s1, s2, s3⟩
            go_simp
            with_reducible rfl
          rotate_left
          · simp only [Act.put, List.setIfInBounds_toArray, List.set_cons_zero, List.set_cons_succ, i64_w, i32_w]
            rfl
          refine pure_ (i := 7) (N := some 74) (v := ?_) (a' := ?_) #[true, true, true, true, true, true, true, true, false] rfl rfl (by kernel_rfl) (fun _ _ _ h => h) (Or.inl ⟨by rfl, ?_⟩) ?_ ?_
          rotate_left
          · intro w'
            go_simp
            with_reducible rfl
          rotate_left
          · simp only [Act.put, List.setIfInBounds_toArray, List.set_cons_zero, List.set_cons_succ, i64_w, i32_w]
            rfl
          refine last_ (i := 8) (N := none) #[true, true, true, true, true, true, true, true, true] rfl rfl (by kernel_rfl) (by decide) (fun K hK => ?_)
          obtain ⟨uN, hu1, hu2⟩ := RWS.out.row j row (by rw [← HP.out.1, List.getElem?_append_right (Nat.le_refl _), Nat.sub_self]; rfl)
          rw [HHN.out] at hu1
          obtain rfl := Option.some.inj hu1
          obtain ⟨ce, hcl, hMe, hcc, hfr⟩ := Kd.R_elem hu2 z36 (i : Int) (by omega) (by have := HQ.out.1; omega)
          obtain rfl := k36_openM hMe
          have hz0 := hcc 0 _ rfl
          have hz1 := hcc 1 _ rfl
          have hf0 := hfr 0
          have hf1 := hfr 1
          simp only [show (k36).sz = 2 from rfl, Nat.mul_one, Nat.add_zero, Int.toNat_natCast] at hz0 hz1 hf0 hf1
          have ep := add_plain gN (i * 2)
          refine skip_ (w1 := ?_) (by rfl) rfl ?_ ?_
          rotate_left
          · go_simp
            rfl
          have hgN := HGN.out
          have hb0 := HB0.out
          have hn3 : g3 ≠ gN := by omega
          have hn5 : g5 ≠ gN := by omega
          have hn6 : g6 ≠ gN := by omega
          have hnO : gO ≠ gN := fun e => by
            obtain ⟨bB, h1_⟩ := Kd.R_typed HOUT.out gO rfl
            obtain ⟨bC, h2_⟩ := Kd.R_typed hu2 gN rfl
            rw [e, h2_] at h1_
            injection h1_ with bb
            injection bb with _ bl
            exact absurd bl (by decide)
          have hge : w0.heap.size ≤ gN ∧ (S gN ∨ w.heap.size ≤ gN) := ⟨by omega, Or.inr (by rw [← HW.out]; omega)⟩
          replace aa := aj (show ((aY.setCell ⟨gN, i * 2, none⟩ (.int .u64 x.f0)).setCell ⟨gN, i * 2 + 1, none⟩ (.int .u64 x.f1)).heap[g3]? = some (.cells #[.int .i64 af, .int .i64 ag, .int .i64 ah, .slice (some ⟨gO, 0, none⟩) ab.length cO] 26 (0, 0)) from blk_far (blk_far aa.out hn3 _) hn3 _)
          replace ac := aj (show ((aY.setCell ⟨gN, i * 2, none⟩ (.int .u64 x.f0)).setCell ⟨gN, i * 2 + 1, none⟩ (.int .u64 x.f1)).heap[g5]? = some (.cells #[.int .u64 x.f0, .int .u64 x.f1] 36 (0, 0)) from blk_far (blk_far ac.out hn5 _) hn5 _)
          replace ae := aj (show ((aY.setCell ⟨gN, i * 2, none⟩ (.int .u64 x.f0)).setCell ⟨gN, i * 2 + 1, none⟩ (.int .u64 x.f1)).heap[g6]? = some (.cells #[.int .i64 0, .int .i64 0, .int .i64 0, .slice none 0 0] 26 (0, 0)) from blk_far (blk_far ae.out hn6 _) hn6 _)
          replace HOUT := aj (show Kd.R (Kd.raw 1) 22 ((aY.setCell ⟨gN, i * 2, none⟩ (.int .u64 x.f0)).setCell ⟨gN, i * 2 + 1, none⟩ (.int .u64 x.f1)) w6.heap.size (fun _ => True) (.slice (some ⟨gO, 0, none⟩) ab.length cO) (hd1 H1) from hd_far (hd_far HOUT.out hnO _ _) hnO _ _)
          replace RWS := aj (show RwI w6.heap.size H1 ((pre ++ [row.set i x])) ((aY.setCell ⟨gN, i * 2, none⟩ (.int .u64 x.f0)).setCell ⟨gN, i * 2 + 1, none⟩ (.int .u64 x.f1)) from RwI.put RWS.out (by rw [HP.out.1]; exact HHN.out) i HQ.out.1 x)
          replace HS := aj (show Stp w0 w S ((aY.setCell ⟨gN, i * 2, none⟩ (.int .u64 x.f0)).setCell ⟨gN, i * 2 + 1, none⟩ (.int .u64 x.f1)) from stp_set (stp_set HS.out hge _ _) hge _ _)
          refine hK.out _ _ ?_
          clear hK K hHeld hz0 hz1 hf0 hf1 hcc hfr hcl hMe hu2 hgN hb0 hn3 hn5 hn6 hnO hge ep
          generalize ((aY.setCell ⟨gN, i * 2, none⟩ (.int .u64 x.f0)).setCell ⟨gN, i * 2 + 1, none⟩ (.int .u64 x.f1)) = bD at aa ac ae HOUT RWS HS ⊢
          refine done_ (by kernel_rfl) ?_
          try go_wp2
          go_roundg k1
          case measure => omega
          case rel => exact ⟨j + 1, i / 2, H1, pre ++ [row.set i x], x, r2, by first | rfl | (rw [show ((i : Int) / 2) = ((i / 2 : Nat) : Int) by omega]), by first | rw [hadd] | rfl, ⟨by rw [List.getLast?_concat]; exact H'.out⟩, ⟨by have := HP.out.1; simp; omega, by rw [HP.out.2]; simp⟩, ⟨⟨by have := HK.out.1; omega, HJ.out⟩⟩, aa, ac, ae, HOUT, HH1, RWS, HS⟩
        · have bx : decide (0 < j) = true := decide_eq_true (by omega)
          have bz : decide (0 < (j : Int)) = true := decide_eq_true (by omega)
          have bA : (0 < j) = True := eq_true (by omega)
          obtain ⟨jp, hjp⟩ : ∃ jp, j - 1 = jp := ⟨_, rfl⟩
          have hsub : wrap64 ((j : Int) - 1) = (jp : Int) := by have := HN.out.1; have := HJ.out; unfold wrap64; omega
          have hpl : jp < pre.length := by have := HP.out.1; omega
          have hlast : pre.getLast? = some pre[jp] := by rw [List.getLast?_eq_getElem?, HP.out.1, hjp]; exact List.getElem?_eq_getElem hpl
          have hx_ := HX.out
          rw [hlast] at hx_
          have hpj : (pre ++ [row])[jp]? = some pre[jp] := by rw [List.getElem?_append_left hpl]; exact List.getElem?_eq_getElem hpl
          generalize pre[jp] = p at hx_ hpj
          clear hlast
          simp only [leafL] at hx_
          by_cases hq2 : 2 * i + 1 < p.length
          · rw [if_pos hq2] at hx_
            obtain ⟨nn, hnn, hx_⟩ := Option.bind_eq_some_iff.mp hx_
            have bu : nn.1 = x.f0 := by rw [← Option.some.inj hx_]
            have bb : nn.2 = x.f1 := by rw [← Option.some.inj hx_]
            rw [show nn = (x.f0, x.f1) from Prod.ext bu bb] at hnn
            have HND := aj hnn
            obtain ⟨j0, hj0_⟩ : ∃ j0, 2 * i = j0 := ⟨_, rfl⟩
            obtain ⟨j1, hj1_⟩ : ∃ j1, 2 * i + 1 = j1 := ⟨_, rfl⟩
            obtain ⟨up, hup, hRp⟩ := RWS.out.row jp p hpj
            obtain ⟨Ap, cp, eup, hcp, hCp⟩ := Kd.R_reads hRp
            subst eup
            have hmx : p.length ≤ 9223372036854775807 := hCp.2.1
            have hb0 : wrap64 (2 * (i : Int)) = (j0 : Int) := by unfold wrap64; omega
            have hb1 : wrap64 ((j0 : Int) + 1) = (j1 : Int) := by unfold wrap64; omega
            obtain ⟨ad, ea, be, bf⟩ := at_T36 hCp (j0 : Int) (by omega) (by omega)
            obtain ⟨ad', ea', bg, bh⟩ := at_T36 hCp (j1 : Int) (by omega) (by omega)
            rw [ea] at ea'
            injection ea' with ea'
            subst ea'
            subst ea
            rw [show rd_T36 p (j0 : Int) = p.getD (2 * i) z36 by unfold rd_T36; rw [Int.toNat_natCast, hj0_]] at be bf
            rw [show rd_T36 p (j1 : Int) = p.getD (2 * i + 1) z36 by unfold rd_T36; rw [Int.toNat_natCast, hj1_]] at bg bh
            simp only [Int.toNat_natCast] at be bf bg bh
            have p0 : (0 ≤ (j0 : Int)) = True := eq_true (by omega)
            have q0 : ((j0 : Int) < (p.length : Int)) = True := eq_true (by omega)
            have p1 : (0 ≤ (j1 : Int)) = True := eq_true (by omega)
            have q1 : ((j1 : Int) < (p.length : Int)) = True := eq_true (by omega)
            have q0n : (j0 < p.length) = True := eq_true (by omega)
            have q1n : (j1 < p.length) = True := eq_true (by omega)
            have p4 : (0 ≤ (jp : Int)) = True := eq_true (by omega)
            have q4 : ((jp : Int) < (ab.length : Int)) = True := eq_true (by have := HJ.out; omega)
            have q4n : (jp < ab.length) = True := eq_true (by have := HJ.out; omega)
            have bE := hd_cell HOUT.out jp _ hup
            have al := bq_ aa 3
            generalize (p.getD (2 * i) z36).f0 = na0 at be HND
            generalize (p.getD (2 * i) z36).f1 = na1 at bf HND
            generalize (p.getD (2 * i + 1) z36).f0 = nb0 at bg HND
            generalize (p.getD (2 * i + 1) z36).f1 = nb1 at bh HND
            clear hnn hx_ bu bb hup hRp hCp hcp hpj hpl hq2 hmx hj0
            go_upto_region 13 with (fail)
            refine start_ (n := 15) (S := fun w' => w'.cell? ⟨g3, 0, none⟩ = some (.int .i64 af) ∧ w'.cell? (ad.add (j0 * 2)) = some (.int .u64 na0) ∧ w'.cell? ⟨(ad.add (j0 * 2)).block, (ad.add (j0 * 2)).off + 1, none⟩ = some (.int .u64 na1) ∧ w'.cell? (ad.add (j1 * 2)) = some (.int .u64 nb0) ∧ w'.cell? ⟨(ad.add (j1 * 2)).block, (ad.add (j1 * 2)).off + 1, none⟩ = some (.int .u64 nb1)) (ds := [14]) #[false, false, false, false, false, false, false, false, false, false, false, false, false, false, false] (by kernel_rfl) rfl rfl ⟨(blk_cell aa.out 0).trans rfl, be, bf, bg, bh⟩ (fun hHeld => ?_)
            replace aa := aj (show w9.drew.heap[g3]? = some (.cells #[.int .i64 af, .int .i64 ag, .int .i64 ah, .slice (some ⟨gO, 0, none⟩) ab.length cO] 26 (0, 0)) from aa.out)
            replace ac := aj (show w9.drew.heap[g5]? = some (.cells #[.int .u64 d.f0, .int .u64 d.f1] 36 (0, 0)) from ac.out)
            replace ae := aj (show w9.drew.heap[g6]? = some (.cells #[.int .i64 0, .int .i64 0, .int .i64 0, .slice none 0 0] 26 (0, 0)) from ae.out)
            replace HOUT := aj (show Kd.R (Kd.raw 1) 22 w9.drew w6.heap.size (fun _ => True) (.slice (some ⟨gO, 0, none⟩) ab.length cO) (hd1 H1) from Kd.R_drew HOUT.out)
            replace RWS := aj (show RwI w6.heap.size H1 ((pre ++ [row])) w9.drew from RWS.out.below (Below.refl _ _).drew)
            replace HS := aj (show Stp w0 w S w9.drew from stp_drew HS.out)
            generalize w9.drew = aY at aa ac ae HOUT RWS HS hHeld ⊢
            clear be bf bg bh bE al
            refine pure_ (i := 0) (N := some 53) (v := ?_) (a' := ?_) #[true, false, false, false, false, false, false, false, false, false, false, false, false, false, false] rfl rfl (by kernel_rfl) (fun _ _ _ h => h) (Or.inl ⟨by rfl, ?_⟩) ?_ ?_
            rotate_left
            · intro w'
              go_simp
              with_reducible rfl
            rotate_left
            · simp only [Act.put, List.setIfInBounds_toArray, List.set_cons_zero, List.set_cons_succ, i64_w, i32_w]
              rfl
            refine take_ (i := 1) (N := some 54) (v := ?_) (a' := ?_) #[true, true, false, false, false, false, false, false, false, false, false, false, false, false, false] rfl rfl (by kernel_rfl) (fun _ _ _ h => h) (Or.inl ⟨by rfl, ?_⟩) hHeld ?_ ?_
            rotate_left
            · rintro w' ⟨s0, s1, s2, s3, s4⟩
              go_simp
              with_reducible rfl
            rotate_left
            · simp only [Act.put, List.setIfInBounds_toArray, List.set_cons_zero, List.set_cons_succ, i64_w, i32_w]
              rfl
            refine pure_ (i := 2) (N := some 55) (v := ?_) (a' := ?_) #[true, true, true, false, false, false, false, false, false, false, false, false, false, false, false] rfl rfl (by kernel_rfl) (fun _ _ _ h => h) (Or.inl ⟨by rfl, ?_⟩) ?_ ?_
            rotate_left
            · intro w'
              go_simp
              with_reducible rfl
            rotate_left
            · simp only [Act.put, List.setIfInBounds_toArray, List.set_cons_zero, List.set_cons_succ, i64_w, i32_w]
              rfl
            refine pure_ (i := 3) (N := some 56) (v := ?_) (a' := ?_) #[true, true, true, true, false, false, false, false, false, false, false, false, false, false, false] rfl rfl (by kernel_rfl) (fun _ _ _ h => h) (Or.inl ⟨by rfl, ?_⟩) ?_ ?_
            rotate_left
            · intro w'
              go_simp
              with_reducible rfl
            rotate_left
            · simp only [Act.put, List.setIfInBounds_toArray, List.set_cons_zero, List.set_cons_succ, i64_w, i32_w]
              rfl
            refine pure_ (i := 4) (N := some 57) (v := ?_) (a' := ?_) #[true, true, true, true, true, false, false, false, false, false, false, false, false, false, false] rfl rfl (by kernel_rfl) (fun _ _ _ h => h) (Or.inl ⟨by rfl, ?_⟩) ?_ ?_
            rotate_left
            · intro w'
              go_simp
              with_reducible rfl
            rotate_left
            · simp only [Act.put, List.setIfInBounds_toArray, List.set_cons_zero, List.set_cons_succ, i64_w, i32_w]
              rfl
            refine pure_ (i := 5) (N := some 58) (v := ?_) (a' := ?_) #[true, true, true, true, true, true, false, false, false, false, false, false, false, false, false] rfl rfl (by kernel_rfl) (fun _ _ _ h => h) (Or.inl ⟨by rfl, ?_⟩) ?_ ?_
            rotate_left
            · intro w'
              go_simp
              with_reducible rfl
            rotate_left
            · simp only [Act.put, List.setIfInBounds_toArray, List.set_cons_zero, List.set_cons_succ, i64_w, i32_w]
              rfl
            refine take_ (i := 6) (N := some 59) (v := ?_) (a' := ?_) #[true, true, true, true, true, true, true, false, false, false, false, false, false, false, false] rfl rfl (by kernel_rfl) (fun _ _ _ h => h) (Or.inl ⟨by rfl, ?_⟩) hHeld ?_ ?_
            rotate_left
            · rintro w' ⟨s0, s1, s2, s3, s4⟩
              go_simp
              with_reducible rfl
            rotate_left
            · simp only [Act.put, List.setIfInBounds_toArray, List.set_cons_zero, List.set_cons_succ, i64_w, i32_w]
              rfl
            refine pure_ (i := 7) (N := some 60) (v := ?_) (a' := ?_) #[true, true, true, true, true, true, true, true, false, false, false, false, false, false, false] rfl rfl (by kernel_rfl) (fun _ _ _ h => h) (Or.inl ⟨by rfl, ?_⟩) ?_ ?_
            rotate_left
            · intro w'
              go_simp
              with_reducible rfl
            rotate_left
            · simp only [Act.put, List.setIfInBounds_toArray, List.set_cons_zero, List.set_cons_succ, i64_w, i32_w]
              rfl
            refine pure_ (i := 8) (N := some 61) (v := ?_) (a' := ?_) #[true, true, true, true, true, true, true, true, true, false, false, false, false, false, false] rfl rfl (by kernel_rfl) (fun _ _ _ h => h) (Or.inl ⟨by rfl, ?_⟩) ?_ ?_
            rotate_left
            · intro w'
              go_simp
              with_reducible rfl
            rotate_left
            · simp only [Act.put, List.setIfInBounds_toArray, List.set_cons_zero, List.set_cons_succ, i64_w, i32_w]
              rfl
            refine pure_ (i := 9) (N := some 62) (v := ?_) (a' := ?_) #[true, true, true, true, true, true, true, true, true, true, false, false, false, false, false] rfl rfl (by kernel_rfl) (fun _ _ _ h => h) (Or.inl ⟨by rfl, ?_⟩) ?_ ?_
            rotate_left
            · intro w'
              go_simp
              with_reducible rfl
            rotate_left
            · simp only [Act.put, List.setIfInBounds_toArray, List.set_cons_zero, List.set_cons_succ, i64_w, i32_w]
              rfl
            refine pure_ (i := 10) (N := some 63) (v := ?_) (a' := ?_) #[true, true, true, true, true, true, true, true, true, true, true, false, false, false, false] rfl rfl (by kernel_rfl) (fun _ _ _ h => h) (Or.inl ⟨by rfl, ?_⟩) ?_ ?_
            rotate_left
            · intro w'
              go_simp
              with_reducible rfl
            rotate_left
            · simp only [Act.put, List.setIfInBounds_toArray, List.set_cons_zero, List.set_cons_succ, i64_w, i32_w]
              rfl
            refine pure_ (i := 11) (N := some 64) (v := ?_) (a' := ?_) #[true, true, true, true, true, true, true, true, true, true, true, true, false, false, false] rfl rfl (by kernel_rfl) (fun _ _ _ h => h) (Or.inl ⟨by rfl, ?_⟩) ?_ ?_
            rotate_left
            · intro w'
              go_simp
              with_reducible rfl
            rotate_left
            · simp only [Act.put, List.setIfInBounds_toArray, List.set_cons_zero, List.set_cons_succ, i64_w, i32_w]
              rfl
            refine take_ (i := 12) (N := some 65) (v := ?_) (a' := ?_) #[true, true, true, true, true, true, true, true, true, true, true, true, true, false, false] rfl rfl (by kernel_rfl) (fun _ _ _ h => h) (Or.inl ⟨by rfl, ?_⟩) hHeld ?_ ?_
            rotate_left
            · rintro w' ⟨s0, s1, s2, s3, s4⟩
              go_simp
              with_reducible rfl
            rotate_left
            · simp only [Act.put, List.setIfInBounds_toArray, List.set_cons_zero, List.set_cons_succ, i64_w, i32_w]
              rfl
            refine one_ (i := 13) (N := some 66) #[true, true, true, true, true, true, true, true, true, true, true, true, true, true, false] rfl rfl (by kernel_rfl) (by decide) (fun K hK => ?_)
            refine goes_ Tryd.func36 (by kernel_rfl) rfl #[.int .i64 af, .agg #[.int .u64 na0, .int .u64 na1], .agg #[.int .u64 nb0, .int .u64 nb1]] (by rfl) rfl rfl (by (try simp only [List.map_toArray, List.map_cons, List.map_nil]); first | done | rfl | (go_simp; done)) ?_
            with_reducible refine (sponge_Node.calls 200 af na0 na1 nb0 nb1 x.f0 x.f1 _ (GL.below HRG.out (stp_b HS.out)) HND.out).mono ?_
            rintro e aF ⟨rfl, hb⟩
            refine ⟨_, rfl, ?_⟩
            replace aa := aj (show aF.heap[g3]? = some (.cells #[.int .i64 af, .int .i64 ag, .int .i64 ah, .slice (some ⟨gO, 0, none⟩) ab.length cO] 26 (0, 0)) from blk_below aa.out hb)
            replace ac := aj (show aF.heap[g5]? = some (.cells #[.int .u64 d.f0, .int .u64 d.f1] 36 (0, 0)) from blk_below ac.out hb)
            replace ae := aj (show aF.heap[g6]? = some (.cells #[.int .i64 0, .int .i64 0, .int .i64 0, .slice none 0 0] 26 (0, 0)) from blk_below ae.out hb)
            replace HOUT := aj (show Kd.R (Kd.raw 1) 22 aF w6.heap.size (fun _ => True) (.slice (some ⟨gO, 0, none⟩) ab.length cO) (hd1 H1) from Kd.R_below HOUT.out hb)
            replace RWS := aj (show RwI w6.heap.size H1 ((pre ++ [row])) aF from RWS.out.below hb)
            replace HS := aj (show Stp w0 w S aF from stp_below HS.out hb)
            refine hK.out _ _ ⟨pw_cell_below hb hHeld.1, pw_cell_below hb hHeld.2.1, pw_cell_below hb hHeld.2.2.1, pw_cell_below hb hHeld.2.2.2.1, pw_cell_below hb hHeld.2.2.2.2⟩ (fun hHeld => ?_)
            clear hK K hb
            refine norm_ (a' := ?_) ?_ ?_
            rotate_left
            · show Act.put _ (some 66) _ = _
              simp only [Act.put, List.setIfInBounds_toArray, List.set_cons_zero, List.set_cons_succ, i64_w, i32_w]
              rfl
            refine last_ (i := 14) (N := none) #[true, true, true, true, true, true, true, true, true, true, true, true, true, true, true] rfl rfl (by kernel_rfl) (by decide) (fun K hK => ?_)
            have aO := bq_ ac 0
            have aP := blk_frozen ac.out 0
            have aQ := bq_ ac 1
            have aR := blk_frozen ac.out 1
            refine skip_ (w1 := ?_) (by rfl) rfl ?_ ?_
            rotate_left
            · go_simp
              rfl
            replace aa := aj (show ((aF.setCell ⟨g5, 0, none⟩ (.int .u64 x.f0)).setCell ⟨g5, 1, none⟩ (.int .u64 x.f1)).heap[g3]? = some (.cells #[.int .i64 af, .int .i64 ag, .int .i64 ah, .slice (some ⟨gO, 0, none⟩) ab.length cO] 26 (0, 0)) from blk_far (blk_far aa.out aB.out _) aB.out _)
            replace ac := aj (show ((aF.setCell ⟨g5, 0, none⟩ (.int .u64 x.f0)).setCell ⟨g5, 1, none⟩ (.int .u64 x.f1)).heap[g5]? = some (.cells #[.int .u64 x.f0, .int .u64 x.f1] 36 (0, 0)) from blk_put (cs := #[.int .u64 x.f0, .int .u64 d.f1]) (blk_put (cs := #[.int .u64 d.f0, .int .u64 d.f1]) ac.out 0 (.int .u64 x.f0) rfl) 1 (.int .u64 x.f1) rfl)
            replace ae := aj (show ((aF.setCell ⟨g5, 0, none⟩ (.int .u64 x.f0)).setCell ⟨g5, 1, none⟩ (.int .u64 x.f1)).heap[g6]? = some (.cells #[.int .i64 0, .int .i64 0, .int .i64 0, .slice none 0 0] 26 (0, 0)) from blk_far (blk_far ae.out aS.out _) aS.out _)
            replace HOUT := aj (show Kd.R (Kd.raw 1) 22 ((aF.setCell ⟨g5, 0, none⟩ (.int .u64 x.f0)).setCell ⟨g5, 1, none⟩ (.int .u64 x.f1)) w6.heap.size (fun _ => True) (.slice (some ⟨gO, 0, none⟩) ab.length cO) (hd1 H1) from R_low (R_low HOUT.out HB0.out.2.2.1 _ _) HB0.out.2.2.1 _ _)
            replace RWS := aj (show RwI w6.heap.size H1 ((pre ++ [row])) ((aF.setCell ⟨g5, 0, none⟩ (.int .u64 x.f0)).setCell ⟨g5, 1, none⟩ (.int .u64 x.f1)) from (RWS.out.setLow HB0.out.2.2.1 _ _).setLow HB0.out.2.2.1 _ _)
            replace HS := aj (show Stp w0 w S ((aF.setCell ⟨g5, 0, none⟩ (.int .u64 x.f0)).setCell ⟨g5, 1, none⟩ (.int .u64 x.f1)) from stp_set (stp_set HS.out bd.out _ _) bd.out _ _)
            refine hK.out _ _ ?_
            clear hK K hHeld aO aQ aP aR
            generalize ((aF.setCell ⟨g5, 0, none⟩ (.int .u64 x.f0)).setCell ⟨g5, 1, none⟩ (.int .u64 x.f1)) = aZ at aa ac ae HOUT RWS HS ⊢
            refine done_ (by kernel_rfl) ?_
            go_upto_region 14 with (fail)
            refine start_ (n := 9) (S := fun w' => w'.cell? ⟨g3, 3, none⟩ = some (.slice (some ⟨gO, 0, none⟩) ab.length cO) ∧ w'.cell? ⟨gO, j, none⟩ = some (.slice (some ⟨gN, 0, none⟩) row.length cN) ∧ w'.cell? ⟨g5, 0, none⟩ = some (.int .u64 x.f0) ∧ w'.cell? ⟨g5, 1, none⟩ = some (.int .u64 x.f1)) (ds := [8]) #[false, false, false, false, false, false, false, false, false] (by kernel_rfl) rfl rfl ⟨(blk_cell aa.out 3).trans rfl, hd_cell HOUT.out j _ HHN.out, (blk_cell ac.out 0).trans rfl, (blk_cell ac.out 1).trans rfl⟩ (fun hHeld => ?_)
            replace aa := aj (show aZ.drew.heap[g3]? = some (.cells #[.int .i64 af, .int .i64 ag, .int .i64 ah, .slice (some ⟨gO, 0, none⟩) ab.length cO] 26 (0, 0)) from aa.out)
            replace ac := aj (show aZ.drew.heap[g5]? = some (.cells #[.int .u64 x.f0, .int .u64 x.f1] 36 (0, 0)) from ac.out)
            replace ae := aj (show aZ.drew.heap[g6]? = some (.cells #[.int .i64 0, .int .i64 0, .int .i64 0, .slice none 0 0] 26 (0, 0)) from ae.out)
            replace HOUT := aj (show Kd.R (Kd.raw 1) 22 aZ.drew w6.heap.size (fun _ => True) (.slice (some ⟨gO, 0, none⟩) ab.length cO) (hd1 H1) from Kd.R_drew HOUT.out)
            replace RWS := aj (show RwI w6.heap.size H1 ((pre ++ [row])) aZ.drew from RWS.out.below (Below.refl _ _).drew)
            replace HS := aj (show Stp w0 w S aZ.drew from stp_drew HS.out)
            generalize aZ.drew = a7 at aa ac ae HOUT RWS HS hHeld ⊢
            refine pure_ (i := 0) (N := some 67) (v := ?_) (a' := ?_) #[true, false, false, false, false, false, false, false, false] rfl rfl (by kernel_rfl) (fun _ _ _ h => h) (Or.inl ⟨by rfl, ?_⟩) ?_ ?_
            rotate_left
            · intro w'
              go_simp
              with_reducible rfl
            rotate_left
            · simp only [Act.put, List.setIfInBounds_toArray, List.set_cons_zero, List.set_cons_succ, i64_w, i32_w]
              rfl
            refine take_ (i := 1) (N := some 68) (v := ?_) (a' := ?_) #[true, true, false, false, false, false, false, false, false] rfl rfl (by kernel_rfl) (fun _ _ _ h => h) (Or.inl ⟨by rfl, ?_⟩) hHeld ?_ ?_
            rotate_left
            · rintro w' ⟨s0, s1, s2, s3⟩
              go_simp
              with_reducible rfl
            rotate_left
            · simp only [Act.put, List.setIfInBounds_toArray, List.set_cons_zero, List.set_cons_succ, i64_w, i32_w]
              rfl
            refine pure_ (i := 2) (N := some 69) (v := ?_) (a' := ?_) #[true, true, true, false, false, false, false, false, false] rfl rfl (by kernel_rfl) (fun _ _ _ h => h) (Or.inl ⟨by rfl, ?_⟩) ?_ ?_
            rotate_left
            · intro w'
              go_simp
              with_reducible rfl
            rotate_left
            · simp only [Act.put, List.setIfInBounds_toArray, List.set_cons_zero, List.set_cons_succ, i64_w, i32_w]
              rfl
            refine pure_ (i := 3) (N := some 70) (v := ?_) (a' := ?_) #[true, true, true, true, false, false, false, false, false] rfl rfl (by kernel_rfl) (fun _ _ _ h => h) (Or.inl ⟨by rfl, ?_⟩) ?_ ?_
            rotate_left
            · intro w'
              go_simp
              with_reducible rfl
            rotate_left
            · simp only [Act.put, List.setIfInBounds_toArray, List.set_cons_zero, List.set_cons_succ, i64_w, i32_w]
              rfl
            refine take_ (i := 4) (N := some 71) (v := ?_) (a' := ?_) #[true, true, true, true, true, false, false, false, false] rfl rfl (by kernel_rfl) (fun _ _ _ h => h) (Or.inl ⟨by rfl, ?_⟩) hHeld ?_ ?_
            rotate_left
            · rintro w' ⟨s0, s1, s2, s3⟩
              go_simp
              with_reducible rfl
            rotate_left
            · simp only [Act.put, List.setIfInBounds_toArray, List.set_cons_zero, List.set_cons_succ, i64_w, i32_w]
              rfl
            refine pure_ (i := 5) (N := some 72) (v := ?_) (a' := ?_) #[true, true, true, true, true, true, false, false, false] rfl rfl (by kernel_rfl) (fun _ _ _ h => h) (Or.inl ⟨by rfl, ?_⟩) ?_ ?_
            rotate_left
            · intro w'
              go_simp
              with_reducible rfl
            rotate_left
            · simp only [Act.put, List.setIfInBounds_toArray, List.set_cons_zero, List.set_cons_succ, i64_w, i32_w]
              rfl
            refine take_ (i := 6) (N := some 73) (v := ?_) (a' := ?_) #[true, true, true, true, true, true, true, false, false] rfl rfl (by kernel_rfl) (fun _ _ _ h => h) (Or.inl ⟨by rfl, ?_⟩) hHeld ?_ ?_
            rotate_left
            · rintro w' ⟨s0, s1, s2, s3⟩
              go_simp
              with_reducible rfl
            rotate_left
            · simp only [Act.put, List.setIfInBounds_toArray, List.set_cons_zero, List.set_cons_succ, i64_w, i32_w]
              rfl
            refine pure_ (i := 7) (N := some 74) (v := ?_) (a' := ?_) #[true, true, true, true, true, true, true, true, false] rfl rfl (by kernel_rfl) (fun _ _ _ h => h) (Or.inl ⟨by rfl, ?_⟩) ?_ ?_
            rotate_left
            · intro w'
              go_simp
              with_reducible rfl
            rotate_left
            · simp only [Act.put, List.setIfInBounds_toArray, List.set_cons_zero, List.set_cons_succ, i64_w, i32_w]
              rfl
            refine last_ (i := 8) (N := none) #[true, true, true, true, true, true, true, true, true] rfl rfl (by kernel_rfl) (by decide) (fun K hK => ?_)
            obtain ⟨uN, hu1, hu2⟩ := RWS.out.row j row (by rw [← HP.out.1, List.getElem?_append_right (Nat.le_refl _), Nat.sub_self]; rfl)
            rw [HHN.out] at hu1
            obtain rfl := Option.some.inj hu1
            obtain ⟨ce, hcl, hMe, hcc, hfr⟩ := Kd.R_elem hu2 z36 (i : Int) (by omega) (by have := HQ.out.1; omega)
            obtain rfl := k36_openM hMe
            have hz0 := hcc 0 _ rfl
            have hz1 := hcc 1 _ rfl
            have hf0 := hfr 0
            have hf1 := hfr 1
            simp only [show (k36).sz = 2 from rfl, Nat.mul_one, Nat.add_zero, Int.toNat_natCast] at hz0 hz1 hf0 hf1
            have ep := add_plain gN (i * 2)
            refine skip_ (w1 := ?_) (by rfl) rfl ?_ ?_
            rotate_left
            · go_simp
              rfl
            have hgN := HGN.out
            have hb0 := HB0.out
            have hn3 : g3 ≠ gN := by omega
            have hn5 : g5 ≠ gN := by omega
            have hn6 : g6 ≠ gN := by omega
            have hnO : gO ≠ gN := fun e => by
              obtain ⟨bB, h1_⟩ := Kd.R_typed HOUT.out gO rfl
              obtain ⟨bC, h2_⟩ := Kd.R_typed hu2 gN rfl
              rw [e, h2_] at h1_
              injection h1_ with bb
              injection bb with _ bl
              exact absurd bl (by decide)
            have hge : w0.heap.size ≤ gN ∧ (S gN ∨ w.heap.size ≤ gN) := ⟨by omega, Or.inr (by rw [← HW.out]; omega)⟩
            replace aa := aj (show ((a7.setCell ⟨gN, i * 2, none⟩ (.int .u64 x.f0)).setCell ⟨gN, i * 2 + 1, none⟩ (.int .u64 x.f1)).heap[g3]? = some (.cells #[.int .i64 af, .int .i64 ag, .int .i64 ah, .slice (some ⟨gO, 0, none⟩) ab.length cO] 26 (0, 0)) from blk_far (blk_far aa.out hn3 _) hn3 _)
            replace ac := aj (show ((a7.setCell ⟨gN, i * 2, none⟩ (.int .u64 x.f0)).setCell ⟨gN, i * 2 + 1, none⟩ (.int .u64 x.f1)).heap[g5]? = some (.cells #[.int .u64 x.f0, .int .u64 x.f1] 36 (0, 0)) from blk_far (blk_far ac.out hn5 _) hn5 _)
            replace ae := aj (show ((a7.setCell ⟨gN, i * 2, none⟩ (.int .u64 x.f0)).setCell ⟨gN, i * 2 + 1, none⟩ (.int .u64 x.f1)).heap[g6]? = some (.cells #[.int .i64 0, .int .i64 0, .int .i64 0, .slice none 0 0] 26 (0, 0)) from blk_far (blk_far ae.out hn6 _) hn6 _)
            replace HOUT := aj (show Kd.R (Kd.raw 1) 22 ((a7.setCell ⟨gN, i * 2, none⟩ (.int .u64 x.f0)).setCell ⟨gN, i * 2 + 1, none⟩ (.int .u64 x.f1)) w6.heap.size (fun _ => True) (.slice (some ⟨gO, 0, none⟩) ab.length cO) (hd1 H1) from hd_far (hd_far HOUT.out hnO _ _) hnO _ _)
            replace RWS := aj (show RwI w6.heap.size H1 ((pre ++ [row.set i x])) ((a7.setCell ⟨gN, i * 2, none⟩ (.int .u64 x.f0)).setCell ⟨gN, i * 2 + 1, none⟩ (.int .u64 x.f1)) from RwI.put RWS.out (by rw [HP.out.1]; exact HHN.out) i HQ.out.1 x)
            replace HS := aj (show Stp w0 w S ((a7.setCell ⟨gN, i * 2, none⟩ (.int .u64 x.f0)).setCell ⟨gN, i * 2 + 1, none⟩ (.int .u64 x.f1)) from stp_set (stp_set HS.out hge _ _) hge _ _)
            refine hK.out _ _ ?_
            clear hK K hHeld hz0 hz1 hf0 hf1 hcc hfr hcl hMe hu2 hgN hb0 hn3 hn5 hn6 hnO hge ep
            generalize ((a7.setCell ⟨gN, i * 2, none⟩ (.int .u64 x.f0)).setCell ⟨gN, i * 2 + 1, none⟩ (.int .u64 x.f1)) = bD at aa ac ae HOUT RWS HS ⊢
            refine done_ (by kernel_rfl) ?_
            try go_wp2
            go_roundg k1
            case measure => omega
            case rel => exact ⟨j + 1, i / 2, H1, pre ++ [row.set i x], x, r2, by first | rfl | (rw [show ((i : Int) / 2) = ((i / 2 : Nat) : Int) by omega]), by first | rw [hadd] | rfl, ⟨by rw [List.getLast?_concat]; exact H'.out⟩, ⟨by have := HP.out.1; simp; omega, by rw [HP.out.2]; simp⟩, ⟨⟨by have := HK.out.1; omega, HJ.out⟩⟩, aa, ac, ae, HOUT, HH1, RWS, HS⟩
          · rw [if_neg hq2] at hx_
            exact absurd hx_ (by simp)
      · rw [if_neg hq] at aD
        exact absurd aD (by simp)
    · have c3b : decide (j < ab.length) = false := decide_eq_false c3
      have hd0 : ab.drop j = [] := List.drop_eq_nil_of_le (by omega)
      have aD := HA.out
      rw [hd0] at aD
      simp only [replL] at aD
      obtain rfl := Option.some.inj aD
      have HRR := aj (show R = pre by rw [HP.out.2, List.append_nil])
      have HLE := aj (show H.length = pre.length by have := HP.out.1; have := HH.out.1; have := HK.out.2; omega)
      clear HA hd0 aD c3
      have am := bq_ aa 0
      have ao := blk_frozen aa.out 0
      have ap := bq_ aa 1
      have aq := blk_frozen aa.out 1
      have ar := bq_ aa 2
      have au := blk_frozen aa.out 2
      have al := bq_ aa 3
      have av := blk_frozen aa.out 3
      have aG := bq_ ae 0
      have aH := blk_frozen ae.out 0
      have aI := bq_ ae 1
      have aJ := blk_frozen ae.out 1
      have aK := bq_ ae 2
      have aL := blk_frozen ae.out 2
      have aM := bq_ ae 3
      have aN := blk_frozen ae.out 3
      go_wp2_with (first
        | ((with_reducible refine gate_store (t := 26) (p := 6) rfl ?_); refine store_event (t := 26) (p := 6) (v := .tmp 78) (w1 := ((((wr.setCell ⟨g6, 0, none⟩ (.int .i64 af)).setCell ⟨g6, 1, none⟩ (.int .i64 ag)).setCell ⟨g6, 2, none⟩ (.int .i64 ah)).setCell ⟨g6, 3, none⟩ (.slice (some ⟨gO, 0, none⟩) ab.length cO))) ?hg ?ho ?hn ?hr ?_; (case ho => rfl); (case hg => rfl); (case hn => rfl); (case hr => first | (go_simp; done) | (go_simp; rfl)); intro bc hw; clear am ao ap aq ar au al av aG aH aI aJ aK aL aM aN; replace aa := aj (show bc.heap[g3]? = some (.cells #[.int .i64 af, .int .i64 ag, .int .i64 ah, .slice (some ⟨gO, 0, none⟩) ab.length cO] 26 (0, 0)) from (by rw [hw]; (repeat (refine blk_far ?_ ay.out _)); exact aa.out)); replace ac := aj (show bc.heap[g5]? = some (.cells #[.int .u64 d.f0, .int .u64 d.f1] 36 (0, 0)) from (by rw [hw]; (repeat (refine blk_far ?_ az.out _)); exact ac.out)); replace ae := aj (show bc.heap[g6]? = some (.cells #[.int .i64 af, .int .i64 ag, .int .i64 ah, .slice (some ⟨gO, 0, none⟩) ab.length cO] 26 (0, 0)) from (by rw [hw]; exact (blk_put (cs := #[.int .i64 af, .int .i64 ag, .int .i64 ah, .slice none 0 0]) (blk_put (cs := #[.int .i64 af, .int .i64 ag, .int .i64 0, .slice none 0 0]) (blk_put (cs := #[.int .i64 af, .int .i64 0, .int .i64 0, .slice none 0 0]) (blk_put (cs := #[.int .i64 0, .int .i64 0, .int .i64 0, .slice none 0 0]) ae.out 0 (.int .i64 af) rfl) 1 (.int .i64 ag) rfl) 2 (.int .i64 ah) rfl) 3 (.slice (some ⟨gO, 0, none⟩) ab.length cO) rfl))); replace HS := aj (show Stp w0 w S bc from (by rw [hw]; exact (stp_set (stp_set (stp_set (stp_set HS.out aA.out 0 (.int .i64 af)) aA.out 1 (.int .i64 ag)) aA.out 2 (.int .i64 ah)) aA.out 3 (.slice (some ⟨gO, 0, none⟩) ab.length cO)))); replace HOUT := aj (show Kd.R (Kd.raw 1) 22 bc w6.heap.size (fun _ => True) (.slice (some ⟨gO, 0, none⟩) ab.length cO) (hd1 H) from (by rw [hw]; exact R_low (R_low (R_low (R_low (HOUT.out) HB0.out.2.2.2 _ _) HB0.out.2.2.2 _ _) HB0.out.2.2.2 _ _) HB0.out.2.2.2 _ _)); replace RWS := aj (show RwI w6.heap.size H pre bc from (by rw [hw]; exact ((((RWS.out).setLow HB0.out.2.2.2 _ _).setLow HB0.out.2.2.2 _ _).setLow HB0.out.2.2.2 _ _).setLow HB0.out.2.2.2 _ _)); skip))
      refine bodyPost_ret (results_list (rs := [.cell 6 26, .tmp 7]) rfl (by simp) (.cell g6 26 #[.int .i64 af, .int .i64 ag, .int .i64 ah, .slice (some ⟨gO, 0, none⟩) ab.length cO] (0, 0) _ rfl ae.out Tryd.underlying26 rfl (by kernel_rfl) (.tmp .nil))) rfl ?_
      obtain rfl := HW.out
      exact ⟨_, rfl, by rw [HRR.out]; exact Kd.S_lower (S_rows HOUT.out HLE.out RWS.out) HB0.out.1, stp_b HS.out⟩
theorem tree_Replace.calls (k : Nat) (af : Int) (ag : Int) (ah : Int) (ai : Option Addr) (ak : Nat) (ab : List (List (S36))) (a1 : Int) (aT : Int) (aU : Int) (r1 : Int) (r2 : Int) (r3 : Int) (r4 : List (List (S36))) (r5 : Int) (w : World) (aw : Kd.C (Kd.slice 36 k36) w ai ab.length ab) (ax : ab.length ≤ ak) (hrG : GL w) (h : tree_Replace.f k af ag ah ab a1 aT aU = some (r1, r2, r3, r4, r5)) :
  Calls Tryd.prog 32 #[.agg #[.int .i64 af, .int .i64 ag, .int .i64 ah, .slice ai ab.length ak], .int .i64 a1, .agg #[.int .u64 aT, .int .u64 aU]] w fun e w' => ∃ aX : Value, e = .returned (.tuple #[.agg #[.int .i64 r1, .int .i64 r2, .int .i64 r3, aX], .int .i64 r5]) ∧ Kd.S (Kd.slice 36 k36) 22 w' w.heap.size (fun _ => True) aX r4 ∧ Below w.heap.size w w' := by
 have bad : ∀ {q : Int}, some ((0 : Int), (0 : Int), (0 : Int), ([] : List (List S36)), q) = some (r1, r2, r3, r4, r5) → (Calls Tryd.prog 32 #[.agg #[.int .i64 af, .int .i64 ag, .int .i64 ah, .slice ai ab.length ak], .int .i64 a1, .agg #[.int .u64 aT, .int .u64 aU]] w fun e w' => e = .returned (.tuple #[.agg #[.int .i64 0, .int .i64 0, .int .i64 0, .slice none 0 0], .int .i64 q]) ∧ Below w.heap.size w w') → Calls Tryd.prog 32 #[.agg #[.int .i64 af, .int .i64 ag, .int .i64 ah, .slice ai ab.length ak], .int .i64 a1, .agg #[.int .u64 aT, .int .u64 aU]] w fun e w' => ∃ aX : Value, e = .returned (.tuple #[.agg #[.int .i64 r1, .int .i64 r2, .int .i64 r3, aX], .int .i64 r5]) ∧ Kd.S (Kd.slice 36 k36) 22 w' w.heap.size (fun _ => True) aX r4 ∧ Below w.heap.size w w' := by
  intro q e c
  simp only [Option.some.injEq, Prod.mk.injEq] at e
  obtain ⟨rfl, rfl, rfl, rfl, rfl⟩ := e
  refine c.mono ?_
  rintro e w' ⟨rfl, hb⟩
  exact ⟨_, rfl, Kd.S_nil _ _ _ _ _, hb⟩
 unfold tree_Replace.f at h
 obtain ⟨e, h1, h⟩ := Option.bind_eq_some_iff.mp h
 by_cases he : e = 0
 ·subst he
  rw [if_pos rfl] at h
  obtain ⟨p, h2, h⟩ := Option.bind_eq_some_iff.mp h
  cases p with
  | false =>
   rw [if_neg (by decide)] at h
   exact bad h (replace_prop k af ag ah ai ak ab a1 aT aU w aw ax hrG h1 h2)
  | true =>
   rw [if_pos rfl] at h
   by_cases hq : 0 ≤ a1 ∧ 0 < ab.length ∧ ab.length ≤ 1000
   ·rw [if_pos hq] at h
    obtain ⟨R, hR, h⟩ := Option.bind_eq_some_iff.mp h
    simp only [Option.some.injEq, Prod.mk.injEq] at h
    obtain ⟨rfl, rfl, rfl, rfl, rfl⟩ := h
    exact replace_go k af ag ah ai ak ab a1 aT aU w aw ax hrG h1 h2 hq.1 hq.2.1 hq.2.2 R hR
   ·rw [if_neg hq] at h
    exact absurd h (by simp)
 ·rw [if_neg he] at h
  exact bad h (replace_place k af ag ah ai ak ab a1 aT aU w aw ax hrG e h1 he)
end Go.Proofs.YtpnpmeogffodgaaDoor.Q
end
