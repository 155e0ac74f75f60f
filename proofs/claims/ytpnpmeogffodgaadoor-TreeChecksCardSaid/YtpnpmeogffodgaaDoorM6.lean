/- Several texts in one, in build order. What they prove, each by its own first remark:
Written by our own copy of a printing program (a twelfth state) out of the translation. Not trusted: Lean checks it.
Of PTreeA what this claim needs.
From the rows' facts on arguments to what the plain laws ask. -/
import Derived.Test.YtpnpmeogffodgaaDoorM2
import Derived.Test.YtpnpmeogffodgaaDoorM3
import Derived.Test.YtpnpmeogffodgaaDoorM4
import Derived.Test.YtpnpmeogffodgaaDoorM5
section
namespace Go.Proofs.YtpnpmeogffodgaaDoor.Q
open Go.RowKit Go.Proofs.YtpnpmeogffodgaaDoorW.PrintWords Go.Proofs.YtpnpmeogffodgaaDoorW.PrintLast Go.Proofs.YtpnpmeogffodgaaDoorW.PrintMore
attribute [local go_sem] max2_int min2_int max_two min_two max_three min_three max_four min_four run_store_fnV run_store_fnc run_store_nfn   -- for this text's walks alone
set_option linter.unusedVariables false
set_option linter.unusedSimpArgs false

/-! ### attestorref07_Proper: function 49 -/
def attestorref07_Proper.f (a0 : Int) (a1_0 : Int) (a1_1 : Int) : Option (Bool) := (attestorref01_P.f a0).bind fun t231 => (if a1_0 < t231 then (some (decide (a1_1 < t231))) else (some false))
set_option maxHeartbeats 8000000 in
set_option maxRecDepth 100000 in
theorem attestorref07_Proper.calls (a0 : Int) (a1_0 : Int) (a1_1 : Int) (r : Bool) (w : World) (h : attestorref07_Proper.f a0 a1_0 a1_1 = some r) :
    Calls Tryd.prog 49 #[.int .i64 a0, .agg #[.int .u64 a1_0, .int .u64 a1_1]] w fun e w' => e = .returned (.bool r) ∧ Below w.heap.size w w' := by
  have hu36 := Tryd.underlying36
  have HB := Aside0.mk (Below.refl w.heap.size w)
  have H : ((attestorref01_P.f a0).bind fun t231 => (if a1_0 < t231 then (some (decide (a1_1 < t231))) else (some false))) = some r := h
  clear h
  replace H := Option.bind_eq_some_iff.mp H
  obtain ⟨t231, A30, H⟩ := H
  replace H : (if a1_0 < t231 then (some (decide (a1_1 < t231))) else (some false)) = some r := H
  have A3 := Aside0.mk A30
  clear A30
  by_cases c4 : a1_0 < t231
  · rw [if_pos c4] at H
    have c4b0 : decide (a1_0 < t231) = true := decide_eq_true c4
    clear c4
    obtain rfl := Option.some.inj H
    go_enter Tryd.func49, Tryd.ntmps49
    go_wp2_with (first | ((with_reducible refine gate_dst (N := 3) rfl ?_); refine box_event ?hg (N := 3) ?hd (cs := #[.int .u64 a1_0, .int .u64 a1_1]) (t := 36) ?hr ?_; (case hd => rfl); (case hg => rfl); (case hr => first | (go_simp; done) | (go_simp; rfl)); intro gb230 hg w5 hbox hb; have n0_ := Aside0.mk (below_step (by repeat (first | (with_reducible first | exact HB.out | apply below_alloc | apply pw_below_drewN | apply below_drew1) | exact HB.out)) hb); have n1_ := Aside0.mk (hbox); have n2_ := Aside0.mk ((by rw [hg]; exact (below_size (by repeat (first | (with_reducible first | exact HB.out | apply below_alloc | apply pw_below_drewN | apply below_drew1) | exact HB.out))) : w.heap.size ≤ gb230)); have n3_ := Aside0.mk ((by rw [hg]; exact (below_size (by repeat (first | (with_reducible first | exact HB.out | apply below_alloc | apply pw_below_drewN | apply below_drew1) | exact HB.out))) : w.heap.size ≤ gb230)); clear HB; have HB := n0_; have BK230 := n1_; have GW230 := n2_; have GE230 := n3_; clear n0_ n1_ n2_ n3_; clear hb hbox hg; have hcz6_0 : w5.cell? ⟨gb230, 0, none⟩ = some (.int .u64 a1_0) := (blk_cell BK230.out 0).trans rfl; have hcz6_1 : w5.cell? ⟨gb230, 1, none⟩ = some (.int .u64 a1_1) := (blk_cell BK230.out 1).trans rfl; have hfz6_0 := blk_frozen BK230.out 0; have hfz6_1 := blk_frozen BK230.out 1) | (go_at_call 34; (with_reducible refine (attestorref01_P.calls a0 t231 _ A3.out).mono ?_); rintro e w' ⟨rfl, ⟨nd, rfl⟩⟩; (try first | exact ⟨rfl, _, World.drewN_drewN _ _ _⟩ | exact ⟨rfl, _, Eq.trans (World.drewN_drewN _ _ _) (congrArg (World.drewN _) (Nat.add_assoc _ _ _))⟩)))
    repeat (go_quiet (first | ((with_reducible refine gate_dst (N := 3) rfl ?_); refine box_event ?hg (N := 3) ?hd (cs := #[.int .u64 a1_0, .int .u64 a1_1]) (t := 36) ?hr ?_; (case hd => rfl); (case hg => rfl); (case hr => first | (go_simp; done) | (go_simp; rfl)); intro gb230 hg w5 hbox hb; have n0_ := Aside0.mk (below_step (by repeat (first | (with_reducible first | exact HB.out | apply below_alloc | apply pw_below_drewN | apply below_drew1) | exact HB.out)) hb); have n1_ := Aside0.mk (hbox); have n2_ := Aside0.mk ((by rw [hg]; exact (below_size (by repeat (first | (with_reducible first | exact HB.out | apply below_alloc | apply pw_below_drewN | apply below_drew1) | exact HB.out))) : w.heap.size ≤ gb230)); have n3_ := Aside0.mk ((by rw [hg]; exact (below_size (by repeat (first | (with_reducible first | exact HB.out | apply below_alloc | apply pw_below_drewN | apply below_drew1) | exact HB.out))) : w.heap.size ≤ gb230)); clear HB; have HB := n0_; have BK230 := n1_; have GW230 := n2_; have GE230 := n3_; clear n0_ n1_ n2_ n3_; clear hb hbox hg; have hcz6_0 : w5.cell? ⟨gb230, 0, none⟩ = some (.int .u64 a1_0) := (blk_cell BK230.out 0).trans rfl; have hcz6_1 : w5.cell? ⟨gb230, 1, none⟩ = some (.int .u64 a1_1) := (blk_cell BK230.out 1).trans rfl; have hfz6_0 := blk_frozen BK230.out 0; have hfz6_1 := blk_frozen BK230.out 1) | (go_at_call 34; (with_reducible refine (attestorref01_P.calls a0 t231 _ A3.out).mono ?_); rintro e w' ⟨rfl, ⟨nd, rfl⟩⟩; (try first | exact ⟨rfl, _, World.drewN_drewN _ _ _⟩ | exact ⟨rfl, _, Eq.trans (World.drewN_drewN _ _ _) (congrArg (World.drewN _) (Nat.add_assoc _ _ _))⟩))); try go_wp2_with (first | ((with_reducible refine gate_dst (N := 3) rfl ?_); refine box_event ?hg (N := 3) ?hd (cs := #[.int .u64 a1_0, .int .u64 a1_1]) (t := 36) ?hr ?_; (case hd => rfl); (case hg => rfl); (case hr => first | (go_simp; done) | (go_simp; rfl)); intro gb230 hg w5 hbox hb; have n0_ := Aside0.mk (below_step (by repeat (first | (with_reducible first | exact HB.out | apply below_alloc | apply pw_below_drewN | apply below_drew1) | exact HB.out)) hb); have n1_ := Aside0.mk (hbox); have n2_ := Aside0.mk ((by rw [hg]; exact (below_size (by repeat (first | (with_reducible first | exact HB.out | apply below_alloc | apply pw_below_drewN | apply below_drew1) | exact HB.out))) : w.heap.size ≤ gb230)); have n3_ := Aside0.mk ((by rw [hg]; exact (below_size (by repeat (first | (with_reducible first | exact HB.out | apply below_alloc | apply pw_below_drewN | apply below_drew1) | exact HB.out))) : w.heap.size ≤ gb230)); clear HB; have HB := n0_; have BK230 := n1_; have GW230 := n2_; have GE230 := n3_; clear n0_ n1_ n2_ n3_; clear hb hbox hg; have hcz6_0 : w5.cell? ⟨gb230, 0, none⟩ = some (.int .u64 a1_0) := (blk_cell BK230.out 0).trans rfl; have hcz6_1 : w5.cell? ⟨gb230, 1, none⟩ = some (.int .u64 a1_1) := (blk_cell BK230.out 1).trans rfl; have hfz6_0 := blk_frozen BK230.out 0; have hfz6_1 := blk_frozen BK230.out 1) | (go_at_call 34; (with_reducible refine (attestorref01_P.calls a0 t231 _ A3.out).mono ?_); rintro e w' ⟨rfl, ⟨nd, rfl⟩⟩; (try first | exact ⟨rfl, _, World.drewN_drewN _ _ _⟩ | exact ⟨rfl, _, Eq.trans (World.drewN_drewN _ _ _) (congrArg (World.drewN _) (Nat.add_assoc _ _ _))⟩))))
    go_ret
    exact ⟨by first | rfl | (simp [errW_none, errW_some] <;> rfl) | (simp [*, errW_none, errW_some] <;> rfl), by repeat (first | (with_reducible first | exact HB.out | apply below_alloc | apply pw_below_drewN | apply below_drew1 | refine below_set ?_ GE230.out) | exact HB.out)⟩
  · rw [if_neg c4] at H
    have c4b0 : decide (a1_0 < t231) = false := decide_eq_false c4
    clear c4
    obtain rfl := Option.some.inj H
    go_enter Tryd.func49, Tryd.ntmps49
    go_wp2_with (first | ((with_reducible refine gate_dst (N := 3) rfl ?_); refine box_event ?hg (N := 3) ?hd (cs := #[.int .u64 a1_0, .int .u64 a1_1]) (t := 36) ?hr ?_; (case hd => rfl); (case hg => rfl); (case hr => first | (go_simp; done) | (go_simp; rfl)); intro gb230 hg w7 hbox hb; have n0_ := Aside0.mk (below_step (by repeat (first | (with_reducible first | exact HB.out | apply below_alloc | apply pw_below_drewN | apply below_drew1) | exact HB.out)) hb); have n1_ := Aside0.mk (hbox); have n2_ := Aside0.mk ((by rw [hg]; exact (below_size (by repeat (first | (with_reducible first | exact HB.out | apply below_alloc | apply pw_below_drewN | apply below_drew1) | exact HB.out))) : w.heap.size ≤ gb230)); have n3_ := Aside0.mk ((by rw [hg]; exact (below_size (by repeat (first | (with_reducible first | exact HB.out | apply below_alloc | apply pw_below_drewN | apply below_drew1) | exact HB.out))) : w.heap.size ≤ gb230)); clear HB; have HB := n0_; have BK230 := n1_; have GW230 := n2_; have GE230 := n3_; clear n0_ n1_ n2_ n3_; clear hb hbox hg; have hcz8_0 : w7.cell? ⟨gb230, 0, none⟩ = some (.int .u64 a1_0) := (blk_cell BK230.out 0).trans rfl; have hcz8_1 : w7.cell? ⟨gb230, 1, none⟩ = some (.int .u64 a1_1) := (blk_cell BK230.out 1).trans rfl; have hfz8_0 := blk_frozen BK230.out 0; have hfz8_1 := blk_frozen BK230.out 1) | (go_at_call 34; (with_reducible refine (attestorref01_P.calls a0 t231 _ A3.out).mono ?_); rintro e w' ⟨rfl, ⟨nd, rfl⟩⟩; (try first | exact ⟨rfl, _, World.drewN_drewN _ _ _⟩ | exact ⟨rfl, _, Eq.trans (World.drewN_drewN _ _ _) (congrArg (World.drewN _) (Nat.add_assoc _ _ _))⟩)))
    repeat (go_quiet (first | ((with_reducible refine gate_dst (N := 3) rfl ?_); refine box_event ?hg (N := 3) ?hd (cs := #[.int .u64 a1_0, .int .u64 a1_1]) (t := 36) ?hr ?_; (case hd => rfl); (case hg => rfl); (case hr => first | (go_simp; done) | (go_simp; rfl)); intro gb230 hg w7 hbox hb; have n0_ := Aside0.mk (below_step (by repeat (first | (with_reducible first | exact HB.out | apply below_alloc | apply pw_below_drewN | apply below_drew1) | exact HB.out)) hb); have n1_ := Aside0.mk (hbox); have n2_ := Aside0.mk ((by rw [hg]; exact (below_size (by repeat (first | (with_reducible first | exact HB.out | apply below_alloc | apply pw_below_drewN | apply below_drew1) | exact HB.out))) : w.heap.size ≤ gb230)); have n3_ := Aside0.mk ((by rw [hg]; exact (below_size (by repeat (first | (with_reducible first | exact HB.out | apply below_alloc | apply pw_below_drewN | apply below_drew1) | exact HB.out))) : w.heap.size ≤ gb230)); clear HB; have HB := n0_; have BK230 := n1_; have GW230 := n2_; have GE230 := n3_; clear n0_ n1_ n2_ n3_; clear hb hbox hg; have hcz8_0 : w7.cell? ⟨gb230, 0, none⟩ = some (.int .u64 a1_0) := (blk_cell BK230.out 0).trans rfl; have hcz8_1 : w7.cell? ⟨gb230, 1, none⟩ = some (.int .u64 a1_1) := (blk_cell BK230.out 1).trans rfl; have hfz8_0 := blk_frozen BK230.out 0; have hfz8_1 := blk_frozen BK230.out 1) | (go_at_call 34; (with_reducible refine (attestorref01_P.calls a0 t231 _ A3.out).mono ?_); rintro e w' ⟨rfl, ⟨nd, rfl⟩⟩; (try first | exact ⟨rfl, _, World.drewN_drewN _ _ _⟩ | exact ⟨rfl, _, Eq.trans (World.drewN_drewN _ _ _) (congrArg (World.drewN _) (Nat.add_assoc _ _ _))⟩))); try go_wp2_with (first | ((with_reducible refine gate_dst (N := 3) rfl ?_); refine box_event ?hg (N := 3) ?hd (cs := #[.int .u64 a1_0, .int .u64 a1_1]) (t := 36) ?hr ?_; (case hd => rfl); (case hg => rfl); (case hr => first | (go_simp; done) | (go_simp; rfl)); intro gb230 hg w7 hbox hb; have n0_ := Aside0.mk (below_step (by repeat (first | (with_reducible first | exact HB.out | apply below_alloc | apply pw_below_drewN | apply below_drew1) | exact HB.out)) hb); have n1_ := Aside0.mk (hbox); have n2_ := Aside0.mk ((by rw [hg]; exact (below_size (by repeat (first | (with_reducible first | exact HB.out | apply below_alloc | apply pw_below_drewN | apply below_drew1) | exact HB.out))) : w.heap.size ≤ gb230)); have n3_ := Aside0.mk ((by rw [hg]; exact (below_size (by repeat (first | (with_reducible first | exact HB.out | apply below_alloc | apply pw_below_drewN | apply below_drew1) | exact HB.out))) : w.heap.size ≤ gb230)); clear HB; have HB := n0_; have BK230 := n1_; have GW230 := n2_; have GE230 := n3_; clear n0_ n1_ n2_ n3_; clear hb hbox hg; have hcz8_0 : w7.cell? ⟨gb230, 0, none⟩ = some (.int .u64 a1_0) := (blk_cell BK230.out 0).trans rfl; have hcz8_1 : w7.cell? ⟨gb230, 1, none⟩ = some (.int .u64 a1_1) := (blk_cell BK230.out 1).trans rfl; have hfz8_0 := blk_frozen BK230.out 0; have hfz8_1 := blk_frozen BK230.out 1) | (go_at_call 34; (with_reducible refine (attestorref01_P.calls a0 t231 _ A3.out).mono ?_); rintro e w' ⟨rfl, ⟨nd, rfl⟩⟩; (try first | exact ⟨rfl, _, World.drewN_drewN _ _ _⟩ | exact ⟨rfl, _, Eq.trans (World.drewN_drewN _ _ _) (congrArg (World.drewN _) (Nat.add_assoc _ _ _))⟩))))
    go_ret
    exact ⟨by first | rfl | (simp [errW_none, errW_some] <;> rfl) | (simp [*, errW_none, errW_some] <;> rfl), by repeat (first | (with_reducible first | exact HB.out | apply below_alloc | apply pw_below_drewN | apply below_drew1 | refine below_set ?_ GE230.out) | exact HB.out)⟩

end Go.Proofs.YtpnpmeogffodgaaDoor.Q
end
section
namespace Go.Proofs.YtpnpmeogffodgaaDoor.Q
open Go.RowKit Go.Proofs.YtpnpmeogffodgaaDoorW.PrintWords Go.Proofs.YtpnpmeogffodgaaDoorW.PrintLast Go.Proofs.YtpnpmeogffodgaaDoorW.PrintMore
attribute [local go_sem] max2_int min2_int max_two min_two max_three min_three max_four min_four run_store_fnV run_store_fnc run_store_nfn   -- for this text's walks alone
set_option linter.unusedVariables false
set_option linter.unusedSimpArgs false

/-! ### attestorref07_All: function 43 -/
def attestorref07_All.l0 : Nat → Int → List (S36) → Int → Option (Bool)
  | 0, _, _, _ => none
  | k + 1, x0, x1, x5 => if x5 < (x1.length : Int) then (if 0 ≤ x5 then ((attestorref07_Proper.f x0 ((rd_T36 x1 x5).f0) ((rd_T36 x1 x5).f1)).bind fun t233 => (if t233 = true then (attestorref07_All.l0 k x0 x1 (wrap64 (x5 + 1))) else (some false))) else (none)) else (some true)
def attestorref07_All.f (k : Nat) (a0 : Int) (l1 : List (S36)) : Option (Bool) := attestorref07_All.l0 k a0 l1 0
theorem attestorref07_All.mono_l : ∀ k, (∀ y0 y1 y2, LeO (attestorref07_All.l0 k y0 y1 y2) (attestorref07_All.l0 (k + 1) y0 y1 y2))
  | 0 => fun _ _ _ r h => by simp [attestorref07_All.l0] at h
  | k + 1 => by
    have ih0 := attestorref07_All.mono_l k
    · intro y0 y1 y2
      unfold attestorref07_All.l0
      repeat' first
      | (with_reducible exact ih0 _ _ _)
      | (with_reducible exact LeO.refl _)
      | (with_reducible exact LeO.none _)
      | (with_reducible refine LeO.ite ?_ ?_)
      | (with_reducible refine LeO.bind ?_ (fun _ => ?_))
      | exact ih0 _ _ _
      | exact LeO.none _
      | refine LeO.ite ?_ ?_
      | refine LeO.bind ?_ (fun _ => ?_)
theorem attestorref07_All.mono : ∀ a0 a1 k, LeO (attestorref07_All.f k a0 a1) (attestorref07_All.f (k + 1) a0 a1) := by
  intro a0 a1 k
  have ih0 := attestorref07_All.mono_l k
  unfold attestorref07_All.f
  repeat' first
      | (with_reducible exact ih0 _ _ _)
      | (with_reducible exact LeO.refl _)
      | (with_reducible exact LeO.none _)
      | (with_reducible refine LeO.ite ?_ ?_)
      | (with_reducible refine LeO.bind ?_ (fun _ => ?_))
      | exact ih0 _ _ _
      | exact LeO.none _
      | refine LeO.ite ?_ ?_
      | refine LeO.bind ?_ (fun _ => ?_)
set_option maxHeartbeats 8000000 in
set_option maxRecDepth 100000 in
theorem attestorref07_All.calls (k : Nat) (a0 : Int) (A1 : Option Addr) (c1 : Nat) (l1 : List (S36)) (r : Bool) (w : World) (hr1 : Kd.C k36 w A1 l1.length l1) (hc1 : l1.length ≤ c1) (h : attestorref07_All.f k a0 l1 = some r) :
    Calls Tryd.prog 43 #[.int .i64 a0, .slice A1 l1.length c1] w fun e w' => e = .returned (.bool r) ∧ Below w.heap.size w w' := by
  have hu36 := Tryd.underlying36
  have HR1 := Aside0.mk hr1
  have HC1 := Aside0.mk hc1
  clear hr1 hc1
  have HB := Aside0.mk (Below.refl w.heap.size w)
  have H : (attestorref07_All.l0 k a0 l1 0) = some r := h
  clear h
  have H' := Aside0.mk H
  clear H
  go_enter Tryd.func43, Tryd.ntmps43
  go_wp2
  go_loopg [5] k (fun kq v5 w' => ∃ (x5_1 : Int), v5 = .int .i64 x5_1 ∧ Aside0 (attestorref07_All.l0 kq a0 l1 x5_1 = some r) ∧ Aside0 (kq ≤ k) ∧ Aside0 (Below w.heap.size w w'))
  case atStart => exact ⟨(0), (by first | rfl | (simp; done) | (simp [*]; done) | (simp; rfl) | (simp; decide +kernel)), H', ⟨Nat.le_refl _⟩, ⟨by repeat (first | (with_reducible first | exact HB.out | apply below_alloc | apply pw_below_drewN | apply below_drew1) | exact HB.out)⟩⟩
  case round =>
    clear H'
    try clear c1
    try clear p2
    obtain ⟨x5_1, rfl, HA, HK1, HB⟩ := hrel
    cases gk with
    | zero => exact absurd HA.out (by simp [attestorref07_All.l0])
    | succ k1 =>
      have H := HA.out
      clear HA
      simp only [attestorref07_All.l0] at H
      by_cases c3 : x5_1 < (l1.length : Int)
      · rw [if_pos c3] at H
        have c3b0 : decide (x5_1 < (l1.length : Int)) = true := decide_eq_true c3
        clear c3
        by_cases c4 : 0 ≤ x5_1
        · rw [if_pos c4] at H
          have c4b0 : decide (0 ≤ x5_1) = true := decide_eq_true c4
          clear c4
          replace H := Option.bind_eq_some_iff.mp H
          obtain ⟨t233, A50, H⟩ := H
          replace H : (if t233 = true then (attestorref07_All.l0 k1 a0 l1 (wrap64 (x5_1 + 1))) else (some false)) = some r := H
          have A5 := Aside0.mk A50
          clear A50
          by_cases c6 : t233 = true
          · subst c6
            have H1 : (attestorref07_All.l0 k1 a0 l1 (wrap64 (x5_1 + 1))) = some r := by rw [if_pos rfl] at H; exact H
            clear H
            have H := H1
            clear H1
            have H' := Aside0.mk H
            clear H
            have p232 : 0 ≤ (x5_1 : Int) := of_decide_eq_true (by first | (with_reducible assumption) | assumption)
            have q232 : x5_1 < (l1.length : Int) := of_decide_eq_true (by first | (with_reducible assumption) | assumption)
            obtain ⟨ad232, e232, hx232_0, hx232_1⟩ := at_T36 HR1.out x5_1 p232 q232
            cases e232
            replace hx232_0 := (HB.out.cell (World.block_lt_of_cell? w _ hx232_0)).trans hx232_0
            replace hx232_1 := (HB.out.cell (World.block_lt_of_cell? w _ hx232_1)).trans hx232_1
            replace p232 := eq_true p232
            replace q232 := eq_true q232
            go_wp2_with (first | ((with_reducible refine gate_callee (f := 49) rfl ?_); refine goesL_ (some 17) rfl rfl Tryd.func49 (by kernel_rfl) rfl #[.int .i64 a0, .agg #[.int .u64 ((rd_T36 l1 x5_1).f0), .int .u64 ((rd_T36 l1 x5_1).f1)]] rfl (by (try simp only [List.map_toArray, List.map_cons, List.map_nil]); first | done | rfl | (simp only [List.length_drop, List.length_take]; rfl) | (go_simp; done) | (go_simp; rw [Int.tmod_eq_emod_of_nonneg (by omega)]; omega)) ?_; (with_reducible refine (attestorref07_Proper.calls a0 ((rd_T36 l1 x5_1).f0) ((rd_T36 l1 x5_1).f1) true _ A5.out).mono ?_); rintro e w7 ⟨rfl, hb⟩; refine ⟨_, rfl, ?_⟩; have n0_ := Aside0.mk (below_step (by repeat (first | (with_reducible first | exact HB.out | apply below_alloc | apply pw_below_drewN | apply below_drew1) | exact HB.out)) hb); clear HB; have HB := n0_; clear n0_; (try clear hb); (try clear hb2); (try clear hk); (try clear hi)))
            go_roundg k1
            case measure => have := HK1.out; omega
            case rel => exact ⟨(wrap64 (x5_1 + 1)), (by first | rfl | (simp; done) | (simp [*]; done) | (simp; rfl) | (simp; decide +kernel)), H', ⟨by have := HK1.out; omega⟩, ⟨by repeat (first | (with_reducible first | exact HB.out | apply below_alloc | apply pw_below_drewN | apply below_drew1) | exact HB.out)⟩⟩
          · replace c6 := Bool.eq_false_iff.mpr c6
            subst c6
            have H1 : (some false) = some r := by rw [if_neg (show ¬ (false = true) by decide)] at H; exact H
            clear H
            have H := H1
            clear H1
            obtain rfl := Option.some.inj H
            have p232 : 0 ≤ (x5_1 : Int) := of_decide_eq_true (by first | (with_reducible assumption) | assumption)
            have q232 : x5_1 < (l1.length : Int) := of_decide_eq_true (by first | (with_reducible assumption) | assumption)
            obtain ⟨ad232, e232, hx232_0, hx232_1⟩ := at_T36 HR1.out x5_1 p232 q232
            cases e232
            replace hx232_0 := (HB.out.cell (World.block_lt_of_cell? w _ hx232_0)).trans hx232_0
            replace hx232_1 := (HB.out.cell (World.block_lt_of_cell? w _ hx232_1)).trans hx232_1
            replace p232 := eq_true p232
            replace q232 := eq_true q232
            go_wp2_with (first | ((with_reducible refine gate_callee (f := 49) rfl ?_); refine goesL_ (some 17) rfl rfl Tryd.func49 (by kernel_rfl) rfl #[.int .i64 a0, .agg #[.int .u64 ((rd_T36 l1 x5_1).f0), .int .u64 ((rd_T36 l1 x5_1).f1)]] rfl (by (try simp only [List.map_toArray, List.map_cons, List.map_nil]); first | done | rfl | (simp only [List.length_drop, List.length_take]; rfl) | (go_simp; done) | (go_simp; rw [Int.tmod_eq_emod_of_nonneg (by omega)]; omega)) ?_; (with_reducible refine (attestorref07_Proper.calls a0 ((rd_T36 l1 x5_1).f0) ((rd_T36 l1 x5_1).f1) false _ A5.out).mono ?_); rintro e w8 ⟨rfl, hb⟩; refine ⟨_, rfl, ?_⟩; have n0_ := Aside0.mk (below_step (by repeat (first | (with_reducible first | exact HB.out | apply below_alloc | apply pw_below_drewN | apply below_drew1) | exact HB.out)) hb); clear HB; have HB := n0_; clear n0_; (try clear hb); (try clear hb2); (try clear hk); (try clear hi)))
            go_ret
            exact ⟨by first | rfl | (simp [errW_none, errW_some] <;> rfl) | (simp [*, errW_none, errW_some] <;> rfl), by repeat (first | (with_reducible first | exact HB.out | apply below_alloc | apply pw_below_drewN | apply below_drew1) | exact HB.out)⟩
        · rw [if_neg c4] at H
          exact absurd H (by simp)
      · rw [if_neg c3] at H
        have c3b0 : decide (x5_1 < (l1.length : Int)) = false := decide_eq_false c3
        clear c3
        obtain rfl := Option.some.inj H
        go_wp2
        go_ret
        exact ⟨by first | rfl | (simp [errW_none, errW_some] <;> rfl) | (simp [*, errW_none, errW_some] <;> rfl), by repeat (first | (with_reducible first | exact HB.out | apply below_alloc | apply pw_below_drewN | apply below_drew1) | exact HB.out)⟩

end Go.Proofs.YtpnpmeogffodgaaDoor.Q
end
section
namespace Go.Proofs.YtpnpmeogffodgaaDoor.Q
open Go.RowKit Go.Proofs.YtpnpmeogffodgaaDoorW.PrintWords Go.Proofs.YtpnpmeogffodgaaDoorW.PrintLast Go.Proofs.YtpnpmeogffodgaaDoorW.PrintMore
attribute [local go_sem] max2_int min2_int max_two min_two max_three min_three max_four min_four run_store_fnV run_store_fnc run_store_nfn   -- for this text's walks alone
set_option linter.unusedVariables false
set_option linter.unusedSimpArgs false

abbrev z44_0_ : Array Bool := #[false, false, false, false, false, false, false, false, false, false, false, false, false, false]
abbrev z44_1_ : Array Bool := #[true, false, false, false, false, false, false, false, false, false, false, false, false, false]
abbrev z44_2_ : Array Bool := #[true, true, false, false, false, false, false, false, false, false, false, false, false, false]
abbrev z44_3_ : Array Bool := #[true, true, false, true, false, false, false, false, false, false, false, false, false, false]
abbrev z44_4_ : Array Bool := #[true, true, false, true, false, false, true, false, false, false, false, false, false, false]
abbrev z44_5_ : Array Bool := #[true, true, false, true, false, false, true, true, false, false, false, false, false, false]
abbrev z44_6_ : Array Bool := #[true, true, false, true, false, false, true, true, false, true, false, false, false, false]
abbrev z44_7_ : Array Bool := #[true, true, true, true, false, false, true, true, false, true, false, false, false, false]
abbrev z44_8_ : Array Bool := #[true, true, true, true, true, false, true, true, false, true, false, false, false, false]
abbrev z44_9_ : Array Bool := #[true, true, true, true, true, false, true, true, true, true, false, false, false, false]
abbrev z44_10_ : Array Bool := #[true, true, true, true, true, false, true, true, true, true, true, false, false, false]
abbrev z44_11_ : Array Bool := #[true, true, true, true, true, true, true, true, true, true, true, false, false, false]
abbrev z44_12_ : Array Bool := #[true, true, true, true, true, true, true, true, true, true, true, true, false, false]
abbrev z44_13_ : Array Bool := #[true, true, true, true, true, true, true, true, true, true, true, true, true, false]
abbrev z44_14_ : Array Bool := #[true, true, true, true, true, true, true, true, true, true, true, true, true, true]
/-! ### attestorref06_Node: function 44 -/
def attestorref06_Node.f (k : Nat) (a0 : Int) (a1_0 : Int) (a1_1 : Int) (a2_0 : Int) (a2_1 : Int) : Option (Int × Int) := (attestorref01_Valid.f a0).bind fun t273 => (if t273 = true then ((attestorref06_Perm.f k a0 a1_0 a1_1 a2_0 a2_1).bind fun bt274 => ((attestorref01_Add.f a0 bt274.1 a1_0).bind fun t279 => ((attestorref01_Add.f a0 bt274.2.1 a1_1).bind fun t280 => (some (t279, t280))))) else (some (0, 0)))
theorem attestorref06_Node.mono : ∀ a0 a1 a2 a3 a4 k, LeO (attestorref06_Node.f k a0 a1 a2 a3 a4) (attestorref06_Node.f (k + 1) a0 a1 a2 a3 a4) := by
  intro a0 a1 a2 a3 a4 k
  unfold attestorref06_Node.f
  repeat' first
      | (with_reducible exact attestorref06_Perm.mono _ _ _ _ _ _)
      | (with_reducible exact LeO.refl _)
      | (with_reducible exact LeO.none _)
      | (with_reducible refine LeO.ite ?_ ?_)
      | (with_reducible refine LeO.bind ?_ (fun _ => ?_))
      | exact attestorref06_Perm.mono _ _ _ _ _ _
      | exact LeO.none _
      | refine LeO.ite ?_ ?_
      | refine LeO.bind ?_ (fun _ => ?_)
def attestorref06_Node.T4 : Bool × List (List Nat × List Nat) := (true, [([], []), ([], []), ([1], [1]), ([], []), ([3], [3]), ([0, 2, 4], [0, 2, 4]), ([], []), ([], []), ([7], [7]), ([], []), ([9], [9]), ([6, 8, 10, 5], [6, 8, 10]), ([5, 11], [5, 11]), ([12, 11, 0, 1, 2, 3, 4, 5, 6, 7, 8, 9, 10, 11, 12], [12])])
def attestorref06_Node.B4 : List Nat := [0, 0, 2, 0, 8, 31, 0, 0, 128, 0, 512, 2047, 4095, 8191]
theorem attestorref06_Node.tab4 : rtab .any (opsOf Tryd.f44 4) = attestorref06_Node.T4 := by kernel_rfl
theorem attestorref06_Node.bits4 : waitsOk attestorref06_Node.T4.2 attestorref06_Node.B4 = true := by kernel_rfl
set_option maxHeartbeats 8000000 in
set_option maxRecDepth 100000 in
theorem attestorref06_Node.calls (k : Nat) (a0 : Int) (a1_0 : Int) (a1_1 : Int) (a2_0 : Int) (a2_1 : Int) (r1 : Int) (r2 : Int) (w : World) (h : attestorref06_Node.f k a0 a1_0 a1_1 a2_0 a2_1 = some (r1, r2)) :
  Calls Tryd.prog 44 #[.int .i64 a0, .agg #[.int .u64 a1_0, .int .u64 a1_1], .agg #[.int .u64 a2_0, .int .u64 a2_1]] w fun e w' => e = .returned (.agg #[.int .u64 r1, .int .u64 r2]) ∧ Below w.heap.size w w' := by
 have hu36 := Tryd.underlying36
 have hu80 := Tryd.underlying80
 have HB := Aside0.mk (Below.refl w.heap.size w)
 have H : ((attestorref01_Valid.f a0).bind fun t273 => (if t273 = true then ((attestorref06_Perm.f k a0 a1_0 a1_1 a2_0 a2_1).bind fun bt274 => ((attestorref01_Add.f a0 bt274.1 a1_0).bind fun t279 => ((attestorref01_Add.f a0 bt274.2.1 a1_1).bind fun t280 => (some (t279, t280))))) else (some (0, 0)))) = some (r1, r2) := h
 clear h
 replace H := Option.bind_eq_some_iff.mp H
 obtain ⟨t273, A40, H⟩ := H
 have A4 := Aside0.mk A40
 clear A40
 by_cases c5 : t273 = true
 ·subst c5
  have H1 : ((attestorref06_Perm.f k a0 a1_0 a1_1 a2_0 a2_1).bind fun bt274 => ((attestorref01_Add.f a0 bt274.1 a1_0).bind fun t279 => ((attestorref01_Add.f a0 bt274.2.1 a1_1).bind fun t280 => (some (t279, t280))))) = some (r1, r2) := by rw [if_pos rfl] at H; exact H
  clear H
  have H := H1
  clear H1
  replace H := Option.bind_eq_some_iff.mp H
  obtain ⟨⟨t274, t275, t276, t277⟩, A60, H⟩ := H
  replace H : ((attestorref01_Add.f a0 t274 a1_0).bind fun t279 => ((attestorref01_Add.f a0 t275 a1_1).bind fun t280 => (some (t279, t280)))) = some (r1, r2) := H
  have A6 := Aside0.mk A60
  clear A60
  replace H := Option.bind_eq_some_iff.mp H
  obtain ⟨t279, A70, H⟩ := H
  have A7 := Aside0.mk A70
  clear A70
  replace H := Option.bind_eq_some_iff.mp H
  obtain ⟨t280, A80, H⟩ := H
  have A8 := Aside0.mk A80
  clear A80
  simp only [Option.some.injEq, Prod.mk.injEq] at H
  obtain ⟨rfl, rfl⟩ := H
  go_enter Tryd.func44, Tryd.ntmps44
  try go_wp2_with (first | ((with_reducible refine gate_dst (N := 4) rfl ?_); refine box_event ?hg (N := 4) ?hd (cs := #[.int .u64 a1_0, .int .u64 a1_1]) (t := 36) ?hr ?_; (case hd => rfl); (case hg => rfl); (case hr => first | (go_simp; done) | (go_simp; rfl)); intro g270 hg w9 hbox hb; have n0_ := Aside0.mk (below_step (by repeat (first | (with_reducible first | exact HB.out | apply below_alloc | apply pw_below_drewN | apply below_drew1) | exact HB.out)) hb); have n1_ := Aside0.mk (hbox); have n2_ := Aside0.mk ((by rw [hg]; exact (below_size (by repeat (first | (with_reducible first | exact HB.out | apply below_alloc | apply pw_below_drewN | apply below_drew1) | exact HB.out))) : w.heap.size ≤ g270)); have n3_ := Aside0.mk ((by rw [hg]; exact (below_size (by repeat (first | (with_reducible first | exact HB.out | apply below_alloc | apply pw_below_drewN | apply below_drew1) | exact HB.out))) : w.heap.size ≤ g270)); clear HB; have HB := n0_; have B270 := n1_; have GW270 := n2_; have GE270 := n3_; clear n0_ n1_ n2_ n3_; clear hb hbox hg) | ((with_reducible refine gate_dst (N := 5) rfl ?_); refine box_event ?hg (N := 5) ?hd (cs := #[.int .u64 a2_0, .int .u64 a2_1]) (t := 36) ?hr ?_; (case hd => rfl); (case hg => rfl); (case hr => first | (go_simp; done) | (go_simp; rfl)); intro g271 hg w10 hbox hb; have n0_ := Aside0.mk (blk_below (g := g270) (o := .cells #[.int .u64 a1_0, .int .u64 a1_1] 36 (0, 0)) (by exact B270.out) hb); have n1_ := Aside0.mk (below_step (by repeat (first | (with_reducible first | exact HB.out | apply below_alloc | apply pw_below_drewN | apply below_drew1 | refine below_set ?_ GE270.out) | exact HB.out)) hb); have n2_ := Aside0.mk (hbox); have n3_ := Aside0.mk ((by rw [hg]; exact (below_size (by repeat (first | (with_reducible first | exact HB.out | apply below_alloc | apply pw_below_drewN | apply below_drew1 | refine below_set ?_ GE270.out) | exact HB.out))) : w.heap.size ≤ g271)); have n4_ := Aside0.mk ((by rw [hg]; exact (below_size (by repeat (first | (with_reducible first | exact HB.out | apply below_alloc | apply pw_below_drewN | apply below_drew1 | refine below_set ?_ GE270.out) | exact HB.out))) : w.heap.size ≤ g271)); have n5_ := Aside0.mk ((by rw [hg]; exact Nat.ne_of_lt (blk_lt (g := g270) (o := .cells #[.int .u64 a1_0, .int .u64 a1_1] 36 (0, 0)) (by exact B270.out)) : g270 ≠ g271)); have n6_ := Aside0.mk ((by rw [hg]; exact Nat.ne_of_gt (blk_lt (g := g270) (o := .cells #[.int .u64 a1_0, .int .u64 a1_1] 36 (0, 0)) (by exact B270.out)) : g271 ≠ g270)); clear B270; clear HB; have B270 := n0_; have HB := n1_; have B271 := n2_; have GW271 := n3_; have GE271 := n4_; have NB270_271 := n5_; have NB271_270 := n6_; clear n0_ n1_ n2_ n3_ n4_ n5_ n6_; clear hb hbox hg) | ((with_reducible refine gate_dst (N := 6) rfl ?_); refine box_event ?hg (N := 6) ?hd (cs := #[.int .u64 0, .int .u64 0]) (t := 36) ?hr ?_; (case hd => rfl); (case hg => rfl); (case hr => first | (go_simp; done) | (go_simp; rfl)); intro g272 hg w11 hbox hb; have n0_ := Aside0.mk (blk_below (g := g270) (o := .cells #[.int .u64 a1_0, .int .u64 a1_1] 36 (0, 0)) (by exact B270.out) hb); have n1_ := Aside0.mk (blk_below (g := g271) (o := .cells #[.int .u64 a2_0, .int .u64 a2_1] 36 (0, 0)) (by exact B271.out) hb); have n2_ := Aside0.mk (below_step (by repeat (first | (with_reducible first | exact HB.out | apply below_alloc | apply pw_below_drewN | apply below_drew1 | refine below_set ?_ GE270.out | refine below_set ?_ GE271.out) | exact HB.out)) hb); have n3_ := Aside0.mk (hbox); have n4_ := Aside0.mk ((by rw [hg]; exact (below_size (by repeat (first | (with_reducible first | exact HB.out | apply below_alloc | apply pw_below_drewN | apply below_drew1 | refine below_set ?_ GE270.out | refine below_set ?_ GE271.out) | exact HB.out))) : w.heap.size ≤ g272)); have n5_ := Aside0.mk ((by rw [hg]; exact (below_size (by repeat (first | (with_reducible first | exact HB.out | apply below_alloc | apply pw_below_drewN | apply below_drew1 | refine below_set ?_ GE270.out | refine below_set ?_ GE271.out) | exact HB.out))) : w.heap.size ≤ g272)); have n6_ := Aside0.mk ((by rw [hg]; exact Nat.ne_of_lt (blk_lt (g := g270) (o := .cells #[.int .u64 a1_0, .int .u64 a1_1] 36 (0, 0)) (by exact B270.out)) : g270 ≠ g272)); have n7_ := Aside0.mk ((by rw [hg]; exact Nat.ne_of_gt (blk_lt (g := g270) (o := .cells #[.int .u64 a1_0, .int .u64 a1_1] 36 (0, 0)) (by exact B270.out)) : g272 ≠ g270)); have n8_ := Aside0.mk ((by rw [hg]; exact Nat.ne_of_lt (blk_lt (g := g271) (o := .cells #[.int .u64 a2_0, .int .u64 a2_1] 36 (0, 0)) (by exact B271.out)) : g271 ≠ g272)); have n9_ := Aside0.mk ((by rw [hg]; exact Nat.ne_of_gt (blk_lt (g := g271) (o := .cells #[.int .u64 a2_0, .int .u64 a2_1] 36 (0, 0)) (by exact B271.out)) : g272 ≠ g271)); clear B270; clear B271; clear HB; have B270 := n0_; have B271 := n1_; have HB := n2_; have B272 := n3_; have GW272 := n4_; have GE272 := n5_; have NB270_272 := n6_; have NB272_270 := n7_; have NB271_272 := n8_; have NB272_271 := n9_; clear n0_ n1_ n2_ n3_ n4_ n5_ n6_ n7_ n8_ n9_; clear hb hbox hg) | ((with_reducible refine gate_callee (f := 42) rfl ?_); refine goesL_ (some 9) rfl rfl Tryd.func42 (by kernel_rfl) rfl #[.int .i64 a0] rfl (by (try simp only [List.map_toArray, List.map_cons, List.map_nil]); first | done | rfl | (go_simp; done)) ?_; (with_reducible refine (attestorref01_Valid.calls a0 true _ A4.out).mono ?_); rintro e w' ⟨rfl, ⟨nd, rfl⟩⟩; refine ⟨_, rfl, ?_⟩; (try (rw [drewN_self w11]; generalize q_ : World.drewN w11 _ = w11; have n0_ : Aside0 (w11.heap[g270]? = some (.cells #[.int .u64 a1_0, .int .u64 a1_1] 36 (0, 0))) := ⟨by rw [← q_]; exact (by exact B270.out)⟩; have n1_ : Aside0 (w11.heap[g271]? = some (.cells #[.int .u64 a2_0, .int .u64 a2_1] 36 (0, 0))) := ⟨by rw [← q_]; exact (by exact B271.out)⟩; have n2_ : Aside0 (w11.heap[g272]? = some (.cells #[.int .u64 0, .int .u64 0] 36 (0, 0))) := ⟨by rw [← q_]; exact (by exact B272.out)⟩; have n3_ : Aside0 (Below w.heap.size w w11) := ⟨by rw [← q_]; exact (by repeat (first | (with_reducible first | exact HB.out | apply below_alloc | apply pw_below_drewN | apply below_drew1 | refine below_set ?_ GE270.out | refine below_set ?_ GE271.out | refine below_set ?_ GE272.out) | exact HB.out))⟩; clear B270 B271 B272 HB q_; have B270 := n0_; have B271 := n1_; have B272 := n2_; have HB := n3_; clear n0_ n1_ n2_ n3_)); have hnb12 := NB270_271.out; have hnc12 := NB271_270.out; have hnb13 := NB270_272.out; have hnc13 := NB272_270.out; have hcz14_0 : w11.cell? ⟨g270, 0, none⟩ = some (.int .u64 a1_0) := bq_ B270 0; have hcz14_1 : w11.cell? ⟨g270, 1, none⟩ = some (.int .u64 a1_1) := bq_ B270 1; have hfz14_0 := blk_frozen B270.out 0; have hfz14_1 := blk_frozen B270.out 1; have hnb15 := NB271_272.out; have hnc15 := NB272_271.out; have hcz16_0 : w11.cell? ⟨g271, 0, none⟩ = some (.int .u64 a2_0) := bq_ B271 0; have hcz16_1 : w11.cell? ⟨g271, 1, none⟩ = some (.int .u64 a2_1) := bq_ B271 1; have hfz16_0 := blk_frozen B271.out 0; have hfz16_1 := blk_frozen B271.out 1) | ((with_reducible refine gate_callee (f := 62) rfl ?_); refine goesL_ (some 22) rfl rfl Tryd.func62 (by kernel_rfl) rfl #[.int .i64 a0, .agg #[.int .u64 a1_0, .int .u64 a1_1, .int .u64 a2_0, .int .u64 a2_1]] rfl (by (try simp only [List.map_toArray, List.map_cons, List.map_nil]); first | done | rfl | (go_simp; done)) ?_; (with_reducible refine (attestorref06_Perm.calls k a0 a1_0 a1_1 a2_0 a2_1 t274 t275 t276 t277 _ A6.out).mono ?_); rintro e w17 ⟨rfl, hb⟩; refine ⟨_, rfl, ?_⟩; have n0_ := Aside0.mk (blk_below (g := g270) (o := .cells #[.int .u64 a1_0, .int .u64 a1_1] 36 (0, 0)) (by exact B270.out) hb); have n1_ := Aside0.mk (blk_below (g := g271) (o := .cells #[.int .u64 a2_0, .int .u64 a2_1] 36 (0, 0)) (by exact B271.out) hb); have n2_ := Aside0.mk (blk_below (g := g272) (o := .cells #[.int .u64 0, .int .u64 0] 36 (0, 0)) (by exact B272.out) hb); have n3_ := Aside0.mk (below_step (by repeat (first | (with_reducible first | exact HB.out | apply below_alloc | apply pw_below_drewN | apply below_drew1 | refine below_set ?_ GE270.out | refine below_set ?_ GE271.out | refine below_set ?_ GE272.out) | exact HB.out)) hb); clear B270; clear B271; clear B272; clear HB; have B270 := n0_; have B271 := n1_; have B272 := n2_; have HB := n3_; clear n0_ n1_ n2_ n3_; (try clear hb); (try clear hb2); (try clear hk); (try clear hi)) | ((with_reducible refine gate_dst (N := 7) rfl ?_); refine box_event ?hg (N := 7) ?hd (cs := #[.int .u64 0, .int .u64 0, .int .u64 0, .int .u64 0]) (t := 80) ?hr ?_; (case hd => rfl); (case hg => rfl); (case hr => first | (go_simp; done) | (go_simp; rfl)); intro g278 hg w18 hbox hb; have n0_ := Aside0.mk (blk_below (g := g270) (o := .cells #[.int .u64 a1_0, .int .u64 a1_1] 36 (0, 0)) (by exact B270.out) hb); have n1_ := Aside0.mk (blk_below (g := g271) (o := .cells #[.int .u64 a2_0, .int .u64 a2_1] 36 (0, 0)) (by exact B271.out) hb); have n2_ := Aside0.mk (blk_below (g := g272) (o := .cells #[.int .u64 0, .int .u64 0] 36 (0, 0)) (by exact B272.out) hb); have n3_ := Aside0.mk (below_step (by repeat (first | (with_reducible first | exact HB.out | apply below_alloc | apply pw_below_drewN | apply below_drew1 | refine below_set ?_ GE270.out | refine below_set ?_ GE271.out | refine below_set ?_ GE272.out) | exact HB.out)) hb); have n4_ := Aside0.mk (hbox); have n5_ := Aside0.mk ((by rw [hg]; exact (below_size (by repeat (first | (with_reducible first | exact HB.out | apply below_alloc | apply pw_below_drewN | apply below_drew1 | refine below_set ?_ GE270.out | refine below_set ?_ GE271.out | refine below_set ?_ GE272.out) | exact HB.out))) : w.heap.size ≤ g278)); have n6_ := Aside0.mk ((by rw [hg]; exact (below_size (by repeat (first | (with_reducible first | exact HB.out | apply below_alloc | apply pw_below_drewN | apply below_drew1 | refine below_set ?_ GE270.out | refine below_set ?_ GE271.out | refine below_set ?_ GE272.out) | exact HB.out))) : w.heap.size ≤ g278)); have n7_ := Aside0.mk ((by rw [hg]; exact Nat.ne_of_lt (blk_lt (g := g270) (o := .cells #[.int .u64 a1_0, .int .u64 a1_1] 36 (0, 0)) (by exact B270.out)) : g270 ≠ g278)); have n8_ := Aside0.mk ((by rw [hg]; exact Nat.ne_of_gt (blk_lt (g := g270) (o := .cells #[.int .u64 a1_0, .int .u64 a1_1] 36 (0, 0)) (by exact B270.out)) : g278 ≠ g270)); have n9_ := Aside0.mk ((by rw [hg]; exact Nat.ne_of_lt (blk_lt (g := g271) (o := .cells #[.int .u64 a2_0, .int .u64 a2_1] 36 (0, 0)) (by exact B271.out)) : g271 ≠ g278)); have n10_ := Aside0.mk ((by rw [hg]; exact Nat.ne_of_gt (blk_lt (g := g271) (o := .cells #[.int .u64 a2_0, .int .u64 a2_1] 36 (0, 0)) (by exact B271.out)) : g278 ≠ g271)); have n11_ := Aside0.mk ((by rw [hg]; exact Nat.ne_of_lt (blk_lt (g := g272) (o := .cells #[.int .u64 0, .int .u64 0] 36 (0, 0)) (by exact B272.out)) : g272 ≠ g278)); have n12_ := Aside0.mk ((by rw [hg]; exact Nat.ne_of_gt (blk_lt (g := g272) (o := .cells #[.int .u64 0, .int .u64 0] 36 (0, 0)) (by exact B272.out)) : g278 ≠ g272)); clear B270; clear B271; clear B272; clear HB; have B270 := n0_; have B271 := n1_; have B272 := n2_; have HB := n3_; have B278 := n4_; have GW278 := n5_; have GE278 := n6_; have NB270_278 := n7_; have NB278_270 := n8_; have NB271_278 := n9_; have NB278_271 := n10_; have NB272_278 := n11_; have NB278_272 := n12_; clear n0_ n1_ n2_ n3_ n4_ n5_ n6_ n7_ n8_ n9_ n10_ n11_ n12_; clear hb hbox hg; have hnb19 := NB278_270.out; have hnc19 := NB270_278.out; have hnb20 := NB278_271.out; have hnc20 := NB271_278.out; have hnb21 := NB278_272.out; have hnc21 := NB272_278.out; have hcz22_0 : w18.cell? ⟨g278, 0, none⟩ = some (.int .u64 0) := bq_ B278 0; have hcz22_1 : w18.cell? ⟨g278, 1, none⟩ = some (.int .u64 0) := bq_ B278 1; have hcz22_2 : w18.cell? ⟨g278, 2, none⟩ = some (.int .u64 0) := bq_ B278 2; have hcz22_3 : w18.cell? ⟨g278, 3, none⟩ = some (.int .u64 0) := bq_ B278 3; have hfz22_0 := blk_frozen B278.out 0; have hfz22_1 := blk_frozen B278.out 1; have hfz22_2 := blk_frozen B278.out 2; have hfz22_3 := blk_frozen B278.out 3))
  have n0_ : Aside0 (((((w18.setCell ⟨g278, 0, none⟩ (.int .u64 t274)).setCell ⟨g278, 1, none⟩ (.int .u64 t275)).setCell ⟨g278, 2, none⟩ (.int .u64 t276)).setCell ⟨g278, 3, none⟩ (.int .u64 t277)).heap[g270]? = some (.cells #[.int .u64 a1_0, .int .u64 a1_1] 36 (0, 0))) := ⟨by refine blk_far ?_ NB270_278.out _; refine blk_far ?_ NB270_278.out _; refine blk_far ?_ NB270_278.out _; refine blk_far ?_ NB270_278.out _; exact B270.out⟩
  have n1_ : Aside0 (((((w18.setCell ⟨g278, 0, none⟩ (.int .u64 t274)).setCell ⟨g278, 1, none⟩ (.int .u64 t275)).setCell ⟨g278, 2, none⟩ (.int .u64 t276)).setCell ⟨g278, 3, none⟩ (.int .u64 t277)).heap[g271]? = some (.cells #[.int .u64 a2_0, .int .u64 a2_1] 36 (0, 0))) := ⟨by refine blk_far ?_ NB271_278.out _; refine blk_far ?_ NB271_278.out _; refine blk_far ?_ NB271_278.out _; refine blk_far ?_ NB271_278.out _; exact B271.out⟩
  have n2_ : Aside0 (((((w18.setCell ⟨g278, 0, none⟩ (.int .u64 t274)).setCell ⟨g278, 1, none⟩ (.int .u64 t275)).setCell ⟨g278, 2, none⟩ (.int .u64 t276)).setCell ⟨g278, 3, none⟩ (.int .u64 t277)).heap[g272]? = some (.cells #[.int .u64 0, .int .u64 0] 36 (0, 0))) := ⟨by refine blk_far ?_ NB272_278.out _; refine blk_far ?_ NB272_278.out _; refine blk_far ?_ NB272_278.out _; refine blk_far ?_ NB272_278.out _; exact B272.out⟩
  have n3_ : Aside0 (((((w18.setCell ⟨g278, 0, none⟩ (.int .u64 t274)).setCell ⟨g278, 1, none⟩ (.int .u64 t275)).setCell ⟨g278, 2, none⟩ (.int .u64 t276)).setCell ⟨g278, 3, none⟩ (.int .u64 t277)).heap[g278]? = some (.cells #[.int .u64 t274, .int .u64 t275, .int .u64 t276, .int .u64 t277] 80 (0, 0))) := ⟨by refine blk_put (cs := #[.int .u64 t274, .int .u64 t275, .int .u64 t276, .int .u64 0]) ?_ 3 _ rfl; refine blk_put (cs := #[.int .u64 t274, .int .u64 t275, .int .u64 0, .int .u64 0]) ?_ 2 _ rfl; refine blk_put (cs := #[.int .u64 t274, .int .u64 0, .int .u64 0, .int .u64 0]) ?_ 1 _ rfl; refine blk_put (cs := #[.int .u64 0, .int .u64 0, .int .u64 0, .int .u64 0]) ?_ 0 _ rfl; exact B278.out⟩
  have n4_ : Aside0 (Below w.heap.size w ((((w18.setCell ⟨g278, 0, none⟩ (.int .u64 t274)).setCell ⟨g278, 1, none⟩ (.int .u64 t275)).setCell ⟨g278, 2, none⟩ (.int .u64 t276)).setCell ⟨g278, 3, none⟩ (.int .u64 t277))) := ⟨by repeat (first | (with_reducible first | exact HB.out | apply below_alloc | apply pw_below_drewN | apply below_drew1 | refine below_set ?_ GE270.out | refine below_set ?_ GE271.out | refine below_set ?_ GE272.out | refine below_set ?_ GE278.out) | exact HB.out)⟩
  (try clear B270)
  (try clear B271)
  (try clear B272)
  (try clear B278)
  (try clear HB)
  generalize ((((w18.setCell ⟨g278, 0, none⟩ (.int .u64 t274)).setCell ⟨g278, 1, none⟩ (.int .u64 t275)).setCell ⟨g278, 2, none⟩ (.int .u64 t276)).setCell ⟨g278, 3, none⟩ (.int .u64 t277)) = w23 at n0_ n1_ n2_ n3_ n4_ ⊢
  have B270 := n0_
  have B271 := n1_
  have B272 := n2_
  have B278 := n3_
  have HB := n4_
  clear n0_ n1_ n2_ n3_ n4_
  have n0_ := Aside0.mk (blk_drew B270.out)
  have n1_ := Aside0.mk (blk_drew B271.out)
  have n2_ := Aside0.mk (blk_drew B272.out)
  have n3_ := Aside0.mk (blk_drew B278.out)
  have n4_ := Aside0.mk (below_drew1 HB.out)
  clear B270
  clear B271
  clear B272
  clear B278
  clear HB
  have B270 := n0_
  have B271 := n1_
  have B272 := n2_
  have B278 := n3_
  have HB := n4_
  clear n0_ n1_ n2_ n3_ n4_
  refine start_ (n := 14) (S := fun w' => w'.cell? ⟨g278, 0, none⟩ = some (.int .u64 t274) ∧ w'.cell? ⟨g278, 1, none⟩ = some (.int .u64 t275) ∧ w'.cell? ⟨g278, 2, none⟩ = some (.int .u64 t276) ∧ w'.cell? ⟨g278, 3, none⟩ = some (.int .u64 t277) ∧ w'.cell? ⟨g270, 0, none⟩ = some (.int .u64 a1_0) ∧ w'.cell? ⟨g270, 1, none⟩ = some (.int .u64 a1_1)) (ds := []) z44_0_ (by kernel_rfl) rfl rfl ⟨bq_ B278 0, bq_ B278 1, bq_ B278 2, bq_ B278 3, bq_ B270 0, bq_ B270 1⟩ (fun hL => ?_); refine with_tabW attestorref06_Node.tab4 attestorref06_Node.bits4 (fun T_ W_ => ?_)
  generalize w23.drew = w24 at B270 B271 B272 B278 HB hL ⊢
  refine pure_ (i := 0) (N := some 23) (v := ?_) (a' := ?_) z44_1_ rfl rfl (an_ T_) (fun _ _ _ h => h) (Or.inl ⟨by rfl, ?_⟩) ?_ ?_
  rotate_left; · intro w'; go_simp; with_reducible rfl
  rotate_left; · simp only [Act.put, sa_, sb_, sc_, i64_w, i32_w]; rfl
  refine pure_ (i := 1) (N := some 24) (v := ?_) (a' := ?_) z44_2_ rfl rfl (an_ T_) (fun _ _ _ h => h) (Or.inl ⟨by rfl, ?_⟩) ?_ ?_
  rotate_left; · intro w'; go_simp; with_reducible rfl
  rotate_left; · simp only [Act.put, sa_, sb_, sc_, i64_w, i32_w]; rfl
  refine pure_ (i := 3) (N := some 26) (v := ?_) (a' := ?_) z44_3_ rfl rfl (an_ T_) (fun _ _ _ h => h) (Or.inl ⟨by rfl, ?_⟩) ?_ ?_
  rotate_left; · intro w'; go_simp; with_reducible rfl
  rotate_left; · simp only [Act.put, sa_, sb_, sc_, i64_w, i32_w]; rfl
  refine pure_ (i := 6) (N := some 29) (v := ?_) (a' := ?_) z44_4_ rfl rfl (an_ T_) (fun _ _ _ h => h) (Or.inl ⟨by rfl, ?_⟩) ?_ ?_
  rotate_left; · intro w'; go_simp; with_reducible rfl
  rotate_left; · simp only [Act.put, sa_, sb_, sc_, i64_w, i32_w]; rfl
  refine pure_ (i := 7) (N := some 30) (v := ?_) (a' := ?_) z44_5_ rfl rfl (an_ T_) (fun _ _ _ h => h) (Or.inl ⟨by rfl, ?_⟩) ?_ ?_
  rotate_left; · intro w'; go_simp; with_reducible rfl
  rotate_left; · simp only [Act.put, sa_, sb_, sc_, i64_w, i32_w]; rfl
  refine pure_ (i := 9) (N := some 32) (v := ?_) (a' := ?_) z44_6_ rfl rfl (an_ T_) (fun _ _ _ h => h) (Or.inl ⟨by rfl, ?_⟩) ?_ ?_
  rotate_left; · intro w'; go_simp; with_reducible rfl
  rotate_left; · simp only [Act.put, sa_, sb_, sc_, i64_w, i32_w]; rfl
  refine take_ (i := 2) (N := some 25) (v := ?_) (a' := ?_) z44_7_ rfl rfl (tk_ T_ W_) (fun _ _ _ h => h) (Or.inl ⟨by rfl, ?_⟩) hL ?_ ?_
  rotate_left
  ·rintro w' ⟨s0, s1, s2, s3, s4, s5⟩
   go_simp
   with_reducible rfl
  rotate_left
  ·simp only [Act.put, sa_, sb_, sc_, i64_w, i32_w]
   rfl
  refine take_ (i := 4) (N := some 27) (v := ?_) (a' := ?_) z44_8_ rfl rfl (tk_ T_ W_) (fun _ _ _ h => h) (Or.inl ⟨by rfl, ?_⟩) hL ?_ ?_
  rotate_left
  ·rintro w' ⟨s0, s1, s2, s3, s4, s5⟩
   go_simp
   with_reducible rfl
  rotate_left
  ·simp only [Act.put, sa_, sb_, sc_, i64_w, i32_w]
   rfl
  refine take_ (i := 8) (N := some 31) (v := ?_) (a' := ?_) z44_9_ rfl rfl (tk_ T_ W_) (fun _ _ _ h => h) (Or.inl ⟨by rfl, ?_⟩) hL ?_ ?_
  rotate_left
  ·rintro w' ⟨s0, s1, s2, s3, s4, s5⟩
   go_simp
   with_reducible rfl
  rotate_left
  ·simp only [Act.put, sa_, sb_, sc_, i64_w, i32_w]
   rfl
  refine take_ (i := 10) (N := some 33) (v := ?_) (a' := ?_) z44_10_ rfl rfl (tk_ T_ W_) (fun _ _ _ h => h) (Or.inl ⟨by rfl, ?_⟩) hL ?_ ?_
  rotate_left
  ·rintro w' ⟨s0, s1, s2, s3, s4, s5⟩
   go_simp
   with_reducible rfl
  rotate_left
  ·simp only [Act.put, sa_, sb_, sc_, i64_w, i32_w]
   rfl
  refine one_ (i := 5) (N := some 28) z44_11_ rfl rfl (on_ T_) (by decide) (fun K hK => ?_)
  refine goes_ Tryd.func63 (by kernel_rfl) rfl #[.int .i64 a0, .int .u64 t274, .int .u64 a1_0] (by rfl) rfl rfl (by (try simp only [List.map_toArray, List.map_cons, List.map_nil]); first | done | rfl | (go_simp; done)) ?_
  with_reducible refine (attestorref01_Add.calls a0 t274 a1_0 t279 _ A7.out).mono ?_
  rintro e w' ⟨rfl, ⟨nd, rfl⟩⟩
  refine ⟨_, rfl, ?_⟩
  (try (rw [drewN_self w24]; generalize q_ : World.drewN w24 _ = w24; replace B270 := ra_ q_ B270; replace B271 := ra_ q_ B271; replace B272 := ra_ q_ B272; replace B278 := ra_ q_ B278; replace HB := rb_ q_ HB; clear q_))
  refine hK.out _ _ ⟨bq_ B278 0, bq_ B278 1, bq_ B278 2, bq_ B278 3, bq_ B270 0, bq_ B270 1⟩ (fun hL => ?_)
  clear hK K
  refine norm_ (a' := ?_) ?_ ?_
  rotate_left
  ·show Act.put _ (some 28) _ = _
   simp only [Act.put, sa_, sb_, sc_, i64_w, i32_w]
   rfl
  refine one_ (i := 11) (N := some 34) z44_12_ rfl rfl (on_ T_) (by decide) (fun K hK => ?_)
  refine goes_ Tryd.func63 (by kernel_rfl) rfl #[.int .i64 a0, .int .u64 t275, .int .u64 a1_1] (by rfl) rfl rfl (by (try simp only [List.map_toArray, List.map_cons, List.map_nil]); first | done | rfl | (go_simp; done)) ?_
  with_reducible refine (attestorref01_Add.calls a0 t275 a1_1 t280 _ A8.out).mono ?_
  rintro e w' ⟨rfl, ⟨nd, rfl⟩⟩
  refine ⟨_, rfl, ?_⟩
  (try (rw [drewN_self w24]; generalize q_ : World.drewN w24 _ = w24; replace B270 := ra_ q_ B270; replace B271 := ra_ q_ B271; replace B272 := ra_ q_ B272; replace B278 := ra_ q_ B278; replace HB := rb_ q_ HB; clear q_))
  refine hK.out _ _ ⟨bq_ B278 0, bq_ B278 1, bq_ B278 2, bq_ B278 3, bq_ B270 0, bq_ B270 1⟩ (fun hL => ?_)
  clear hK K
  refine norm_ (a' := ?_) ?_ ?_
  rotate_left
  ·show Act.put _ (some 34) _ = _
   simp only [Act.put, sa_, sb_, sc_, i64_w, i32_w]
   rfl
  refine pure_ (i := 12) (N := some 35) (v := ?_) (a' := ?_) z44_13_ rfl rfl (an_ T_) (fun _ _ _ h => h) (Or.inl ⟨by rfl, ?_⟩) ?_ ?_
  rotate_left; · intro w'; go_simp; with_reducible rfl
  rotate_left; · simp only [Act.put, sa_, sb_, sc_, i64_w, i32_w]; rfl
  refine one_ (i := 13) (N := none) z44_14_ rfl rfl (on_ T_) (by decide) (fun K hK => ?_)
  have hs25 : w24.cell? ⟨g272, 0, none⟩ = some (.int .u64 0) := bq_ B272 0
  have hfs25 := blk_frozen B272.out 0
  have hns25_0 := NB270_272.out
  have hns25_1 := NB271_272.out
  have hns25_3 := NB278_272.out
  have hms25_0 := NB272_270.out
  have hms25_1 := NB272_271.out
  have hms25_3 := NB272_278.out
  have hs26 : w24.cell? ⟨g272, 1, none⟩ = some (.int .u64 0) := bq_ B272 1
  have hfs26 := blk_frozen B272.out 1
  have hns26_0 := NB270_272.out
  have hns26_1 := NB271_272.out
  have hns26_3 := NB278_272.out
  have hms26_0 := NB272_270.out
  have hms26_1 := NB272_271.out
  have hms26_3 := NB272_278.out
  refine skip_ (w1 := ?_) (by rfl) rfl ?_ ?_
  rotate_left
  ·go_simp
   rfl
  refine hK.out _ _ ⟨((cell_far (p := ⟨g272, _, none⟩) NB278_272.out _).trans (((cell_far (p := ⟨g272, _, none⟩) NB278_272.out _).trans (hL.1)))), ((cell_far (p := ⟨g272, _, none⟩) NB278_272.out _).trans (((cell_far (p := ⟨g272, _, none⟩) NB278_272.out _).trans (hL.2.1)))), ((cell_far (p := ⟨g272, _, none⟩) NB278_272.out _).trans (((cell_far (p := ⟨g272, _, none⟩) NB278_272.out _).trans (hL.2.2.1)))), ((cell_far (p := ⟨g272, _, none⟩) NB278_272.out _).trans (((cell_far (p := ⟨g272, _, none⟩) NB278_272.out _).trans (hL.2.2.2.1)))), ((cell_far (p := ⟨g272, _, none⟩) NB270_272.out _).trans (((cell_far (p := ⟨g272, _, none⟩) NB270_272.out _).trans (hL.2.2.2.2.1)))), ((cell_far (p := ⟨g272, _, none⟩) NB270_272.out _).trans (((cell_far (p := ⟨g272, _, none⟩) NB270_272.out _).trans (hL.2.2.2.2.2))))⟩ (fun hL => ?_)
  clear hK K
  refine done_ (done_of T_.out (by kernel_rfl)) ?_
  try go_wp2
  refine bodyPost_ret (results_cell_row rfl _ _ g272 36 #[.int .u64 t279, .int .u64 t280] (0, 0) _ rfl (by refine blk_put (cs := #[.int .u64 t279, .int .u64 0]) ?_ 1 _ rfl; refine blk_put (cs := #[.int .u64 0, .int .u64 0]) ?_ 0 _ rfl; exact B272.out) Tryd.underlying36 rfl (by kernel_rfl)) rfl ?_
  exact ⟨by first | rfl | (simp [errW_none, errW_some] <;> rfl) | (simp [*, errW_none, errW_some] <;> rfl), by repeat (first | (with_reducible first | exact HB.out | apply below_alloc | apply pw_below_drewN | apply below_drew1 | refine below_set ?_ GE270.out | refine below_set ?_ GE271.out | refine below_set ?_ GE272.out | refine below_set ?_ GE278.out) | exact HB.out)⟩
 ·replace c5 := Bool.eq_false_iff.mpr c5
  subst c5
  have H1 : (some (0, 0)) = some (r1, r2) := by rw [if_neg (show ¬ (false = true) by decide)] at H; exact H
  clear H
  have H := H1
  clear H1
  simp only [Option.some.injEq, Prod.mk.injEq] at H
  obtain ⟨rfl, rfl⟩ := H
  go_enter Tryd.func44, Tryd.ntmps44
  go_wp2_with (first | ((with_reducible refine gate_dst (N := 4) rfl ?_); refine box_event ?hg (N := 4) ?hd (cs := #[.int .u64 a1_0, .int .u64 a1_1]) (t := 36) ?hr ?_; (case hd => rfl); (case hg => rfl); (case hr => first | (go_simp; done) | (go_simp; rfl)); intro g270 hg w27 hbox hb; have n0_ := Aside0.mk (below_step (by repeat (first | (with_reducible first | exact HB.out | apply below_alloc | apply pw_below_drewN | apply below_drew1) | exact HB.out)) hb); have n1_ := Aside0.mk (hbox); have n2_ := Aside0.mk ((by rw [hg]; exact (below_size (by repeat (first | (with_reducible first | exact HB.out | apply below_alloc | apply pw_below_drewN | apply below_drew1) | exact HB.out))) : w.heap.size ≤ g270)); have n3_ := Aside0.mk ((by rw [hg]; exact (below_size (by repeat (first | (with_reducible first | exact HB.out | apply below_alloc | apply pw_below_drewN | apply below_drew1) | exact HB.out))) : w.heap.size ≤ g270)); clear HB; have HB := n0_; have B270 := n1_; have GW270 := n2_; have GE270 := n3_; clear n0_ n1_ n2_ n3_; clear hb hbox hg) | ((with_reducible refine gate_dst (N := 5) rfl ?_); refine box_event ?hg (N := 5) ?hd (cs := #[.int .u64 a2_0, .int .u64 a2_1]) (t := 36) ?hr ?_; (case hd => rfl); (case hg => rfl); (case hr => first | (go_simp; done) | (go_simp; rfl)); intro g271 hg w28 hbox hb; have n0_ := Aside0.mk (blk_below (g := g270) (o := .cells #[.int .u64 a1_0, .int .u64 a1_1] 36 (0, 0)) (by exact B270.out) hb); have n1_ := Aside0.mk (below_step (by repeat (first | (with_reducible first | exact HB.out | apply below_alloc | apply pw_below_drewN | apply below_drew1 | refine below_set ?_ GE270.out) | exact HB.out)) hb); have n2_ := Aside0.mk (hbox); have n3_ := Aside0.mk ((by rw [hg]; exact (below_size (by repeat (first | (with_reducible first | exact HB.out | apply below_alloc | apply pw_below_drewN | apply below_drew1 | refine below_set ?_ GE270.out) | exact HB.out))) : w.heap.size ≤ g271)); have n4_ := Aside0.mk ((by rw [hg]; exact (below_size (by repeat (first | (with_reducible first | exact HB.out | apply below_alloc | apply pw_below_drewN | apply below_drew1 | refine below_set ?_ GE270.out) | exact HB.out))) : w.heap.size ≤ g271)); have n5_ := Aside0.mk ((by rw [hg]; exact Nat.ne_of_lt (blk_lt (g := g270) (o := .cells #[.int .u64 a1_0, .int .u64 a1_1] 36 (0, 0)) (by exact B270.out)) : g270 ≠ g271)); have n6_ := Aside0.mk ((by rw [hg]; exact Nat.ne_of_gt (blk_lt (g := g270) (o := .cells #[.int .u64 a1_0, .int .u64 a1_1] 36 (0, 0)) (by exact B270.out)) : g271 ≠ g270)); clear B270; clear HB; have B270 := n0_; have HB := n1_; have B271 := n2_; have GW271 := n3_; have GE271 := n4_; have NB270_271 := n5_; have NB271_270 := n6_; clear n0_ n1_ n2_ n3_ n4_ n5_ n6_; clear hb hbox hg) | ((with_reducible refine gate_dst (N := 6) rfl ?_); refine box_event ?hg (N := 6) ?hd (cs := #[.int .u64 0, .int .u64 0]) (t := 36) ?hr ?_; (case hd => rfl); (case hg => rfl); (case hr => first | (go_simp; done) | (go_simp; rfl)); intro g272 hg w29 hbox hb; have n0_ := Aside0.mk (blk_below (g := g270) (o := .cells #[.int .u64 a1_0, .int .u64 a1_1] 36 (0, 0)) (by exact B270.out) hb); have n1_ := Aside0.mk (blk_below (g := g271) (o := .cells #[.int .u64 a2_0, .int .u64 a2_1] 36 (0, 0)) (by exact B271.out) hb); have n2_ := Aside0.mk (below_step (by repeat (first | (with_reducible first | exact HB.out | apply below_alloc | apply pw_below_drewN | apply below_drew1 | refine below_set ?_ GE270.out | refine below_set ?_ GE271.out) | exact HB.out)) hb); have n3_ := Aside0.mk (hbox); have n4_ := Aside0.mk ((by rw [hg]; exact (below_size (by repeat (first | (with_reducible first | exact HB.out | apply below_alloc | apply pw_below_drewN | apply below_drew1 | refine below_set ?_ GE270.out | refine below_set ?_ GE271.out) | exact HB.out))) : w.heap.size ≤ g272)); have n5_ := Aside0.mk ((by rw [hg]; exact (below_size (by repeat (first | (with_reducible first | exact HB.out | apply below_alloc | apply pw_below_drewN | apply below_drew1 | refine below_set ?_ GE270.out | refine below_set ?_ GE271.out) | exact HB.out))) : w.heap.size ≤ g272)); have n6_ := Aside0.mk ((by rw [hg]; exact Nat.ne_of_lt (blk_lt (g := g270) (o := .cells #[.int .u64 a1_0, .int .u64 a1_1] 36 (0, 0)) (by exact B270.out)) : g270 ≠ g272)); have n7_ := Aside0.mk ((by rw [hg]; exact Nat.ne_of_gt (blk_lt (g := g270) (o := .cells #[.int .u64 a1_0, .int .u64 a1_1] 36 (0, 0)) (by exact B270.out)) : g272 ≠ g270)); have n8_ := Aside0.mk ((by rw [hg]; exact Nat.ne_of_lt (blk_lt (g := g271) (o := .cells #[.int .u64 a2_0, .int .u64 a2_1] 36 (0, 0)) (by exact B271.out)) : g271 ≠ g272)); have n9_ := Aside0.mk ((by rw [hg]; exact Nat.ne_of_gt (blk_lt (g := g271) (o := .cells #[.int .u64 a2_0, .int .u64 a2_1] 36 (0, 0)) (by exact B271.out)) : g272 ≠ g271)); clear B270; clear B271; clear HB; have B270 := n0_; have B271 := n1_; have HB := n2_; have B272 := n3_; have GW272 := n4_; have GE272 := n5_; have NB270_272 := n6_; have NB272_270 := n7_; have NB271_272 := n8_; have NB272_271 := n9_; clear n0_ n1_ n2_ n3_ n4_ n5_ n6_ n7_ n8_ n9_; clear hb hbox hg) | ((with_reducible refine gate_callee (f := 42) rfl ?_); refine goesL_ (some 9) rfl rfl Tryd.func42 (by kernel_rfl) rfl #[.int .i64 a0] rfl (by (try simp only [List.map_toArray, List.map_cons, List.map_nil]); first | done | rfl | (go_simp; done)) ?_; (with_reducible refine (attestorref01_Valid.calls a0 false _ A4.out).mono ?_); rintro e w' ⟨rfl, ⟨nd, rfl⟩⟩; refine ⟨_, rfl, ?_⟩; (try (rw [drewN_self w29]; generalize q_ : World.drewN w29 _ = w29; have n0_ : Aside0 (w29.heap[g270]? = some (.cells #[.int .u64 a1_0, .int .u64 a1_1] 36 (0, 0))) := ⟨by rw [← q_]; exact (by exact B270.out)⟩; have n1_ : Aside0 (w29.heap[g271]? = some (.cells #[.int .u64 a2_0, .int .u64 a2_1] 36 (0, 0))) := ⟨by rw [← q_]; exact (by exact B271.out)⟩; have n2_ : Aside0 (w29.heap[g272]? = some (.cells #[.int .u64 0, .int .u64 0] 36 (0, 0))) := ⟨by rw [← q_]; exact (by exact B272.out)⟩; have n3_ : Aside0 (Below w.heap.size w w29) := ⟨by rw [← q_]; exact (by repeat (first | (with_reducible first | exact HB.out | apply below_alloc | apply pw_below_drewN | apply below_drew1 | refine below_set ?_ GE270.out | refine below_set ?_ GE271.out | refine below_set ?_ GE272.out) | exact HB.out))⟩; clear B270 B271 B272 HB q_; have B270 := n0_; have B271 := n1_; have B272 := n2_; have HB := n3_; clear n0_ n1_ n2_ n3_)); have hnb30 := NB272_270.out; have hnc30 := NB270_272.out; have hnb31 := NB272_271.out; have hnc31 := NB271_272.out; have hcz32_0 : w29.cell? ⟨g272, 0, none⟩ = some (.int .u64 0) := bq_ B272 0; have hcz32_1 : w29.cell? ⟨g272, 1, none⟩ = some (.int .u64 0) := bq_ B272 1; have hfz32_0 := blk_frozen B272.out 0; have hfz32_1 := blk_frozen B272.out 1))
  refine bodyPost_ret (results_cell_row rfl _ _ g272 36 #[.int .u64 0, .int .u64 0] (0, 0) _ rfl (by refine blk_put (cs := #[.int .u64 0, .int .u64 0]) ?_ 1 _ rfl; refine blk_put (cs := #[.int .u64 0, .int .u64 0]) ?_ 0 _ rfl; exact B272.out) Tryd.underlying36 rfl (by kernel_rfl)) rfl ?_
  exact ⟨by first | rfl | (simp [errW_none, errW_some] <;> rfl) | (simp [*, errW_none, errW_some] <;> rfl), by repeat (first | (with_reducible first | exact HB.out | apply below_alloc | apply pw_below_drewN | apply below_drew1 | refine below_set ?_ GE270.out | refine below_set ?_ GE271.out | refine below_set ?_ GE272.out) | exact HB.out)⟩

end Go.Proofs.YtpnpmeogffodgaaDoor.Q
end
section
namespace Go.Proofs.YtpnpmeogffodgaaDoor.Q
open Go.RowKit Go.Proofs.YtpnpmeogffodgaaDoorW.PrintWords Go.Proofs.YtpnpmeogffodgaaDoorW.PrintLast Go.Proofs.YtpnpmeogffodgaaDoorW.PrintMore
attribute [local go_sem] max2_int min2_int max_two min_two max_three min_three max_four min_four run_store_fnV run_store_fnc run_store_nfn   -- for this text's walks alone
set_option linter.unusedVariables false
set_option linter.unusedSimpArgs false

/-! ### attestorref07_pair: function 50 -/
def attestorref07_pair.f (a0 : Int) (a1_0 : Int) (a1_1 : Int) (a2_0 : Int) (a2_1 : Int) : Option (Int × Int × Int × Int) := if (Int.tmod a0 2) = 1 then (some (a2_0, a2_1, a1_0, a1_1)) else (some (a1_0, a1_1, a2_0, a2_1))
set_option maxHeartbeats 8000000 in
set_option maxRecDepth 100000 in
theorem attestorref07_pair.calls (a0 : Int) (a1_0 : Int) (a1_1 : Int) (a2_0 : Int) (a2_1 : Int) (r1 : Int) (r2 : Int) (r3 : Int) (r4 : Int) (w : World) (h : attestorref07_pair.f a0 a1_0 a1_1 a2_0 a2_1 = some (r1, r2, r3, r4)) :
  Calls Tryd.prog 50 #[.int .i64 a0, .agg #[.int .u64 a1_0, .int .u64 a1_1], .agg #[.int .u64 a2_0, .int .u64 a2_1]] w fun e w' => e = .returned (.agg #[.int .u64 r1, .int .u64 r2, .int .u64 r3, .int .u64 r4]) ∧ Below w.heap.size w w' := by
 have hu36 := Tryd.underlying36
 have hu48 := Tryd.underlying48
 have HB := Aside0.mk (Below.refl w.heap.size w)
 have H : (if (Int.tmod a0 2) = 1 then (some (a2_0, a2_1, a1_0, a1_1)) else (some (a1_0, a1_1, a2_0, a2_1))) = some (r1, r2, r3, r4) := h
 clear h
 by_cases c4 : (Int.tmod a0 2) = 1
 ·rw [if_pos c4] at H
  have c4b0 : ((Int.tmod a0 2) == 1) = true := beq_iff_eq.mpr c4
  have c4b1 : ((Int.tmod a0 2) != 1) = false := bne_eq_false_iff_eq.mpr c4
  clear c4
  simp only [Option.some.injEq, Prod.mk.injEq] at H
  obtain ⟨rfl, rfl, rfl, rfl⟩ := H
  go_enter Tryd.func50, Tryd.ntmps50
  go_wp2_with (first | ((with_reducible refine gate_dst (N := 4) rfl ?_); refine box_event ?hg (N := 4) ?hd (cs := #[.int .u64 a1_0, .int .u64 a1_1]) (t := 36) ?hr ?_; (case hd => rfl); (case hg => rfl); (case hr => first | (go_simp; done) | (go_simp; rfl)); intro g281 hg w5 hbox hb; have n0_ := Aside0.mk (below_step (by repeat (first | (with_reducible first | exact HB.out | apply below_alloc | apply pw_below_drewN | apply below_drew1) | exact HB.out)) hb); have n1_ := Aside0.mk (hbox); have n2_ := Aside0.mk ((by rw [hg]; exact (below_size (by repeat (first | (with_reducible first | exact HB.out | apply below_alloc | apply pw_below_drewN | apply below_drew1) | exact HB.out))) : w.heap.size ≤ g281)); have n3_ := Aside0.mk ((by rw [hg]; exact (below_size (by repeat (first | (with_reducible first | exact HB.out | apply below_alloc | apply pw_below_drewN | apply below_drew1) | exact HB.out))) : w.heap.size ≤ g281)); clear HB; have HB := n0_; have B281 := n1_; have GW281 := n2_; have GE281 := n3_; clear n0_ n1_ n2_ n3_; clear hb hbox hg) | ((with_reducible refine gate_dst (N := 5) rfl ?_); refine box_event ?hg (N := 5) ?hd (cs := #[.int .u64 a2_0, .int .u64 a2_1]) (t := 36) ?hr ?_; (case hd => rfl); (case hg => rfl); (case hr => first | (go_simp; done) | (go_simp; rfl)); intro g282 hg w6 hbox hb; have n0_ := Aside0.mk (blk_below (g := g281) (o := .cells #[.int .u64 a1_0, .int .u64 a1_1] 36 (0, 0)) (by exact B281.out) hb); have n1_ := Aside0.mk (below_step (by repeat (first | (with_reducible first | exact HB.out | apply below_alloc | apply pw_below_drewN | apply below_drew1 | refine below_set ?_ GE281.out) | exact HB.out)) hb); have n2_ := Aside0.mk (hbox); have n3_ := Aside0.mk ((by rw [hg]; exact (below_size (by repeat (first | (with_reducible first | exact HB.out | apply below_alloc | apply pw_below_drewN | apply below_drew1 | refine below_set ?_ GE281.out) | exact HB.out))) : w.heap.size ≤ g282)); have n4_ := Aside0.mk ((by rw [hg]; exact (below_size (by repeat (first | (with_reducible first | exact HB.out | apply below_alloc | apply pw_below_drewN | apply below_drew1 | refine below_set ?_ GE281.out) | exact HB.out))) : w.heap.size ≤ g282)); have n5_ := Aside0.mk ((by rw [hg]; exact Nat.ne_of_lt (blk_lt (g := g281) (o := .cells #[.int .u64 a1_0, .int .u64 a1_1] 36 (0, 0)) (by exact B281.out)) : g281 ≠ g282)); have n6_ := Aside0.mk ((by rw [hg]; exact Nat.ne_of_gt (blk_lt (g := g281) (o := .cells #[.int .u64 a1_0, .int .u64 a1_1] 36 (0, 0)) (by exact B281.out)) : g282 ≠ g281)); clear B281; clear HB; have B281 := n0_; have HB := n1_; have B282 := n2_; have GW282 := n3_; have GE282 := n4_; have NB281_282 := n5_; have NB282_281 := n6_; clear n0_ n1_ n2_ n3_ n4_ n5_ n6_; clear hb hbox hg) | ((with_reducible refine gate_dst (N := 6) rfl ?_); refine box_event ?hg (N := 6) ?hd (cs := #[.int .u64 0, .int .u64 0, .int .u64 0, .int .u64 0]) (t := 48) ?hr ?_; (case hd => rfl); (case hg => rfl); (case hr => first | (go_simp; done) | (go_simp; rfl)); intro g283 hg w7 hbox hb; have n0_ := Aside0.mk (blk_below (g := g281) (o := .cells #[.int .u64 a1_0, .int .u64 a1_1] 36 (0, 0)) (by exact B281.out) hb); have n1_ := Aside0.mk (blk_below (g := g282) (o := .cells #[.int .u64 a2_0, .int .u64 a2_1] 36 (0, 0)) (by exact B282.out) hb); have n2_ := Aside0.mk (below_step (by repeat (first | (with_reducible first | exact HB.out | apply below_alloc | apply pw_below_drewN | apply below_drew1 | refine below_set ?_ GE281.out | refine below_set ?_ GE282.out) | exact HB.out)) hb); have n3_ := Aside0.mk (hbox); have n4_ := Aside0.mk ((by rw [hg]; exact (below_size (by repeat (first | (with_reducible first | exact HB.out | apply below_alloc | apply pw_below_drewN | apply below_drew1 | refine below_set ?_ GE281.out | refine below_set ?_ GE282.out) | exact HB.out))) : w.heap.size ≤ g283)); have n5_ := Aside0.mk ((by rw [hg]; exact (below_size (by repeat (first | (with_reducible first | exact HB.out | apply below_alloc | apply pw_below_drewN | apply below_drew1 | refine below_set ?_ GE281.out | refine below_set ?_ GE282.out) | exact HB.out))) : w.heap.size ≤ g283)); have n6_ := Aside0.mk ((by rw [hg]; exact Nat.ne_of_lt (blk_lt (g := g281) (o := .cells #[.int .u64 a1_0, .int .u64 a1_1] 36 (0, 0)) (by exact B281.out)) : g281 ≠ g283)); have n7_ := Aside0.mk ((by rw [hg]; exact Nat.ne_of_gt (blk_lt (g := g281) (o := .cells #[.int .u64 a1_0, .int .u64 a1_1] 36 (0, 0)) (by exact B281.out)) : g283 ≠ g281)); have n8_ := Aside0.mk ((by rw [hg]; exact Nat.ne_of_lt (blk_lt (g := g282) (o := .cells #[.int .u64 a2_0, .int .u64 a2_1] 36 (0, 0)) (by exact B282.out)) : g282 ≠ g283)); have n9_ := Aside0.mk ((by rw [hg]; exact Nat.ne_of_gt (blk_lt (g := g282) (o := .cells #[.int .u64 a2_0, .int .u64 a2_1] 36 (0, 0)) (by exact B282.out)) : g283 ≠ g282)); clear B281; clear B282; clear HB; have B281 := n0_; have B282 := n1_; have HB := n2_; have B283 := n3_; have GW283 := n4_; have GE283 := n5_; have NB281_283 := n6_; have NB283_281 := n7_; have NB282_283 := n8_; have NB283_282 := n9_; clear n0_ n1_ n2_ n3_ n4_ n5_ n6_ n7_ n8_ n9_; clear hb hbox hg; have hnb8 := NB282_281.out; have hnc8 := NB281_282.out; have hnb9 := NB282_283.out; have hnc9 := NB283_282.out; have hcz10_0 : w7.cell? ⟨g282, 0, none⟩ = some (.int .u64 a2_0) := bq_ B282 0; have hcz10_1 : w7.cell? ⟨g282, 1, none⟩ = some (.int .u64 a2_1) := bq_ B282 1; have hfz10_0 := blk_frozen B282.out 0; have hfz10_1 := blk_frozen B282.out 1; have hnb11 := NB281_283.out; have hnc11 := NB283_281.out; have hcz12_0 : w7.cell? ⟨g281, 0, none⟩ = some (.int .u64 a1_0) := bq_ B281 0; have hcz12_1 : w7.cell? ⟨g281, 1, none⟩ = some (.int .u64 a1_1) := bq_ B281 1; have hfz12_0 := blk_frozen B281.out 0; have hfz12_1 := blk_frozen B281.out 1; have hcz13_0 : w7.cell? ⟨g283, 0, none⟩ = some (.int .u64 0) := bq_ B283 0; have hcz13_1 : w7.cell? ⟨g283, 1, none⟩ = some (.int .u64 0) := bq_ B283 1; have hcz13_2 : w7.cell? ⟨g283, 2, none⟩ = some (.int .u64 0) := bq_ B283 2; have hcz13_3 : w7.cell? ⟨g283, 3, none⟩ = some (.int .u64 0) := bq_ B283 3; have hfz13_0 := blk_frozen B283.out 0; have hfz13_1 := blk_frozen B283.out 1; have hfz13_2 := blk_frozen B283.out 2; have hfz13_3 := blk_frozen B283.out 3))
  refine bodyPost_ret (results_cell_row rfl _ _ g283 48 #[.int .u64 a2_0, .int .u64 a2_1, .int .u64 a1_0, .int .u64 a1_1] (0, 0) _ rfl (by refine blk_put (cs := #[.int .u64 a2_0, .int .u64 a2_1, .int .u64 a1_0, .int .u64 0]) ?_ 3 _ rfl; refine blk_put (cs := #[.int .u64 a2_0, .int .u64 a2_1, .int .u64 0, .int .u64 0]) ?_ 2 _ rfl; refine blk_put (cs := #[.int .u64 a2_0, .int .u64 0, .int .u64 0, .int .u64 0]) ?_ 1 _ rfl; refine blk_put (cs := #[.int .u64 0, .int .u64 0, .int .u64 0, .int .u64 0]) ?_ 0 _ rfl; exact B283.out) Tryd.underlying48 rfl (by kernel_rfl)) rfl ?_
  exact ⟨by first | rfl | (simp [errW_none, errW_some] <;> rfl) | (simp [*, errW_none, errW_some] <;> rfl), by repeat (first | (with_reducible first | exact HB.out | apply below_alloc | apply pw_below_drewN | apply below_drew1 | refine below_set ?_ GE281.out | refine below_set ?_ GE282.out | refine below_set ?_ GE283.out) | exact HB.out)⟩
 ·rw [if_neg c4] at H
  have c4b0 : ((Int.tmod a0 2) == 1) = false := beq_eq_false_iff_ne.mpr c4
  have c4b1 : ((Int.tmod a0 2) != 1) = true := bne_iff_ne.mpr c4
  simp only [Option.some.injEq, Prod.mk.injEq] at H
  obtain ⟨rfl, rfl, rfl, rfl⟩ := H
  go_enter Tryd.func50, Tryd.ntmps50
  go_wp2_with (first | ((with_reducible refine gate_dst (N := 4) rfl ?_); refine box_event ?hg (N := 4) ?hd (cs := #[.int .u64 a1_0, .int .u64 a1_1]) (t := 36) ?hr ?_; (case hd => rfl); (case hg => rfl); (case hr => first | (go_simp; done) | (go_simp; rfl)); intro g281 hg w14 hbox hb; have n0_ := Aside0.mk (below_step (by repeat (first | (with_reducible first | exact HB.out | apply below_alloc | apply pw_below_drewN | apply below_drew1) | exact HB.out)) hb); have n1_ := Aside0.mk (hbox); have n2_ := Aside0.mk ((by rw [hg]; exact (below_size (by repeat (first | (with_reducible first | exact HB.out | apply below_alloc | apply pw_below_drewN | apply below_drew1) | exact HB.out))) : w.heap.size ≤ g281)); have n3_ := Aside0.mk ((by rw [hg]; exact (below_size (by repeat (first | (with_reducible first | exact HB.out | apply below_alloc | apply pw_below_drewN | apply below_drew1) | exact HB.out))) : w.heap.size ≤ g281)); clear HB; have HB := n0_; have B281 := n1_; have GW281 := n2_; have GE281 := n3_; clear n0_ n1_ n2_ n3_; clear hb hbox hg) | ((with_reducible refine gate_dst (N := 5) rfl ?_); refine box_event ?hg (N := 5) ?hd (cs := #[.int .u64 a2_0, .int .u64 a2_1]) (t := 36) ?hr ?_; (case hd => rfl); (case hg => rfl); (case hr => first | (go_simp; done) | (go_simp; rfl)); intro g282 hg w15 hbox hb; have n0_ := Aside0.mk (blk_below (g := g281) (o := .cells #[.int .u64 a1_0, .int .u64 a1_1] 36 (0, 0)) (by exact B281.out) hb); have n1_ := Aside0.mk (below_step (by repeat (first | (with_reducible first | exact HB.out | apply below_alloc | apply pw_below_drewN | apply below_drew1 | refine below_set ?_ GE281.out) | exact HB.out)) hb); have n2_ := Aside0.mk (hbox); have n3_ := Aside0.mk ((by rw [hg]; exact (below_size (by repeat (first | (with_reducible first | exact HB.out | apply below_alloc | apply pw_below_drewN | apply below_drew1 | refine below_set ?_ GE281.out) | exact HB.out))) : w.heap.size ≤ g282)); have n4_ := Aside0.mk ((by rw [hg]; exact (below_size (by repeat (first | (with_reducible first | exact HB.out | apply below_alloc | apply pw_below_drewN | apply below_drew1 | refine below_set ?_ GE281.out) | exact HB.out))) : w.heap.size ≤ g282)); have n5_ := Aside0.mk ((by rw [hg]; exact Nat.ne_of_lt (blk_lt (g := g281) (o := .cells #[.int .u64 a1_0, .int .u64 a1_1] 36 (0, 0)) (by exact B281.out)) : g281 ≠ g282)); have n6_ := Aside0.mk ((by rw [hg]; exact Nat.ne_of_gt (blk_lt (g := g281) (o := .cells #[.int .u64 a1_0, .int .u64 a1_1] 36 (0, 0)) (by exact B281.out)) : g282 ≠ g281)); clear B281; clear HB; have B281 := n0_; have HB := n1_; have B282 := n2_; have GW282 := n3_; have GE282 := n4_; have NB281_282 := n5_; have NB282_281 := n6_; clear n0_ n1_ n2_ n3_ n4_ n5_ n6_; clear hb hbox hg) | ((with_reducible refine gate_dst (N := 6) rfl ?_); refine box_event ?hg (N := 6) ?hd (cs := #[.int .u64 0, .int .u64 0, .int .u64 0, .int .u64 0]) (t := 48) ?hr ?_; (case hd => rfl); (case hg => rfl); (case hr => first | (go_simp; done) | (go_simp; rfl)); intro g283 hg w16 hbox hb; have n0_ := Aside0.mk (blk_below (g := g281) (o := .cells #[.int .u64 a1_0, .int .u64 a1_1] 36 (0, 0)) (by exact B281.out) hb); have n1_ := Aside0.mk (blk_below (g := g282) (o := .cells #[.int .u64 a2_0, .int .u64 a2_1] 36 (0, 0)) (by exact B282.out) hb); have n2_ := Aside0.mk (below_step (by repeat (first | (with_reducible first | exact HB.out | apply below_alloc | apply pw_below_drewN | apply below_drew1 | refine below_set ?_ GE281.out | refine below_set ?_ GE282.out) | exact HB.out)) hb); have n3_ := Aside0.mk (hbox); have n4_ := Aside0.mk ((by rw [hg]; exact (below_size (by repeat (first | (with_reducible first | exact HB.out | apply below_alloc | apply pw_below_drewN | apply below_drew1 | refine below_set ?_ GE281.out | refine below_set ?_ GE282.out) | exact HB.out))) : w.heap.size ≤ g283)); have n5_ := Aside0.mk ((by rw [hg]; exact (below_size (by repeat (first | (with_reducible first | exact HB.out | apply below_alloc | apply pw_below_drewN | apply below_drew1 | refine below_set ?_ GE281.out | refine below_set ?_ GE282.out) | exact HB.out))) : w.heap.size ≤ g283)); have n6_ := Aside0.mk ((by rw [hg]; exact Nat.ne_of_lt (blk_lt (g := g281) (o := .cells #[.int .u64 a1_0, .int .u64 a1_1] 36 (0, 0)) (by exact B281.out)) : g281 ≠ g283)); have n7_ := Aside0.mk ((by rw [hg]; exact Nat.ne_of_gt (blk_lt (g := g281) (o := .cells #[.int .u64 a1_0, .int .u64 a1_1] 36 (0, 0)) (by exact B281.out)) : g283 ≠ g281)); have n8_ := Aside0.mk ((by rw [hg]; exact Nat.ne_of_lt (blk_lt (g := g282) (o := .cells #[.int .u64 a2_0, .int .u64 a2_1] 36 (0, 0)) (by exact B282.out)) : g282 ≠ g283)); have n9_ := Aside0.mk ((by rw [hg]; exact Nat.ne_of_gt (blk_lt (g := g282) (o := .cells #[.int .u64 a2_0, .int .u64 a2_1] 36 (0, 0)) (by exact B282.out)) : g283 ≠ g282)); clear B281; clear B282; clear HB; have B281 := n0_; have B282 := n1_; have HB := n2_; have B283 := n3_; have GW283 := n4_; have GE283 := n5_; have NB281_283 := n6_; have NB283_281 := n7_; have NB282_283 := n8_; have NB283_282 := n9_; clear n0_ n1_ n2_ n3_ n4_ n5_ n6_ n7_ n8_ n9_; clear hb hbox hg; have hnb17 := NB281_282.out; have hnc17 := NB282_281.out; have hnb18 := NB281_283.out; have hnc18 := NB283_281.out; have hcz19_0 : w16.cell? ⟨g281, 0, none⟩ = some (.int .u64 a1_0) := bq_ B281 0; have hcz19_1 : w16.cell? ⟨g281, 1, none⟩ = some (.int .u64 a1_1) := bq_ B281 1; have hfz19_0 := blk_frozen B281.out 0; have hfz19_1 := blk_frozen B281.out 1; have hnb20 := NB282_283.out; have hnc20 := NB283_282.out; have hcz21_0 : w16.cell? ⟨g282, 0, none⟩ = some (.int .u64 a2_0) := bq_ B282 0; have hcz21_1 : w16.cell? ⟨g282, 1, none⟩ = some (.int .u64 a2_1) := bq_ B282 1; have hfz21_0 := blk_frozen B282.out 0; have hfz21_1 := blk_frozen B282.out 1; have hcz22_0 : w16.cell? ⟨g283, 0, none⟩ = some (.int .u64 0) := bq_ B283 0; have hcz22_1 : w16.cell? ⟨g283, 1, none⟩ = some (.int .u64 0) := bq_ B283 1; have hcz22_2 : w16.cell? ⟨g283, 2, none⟩ = some (.int .u64 0) := bq_ B283 2; have hcz22_3 : w16.cell? ⟨g283, 3, none⟩ = some (.int .u64 0) := bq_ B283 3; have hfz22_0 := blk_frozen B283.out 0; have hfz22_1 := blk_frozen B283.out 1; have hfz22_2 := blk_frozen B283.out 2; have hfz22_3 := blk_frozen B283.out 3))
  refine bodyPost_ret (results_cell_row rfl _ _ g283 48 #[.int .u64 a1_0, .int .u64 a1_1, .int .u64 a2_0, .int .u64 a2_1] (0, 0) _ rfl (by refine blk_put (cs := #[.int .u64 a1_0, .int .u64 a1_1, .int .u64 a2_0, .int .u64 0]) ?_ 3 _ rfl; refine blk_put (cs := #[.int .u64 a1_0, .int .u64 a1_1, .int .u64 0, .int .u64 0]) ?_ 2 _ rfl; refine blk_put (cs := #[.int .u64 a1_0, .int .u64 0, .int .u64 0, .int .u64 0]) ?_ 1 _ rfl; refine blk_put (cs := #[.int .u64 0, .int .u64 0, .int .u64 0, .int .u64 0]) ?_ 0 _ rfl; exact B283.out) Tryd.underlying48 rfl (by kernel_rfl)) rfl ?_
  exact ⟨by first | rfl | (simp [errW_none, errW_some] <;> rfl) | (simp [*, errW_none, errW_some] <;> rfl), by repeat (first | (with_reducible first | exact HB.out | apply below_alloc | apply pw_below_drewN | apply below_drew1 | refine below_set ?_ GE281.out | refine below_set ?_ GE282.out | refine below_set ?_ GE283.out) | exact HB.out)⟩

end Go.Proofs.YtpnpmeogffodgaaDoor.Q
end
section
namespace Go.Proofs.YtpnpmeogffodgaaDoor.Q
open Go.RowKit Go.Proofs.YtpnpmeogffodgaaDoorW.PrintWords Go.Proofs.YtpnpmeogffodgaaDoorW.PrintLast Go.Proofs.YtpnpmeogffodgaaDoorW.PrintMore
attribute [local go_sem] max2_int min2_int max_two min_two max_three min_three max_four min_four run_store_fnV run_store_fnc run_store_nfn   -- for this text's walks alone
set_option linter.unusedVariables false
set_option linter.unusedSimpArgs false

abbrev z25_0_ : Array Bool := #[false, false, false, false, false, false, false, false, false]
abbrev z25_1_ : Array Bool := #[true, false, false, false, false, false, false, false, false]
abbrev z25_2_ : Array Bool := #[true, false, true, false, false, false, false, false, false]
abbrev z25_3_ : Array Bool := #[true, false, true, true, false, false, false, false, false]
abbrev z25_4_ : Array Bool := #[true, false, true, true, true, false, false, false, false]
abbrev z25_5_ : Array Bool := #[true, true, true, true, true, false, false, false, false]
abbrev z25_6_ : Array Bool := #[true, true, true, true, true, true, false, false, false]
abbrev z25_7_ : Array Bool := #[true, true, true, true, true, true, true, true, false]
abbrev z25_8_ : Array Bool := #[true, true, true, true, true, true, true, false, false]
abbrev z25_9_ : Array Bool := #[true, true, true, true, true, true, false, true, false]
abbrev z25_10_ : Array Bool := #[true, true, true, true, true, true, true, true, true]
/-! ### attestorref07_Climb: function 25 -/
mutual
def attestorref07_Climb.j0 : Nat → Int → Int → List (S36) → Bool → Int → Int → Option (Int × Int)
  | 0, _, _, _, _, _, _ => none
  | k + 1, x0, x1, x3, x35, x285000, x285001 => if x35 = true then (some (0, 0)) else (attestorref07_Climb.l0 k x0 x1 x3 0 x285000 x285001)
def attestorref07_Climb.l0 : Nat → Int → Int → List (S36) → Int → Int → Int → Option (Int × Int)
  | 0, _, _, _, _, _, _ => none
  | k + 1, x0, x1, x3, x10, x290000, x290001 => if x10 < (x3.length : Int) then (if 0 ≤ x10 then ((attestorref07_pair.f x1 x290000 x290001 ((rd_T36 x3 x10).f0) ((rd_T36 x3 x10).f1)).bind fun bt291 => ((attestorref06_Node.f k x0 bt291.1 bt291.2.1 bt291.2.2.1 bt291.2.2.2).bind fun bt296 => (attestorref07_Climb.l0 k x0 (wrap64 (Int.tdiv x1 2)) x3 (wrap64 (x10 + 1)) bt296.1 bt296.2))) else (none)) else (some (x290000, x290001))
end
def attestorref07_Climb.f (k : Nat) (a0 : Int) (a1 : Int) (a2_0 : Int) (a2_1 : Int) (l3 : List (S36)) : Option (Int × Int) := (attestorref01_Valid.f a0).bind fun t286 => (if t286 = true then (if a1 < 0 then (attestorref07_Climb.j0 k a0 a1 l3 true a2_0 a2_1) else (if (l3.length : Int) > 18 then (attestorref07_Climb.j0 k a0 a1 l3 true a2_0 a2_1) else ((attestorref07_Proper.f a0 a2_0 a2_1).bind fun t287 => (if t287 = true then ((attestorref07_All.f k a0 l3).bind fun t288 => (attestorref07_Climb.j0 k a0 a1 l3 (!t288) a2_0 a2_1)) else (attestorref07_Climb.j0 k a0 a1 l3 true a2_0 a2_1))))) else (attestorref07_Climb.j0 k a0 a1 l3 true a2_0 a2_1))
theorem attestorref07_Climb.mono_l : ∀ k, (∀ y0 y1 y2 y3 y4 y5, LeO (attestorref07_Climb.j0 k y0 y1 y2 y3 y4 y5) (attestorref07_Climb.j0 (k + 1) y0 y1 y2 y3 y4 y5)) ∧ (∀ y0 y1 y2 y3 y4 y5, LeO (attestorref07_Climb.l0 k y0 y1 y2 y3 y4 y5) (attestorref07_Climb.l0 (k + 1) y0 y1 y2 y3 y4 y5))
  | 0 => ⟨fun _ _ _ _ _ _ r h => by simp [attestorref07_Climb.j0] at h, fun _ _ _ _ _ _ r h => by simp [attestorref07_Climb.l0] at h⟩
  | k + 1 => by
    obtain ⟨ih0, ih1⟩ := attestorref07_Climb.mono_l k
    refine ⟨?_, ?_⟩
    · intro y0 y1 y2 y3 y4 y5
      unfold attestorref07_Climb.j0
      repeat' first
      | (with_reducible exact ih0 _ _ _ _ _ _)
      | (with_reducible exact ih1 _ _ _ _ _ _)
      | (with_reducible exact attestorref06_Node.mono _ _ _ _ _ _)
      | (with_reducible exact attestorref07_All.mono _ _ _)
      | (with_reducible exact LeO.refl _)
      | (with_reducible exact LeO.none _)
      | (with_reducible refine LeO.ite ?_ ?_)
      | (with_reducible refine LeO.bind ?_ (fun _ => ?_))
      | exact ih0 _ _ _ _ _ _
      | exact ih1 _ _ _ _ _ _
      | exact attestorref06_Node.mono _ _ _ _ _ _
      | exact attestorref07_All.mono _ _ _
      | exact LeO.none _
      | refine LeO.ite ?_ ?_
      | refine LeO.bind ?_ (fun _ => ?_)
    · intro y0 y1 y2 y3 y4 y5
      unfold attestorref07_Climb.l0
      repeat' first
      | (with_reducible exact ih0 _ _ _ _ _ _)
      | (with_reducible exact ih1 _ _ _ _ _ _)
      | (with_reducible exact attestorref06_Node.mono _ _ _ _ _ _)
      | (with_reducible exact attestorref07_All.mono _ _ _)
      | (with_reducible exact LeO.refl _)
      | (with_reducible exact LeO.none _)
      | (with_reducible refine LeO.ite ?_ ?_)
      | (with_reducible refine LeO.bind ?_ (fun _ => ?_))
      | exact ih0 _ _ _ _ _ _
      | exact ih1 _ _ _ _ _ _
      | exact attestorref06_Node.mono _ _ _ _ _ _
      | exact attestorref07_All.mono _ _ _
      | exact LeO.none _
      | refine LeO.ite ?_ ?_
      | refine LeO.bind ?_ (fun _ => ?_)
theorem attestorref07_Climb.mono : ∀ a0 a1 a2 a3 a4 k, LeO (attestorref07_Climb.f k a0 a1 a2 a3 a4) (attestorref07_Climb.f (k + 1) a0 a1 a2 a3 a4) := by
  intro a0 a1 a2 a3 a4 k
  obtain ⟨ih0, ih1⟩ := attestorref07_Climb.mono_l k
  unfold attestorref07_Climb.f
  repeat' first
      | (with_reducible exact ih0 _ _ _ _ _ _)
      | (with_reducible exact ih1 _ _ _ _ _ _)
      | (with_reducible exact attestorref06_Node.mono _ _ _ _ _ _)
      | (with_reducible exact attestorref07_All.mono _ _ _)
      | (with_reducible exact LeO.refl _)
      | (with_reducible exact LeO.none _)
      | (with_reducible refine LeO.ite ?_ ?_)
      | (with_reducible refine LeO.bind ?_ (fun _ => ?_))
      | exact ih0 _ _ _ _ _ _
      | exact ih1 _ _ _ _ _ _
      | exact attestorref06_Node.mono _ _ _ _ _ _
      | exact attestorref07_All.mono _ _ _
      | exact LeO.none _
      | refine LeO.ite ?_ ?_
      | refine LeO.bind ?_ (fun _ => ?_)
def attestorref07_Climb.T7 : Bool × List (List Nat × List Nat) := (true, [([], []), ([], []), ([], []), ([], []), ([2, 3], [2, 3]), ([4], [4]), ([0, 1, 5], [0, 1, 5]), ([], []), ([7, 6, 6, 0, 1, 2, 3, 4, 5, 6, 7], [6, 7])])
def attestorref07_Climb.B7 : List Nat := [0, 0, 0, 0, 12, 28, 63, 0, 255]
theorem attestorref07_Climb.tab7 : rtab .any (opsOf Tryd.f25 7) = attestorref07_Climb.T7 := by kernel_rfl
theorem attestorref07_Climb.bits7 : waitsOk attestorref07_Climb.T7.2 attestorref07_Climb.B7 = true := by kernel_rfl
set_option maxHeartbeats 8000000 in
set_option maxRecDepth 100000 in
theorem attestorref07_Climb.calls (k : Nat) (a0 : Int) (a1 : Int) (a2_0 : Int) (a2_1 : Int) (A3 : Option Addr) (c3 : Nat) (l3 : List (S36)) (r1 : Int) (r2 : Int) (w : World) (hr3 : Kd.C k36 w A3 l3.length l3) (hc3 : l3.length ≤ c3) (h : attestorref07_Climb.f k a0 a1 a2_0 a2_1 l3 = some (r1, r2)) :
  Calls Tryd.prog 25 #[.int .i64 a0, .int .i64 a1, .agg #[.int .u64 a2_0, .int .u64 a2_1], .slice A3 l3.length c3] w fun e w' => e = .returned (.agg #[.int .u64 r1, .int .u64 r2]) ∧ Below w.heap.size w w' := by
 have hu36 := Tryd.underlying36
 have hu48 := Tryd.underlying48
 have HR3 := Aside0.mk hr3
 have HC3 := Aside0.mk hc3
 clear hr3 hc3
 have HB := Aside0.mk (Below.refl w.heap.size w)
 have H : ((attestorref01_Valid.f a0).bind fun t286 => (if t286 = true then (if a1 < 0 then (attestorref07_Climb.j0 k a0 a1 l3 true a2_0 a2_1) else (if (l3.length : Int) > 18 then (attestorref07_Climb.j0 k a0 a1 l3 true a2_0 a2_1) else ((attestorref07_Proper.f a0 a2_0 a2_1).bind fun t287 => (if t287 = true then ((attestorref07_All.f k a0 l3).bind fun t288 => (attestorref07_Climb.j0 k a0 a1 l3 (!t288) a2_0 a2_1)) else (attestorref07_Climb.j0 k a0 a1 l3 true a2_0 a2_1))))) else (attestorref07_Climb.j0 k a0 a1 l3 true a2_0 a2_1))) = some (r1, r2) := h
 clear h
 have HC5 := Aside0.mk H
 clear H
 go_enter Tryd.func25, Tryd.ntmps25
 go_upto_region 1 with (first | ((with_reducible refine gate_dst (N := 6) rfl ?_); (try (refine gate_guard (by rfl) ?_; dsimp only)); refine box_event ?hg (N := 6) ?hd (cs := #[.int .u64 a2_0, .int .u64 a2_1]) (t := 36) ?hr ?_; (case hd => rfl); (case hg => rfl); (case hr => first | (go_simp; done) | (go_simp; rfl)); intro g284 hg w6 hbox hb; have n0_ := Aside0.mk (below_step (by repeat (first | (with_reducible first | exact HB.out | apply below_alloc | apply pw_below_drewN | apply below_drew1) | exact HB.out)) hb); have n1_ := Aside0.mk (hbox); have n2_ := Aside0.mk ((by rw [hg]; exact (below_size (by repeat (first | (with_reducible first | exact HB.out | apply below_alloc | apply pw_below_drewN | apply below_drew1) | exact HB.out))) : w.heap.size ≤ g284)); have n3_ := Aside0.mk ((by rw [hg]; exact (below_size (by repeat (first | (with_reducible first | exact HB.out | apply below_alloc | apply pw_below_drewN | apply below_drew1) | exact HB.out))) : w.heap.size ≤ g284)); clear HB; have HB := n0_; have B284 := n1_; have GW284 := n2_; have GE284 := n3_; clear n0_ n1_ n2_ n3_; clear hb hbox hg) | ((with_reducible refine gate_dst (N := 8) rfl ?_); (try (refine gate_guard (by rfl) ?_; dsimp only)); refine box_event ?hg (N := 8) ?hd (cs := #[.int .u64 0, .int .u64 0]) (t := 36) ?hr ?_; (case hd => rfl); (case hg => rfl); (case hr => first | (go_simp; done) | (go_simp; rfl)); intro g285 hg w7 hbox hb; have n0_ := Aside0.mk (blk_below (g := g284) (o := .cells #[.int .u64 a2_0, .int .u64 a2_1] 36 (0, 0)) (by exact B284.out) hb); have n1_ := Aside0.mk (below_step (by repeat (first | (with_reducible first | exact HB.out | apply below_alloc | apply pw_below_drewN | apply below_drew1 | refine below_set ?_ GE284.out) | exact HB.out)) hb); have n2_ := Aside0.mk (hbox); have n3_ := Aside0.mk ((by rw [hg]; exact (below_size (by repeat (first | (with_reducible first | exact HB.out | apply below_alloc | apply pw_below_drewN | apply below_drew1 | refine below_set ?_ GE284.out) | exact HB.out))) : w.heap.size ≤ g285)); have n4_ := Aside0.mk ((by rw [hg]; exact (below_size (by repeat (first | (with_reducible first | exact HB.out | apply below_alloc | apply pw_below_drewN | apply below_drew1 | refine below_set ?_ GE284.out) | exact HB.out))) : w.heap.size ≤ g285)); have n5_ := Aside0.mk ((by rw [hg]; exact Nat.ne_of_lt (blk_lt (g := g284) (o := .cells #[.int .u64 a2_0, .int .u64 a2_1] 36 (0, 0)) (by exact B284.out)) : g284 ≠ g285)); have n6_ := Aside0.mk ((by rw [hg]; exact Nat.ne_of_gt (blk_lt (g := g284) (o := .cells #[.int .u64 a2_0, .int .u64 a2_1] 36 (0, 0)) (by exact B284.out)) : g285 ≠ g284)); clear B284; clear HB; have B284 := n0_; have HB := n1_; have B285 := n2_; have GW285 := n3_; have GE285 := n4_; have NB284_285 := n5_; have NB285_284 := n6_; clear n0_ n1_ n2_ n3_ n4_ n5_ n6_; clear hb hbox hg))
 (try simp only [Act.put, sa_, sb_, sc_])
 go_cut [35] (fun v35 wc => ∃ (kq : Nat) (x35_4 : Bool), v35 = .bool x35_4 ∧ Aside0 (attestorref07_Climb.j0 kq a0 a1 l3 x35_4 a2_0 a2_1 = some (r1, r2)) ∧ Aside0 (kq ≤ k) ∧ Aside0 (wc.heap[g284]? = some (.cells #[.int .u64 a2_0, .int .u64 a2_1] 36 (0, 0))) ∧ Aside0 (wc.heap[g285]? = some (.cells #[.int .u64 0, .int .u64 0] 36 (0, 0))) ∧ Aside0 (Below w.heap.size w wc))
 case first =>
  have H := HC5.out
  clear HC5
  replace H := Option.bind_eq_some_iff.mp H
  obtain ⟨t286, A80, H⟩ := H
  have A8 := Aside0.mk A80
  clear A80
  by_cases c9 : t286 = true
  ·subst c9
   have H1 : (if a1 < 0 then (attestorref07_Climb.j0 k a0 a1 l3 true a2_0 a2_1) else (if (l3.length : Int) > 18 then (attestorref07_Climb.j0 k a0 a1 l3 true a2_0 a2_1) else ((attestorref07_Proper.f a0 a2_0 a2_1).bind fun t287 => (if t287 = true then ((attestorref07_All.f k a0 l3).bind fun t288 => (attestorref07_Climb.j0 k a0 a1 l3 (!t288) a2_0 a2_1)) else (attestorref07_Climb.j0 k a0 a1 l3 true a2_0 a2_1))))) = some (r1, r2) := by rw [if_pos rfl] at H; exact H
   clear H
   have H := H1
   clear H1
   by_cases c10 : a1 < 0
   ·rw [if_pos c10] at H
    have c10b0 : decide (a1 < 0) = true := decide_eq_true c10
    clear c10
    (first | rw [c10b0] | (simp only [i64_w, i32_w]; rw [c10b0]) | skip)
    have H' := Aside0.mk H
    clear H
    go_wp2_with (first | ((with_reducible refine gate_callee (f := 42) rfl ?_); refine goesL_ (some 13) rfl rfl Tryd.func42 (by kernel_rfl) rfl #[.int .i64 a0] rfl (by (try simp only [List.map_toArray, List.map_cons, List.map_nil]); first | done | rfl | (go_simp; done)) ?_; (with_reducible refine (attestorref01_Valid.calls a0 true _ A8.out).mono ?_); rintro e w' ⟨rfl, ⟨nd, rfl⟩⟩; refine ⟨_, rfl, ?_⟩))
    go_meet
    case rel => exact ⟨_, (true), (by first | rfl | (simp; done) | (simp [*]; done) | (simp; rfl) | (simp; decide +kernel)), H', ⟨by first | omega | exact Nat.le_refl _⟩, ⟨by exact B284.out⟩, ⟨by exact B285.out⟩, ⟨by repeat (first | (with_reducible first | exact HB.out | apply below_alloc | apply pw_below_drewN | apply below_drew1 | refine below_set ?_ GE284.out | refine below_set ?_ GE285.out) | exact HB.out)⟩⟩
   ·rw [if_neg c10] at H
    have c10b0 : decide (a1 < 0) = false := decide_eq_false c10
    clear c10
    (first | rw [c10b0] | (simp only [i64_w, i32_w]; rw [c10b0]) | skip)
    by_cases c11 : (l3.length : Int) > 18
    ·rw [if_pos c11] at H
     have c11b0 : decide (18 < (l3.length : Int)) = true := decide_eq_true c11
     have c11b1 : decide (18 < l3.length) = true := decide_eq_true (by omega)
     clear c11
     have H' := Aside0.mk H
     clear H
     go_wp2_with (first | ((with_reducible refine gate_callee (f := 42) rfl ?_); refine goesL_ (some 13) rfl rfl Tryd.func42 (by kernel_rfl) rfl #[.int .i64 a0] rfl (by (try simp only [List.map_toArray, List.map_cons, List.map_nil]); first | done | rfl | (go_simp; done)) ?_; (with_reducible refine (attestorref01_Valid.calls a0 true _ A8.out).mono ?_); rintro e w' ⟨rfl, ⟨nd, rfl⟩⟩; refine ⟨_, rfl, ?_⟩))
     go_meet
     case rel => exact ⟨_, (true), (by first | rfl | (simp; done) | (simp [*]; done) | (simp; rfl) | (simp; decide +kernel)), H', ⟨by first | omega | exact Nat.le_refl _⟩, ⟨by exact B284.out⟩, ⟨by exact B285.out⟩, ⟨by repeat (first | (with_reducible first | exact HB.out | apply below_alloc | apply pw_below_drewN | apply below_drew1 | refine below_set ?_ GE284.out | refine below_set ?_ GE285.out) | exact HB.out)⟩⟩
    ·rw [if_neg c11] at H
     have c11b0 : decide (18 < (l3.length : Int)) = false := decide_eq_false c11
     have c11b1 : decide (18 < l3.length) = false := decide_eq_false (by omega)
     clear c11
     replace H := Option.bind_eq_some_iff.mp H
     obtain ⟨t287, A120, H⟩ := H
     have A12 := Aside0.mk A120
     clear A120
     by_cases c13 : t287 = true
     ·subst c13
      have H1 : ((attestorref07_All.f k a0 l3).bind fun t288 => (attestorref07_Climb.j0 k a0 a1 l3 (!t288) a2_0 a2_1)) = some (r1, r2) := by rw [if_pos rfl] at H; exact H
      clear H
      have H := H1
      clear H1
      replace H := Option.bind_eq_some_iff.mp H
      obtain ⟨t288, A140, H⟩ := H
      have A14 := Aside0.mk A140
      clear A140
      have H' := Aside0.mk H
      clear H
      go_wp2_with (first | ((with_reducible refine gate_callee (f := 42) rfl ?_); refine goesL_ (some 13) rfl rfl Tryd.func42 (by kernel_rfl) rfl #[.int .i64 a0] rfl (by (try simp only [List.map_toArray, List.map_cons, List.map_nil]); first | done | rfl | (go_simp; done)) ?_; (with_reducible refine (attestorref01_Valid.calls a0 true _ A8.out).mono ?_); rintro e w' ⟨rfl, ⟨nd, rfl⟩⟩; refine ⟨_, rfl, ?_⟩; have hnb15 := NB284_285.out; have hnc15 := NB285_284.out; have hcz16_0 : w7.cell? ⟨g284, 0, none⟩ = some (.int .u64 a2_0) := bq_ B284 0; have hcz16_1 : w7.cell? ⟨g284, 1, none⟩ = some (.int .u64 a2_1) := bq_ B284 1; have hfz16_0 := blk_frozen B284.out 0; have hfz16_1 := blk_frozen B284.out 1) | (go_at_call 49; (with_reducible refine (attestorref07_Proper.calls a0 a2_0 a2_1 true _ A12.out).mono ?_); rintro e w17 ⟨rfl, hb⟩; have n0_ := Aside0.mk (blk_below (g := g284) (o := .cells #[.int .u64 a2_0, .int .u64 a2_1] 36 (0, 0)) (by exact B284.out) hb); have n1_ := Aside0.mk (blk_below (g := g285) (o := .cells #[.int .u64 0, .int .u64 0] 36 (0, 0)) (by exact B285.out) hb); have n2_ := Aside0.mk (below_step (by repeat (first | (with_reducible first | exact HB.out | apply below_alloc | apply pw_below_drewN | apply below_drew1 | refine below_set ?_ GE284.out | refine below_set ?_ GE285.out) | exact HB.out)) hb); clear B284; clear B285; clear HB; have B284 := n0_; have B285 := n1_; have HB := n2_; clear n0_ n1_ n2_; (try clear hb); (try clear hb2); (try clear hk); (try clear hi)) | (go_at_call 43; (with_reducible refine (attestorref07_All.calls k a0 _ _ l3 t288 _ ?side1 ?side2 A14.out).mono ?_); (case side1 => repeat (first | exact (Kd.C_below HR3.out HB.out) | (with_reducible refine Kd.C_alloc ?_ _) | (with_reducible refine Kd.C_drewN ?_ _) | (with_reducible refine Kd.C_drew ?_))); (case side2 => exact HC3.out); rintro e w18 ⟨rfl, hb⟩; have n0_ := Aside0.mk (blk_below (g := g284) (o := .cells #[.int .u64 a2_0, .int .u64 a2_1] 36 (0, 0)) (by exact B284.out) hb); have n1_ := Aside0.mk (blk_below (g := g285) (o := .cells #[.int .u64 0, .int .u64 0] 36 (0, 0)) (by exact B285.out) hb); have n2_ := Aside0.mk (below_step (by repeat (first | (with_reducible first | exact HB.out | apply below_alloc | apply pw_below_drewN | apply below_drew1 | refine below_set ?_ GE284.out | refine below_set ?_ GE285.out) | exact HB.out)) hb); clear B284; clear B285; clear HB; have B284 := n0_; have B285 := n1_; have HB := n2_; clear n0_ n1_ n2_; (try clear hb); (try clear hb2); (try clear hk); (try clear hi)))
      go_meet
      case rel => exact ⟨_, (!t288), (by first | rfl | (simp; done) | (simp [*]; done) | (simp; rfl) | (simp; decide +kernel)), H', ⟨by first | omega | exact Nat.le_refl _⟩, ⟨by exact B284.out⟩, ⟨by exact B285.out⟩, ⟨by repeat (first | (with_reducible first | exact HB.out | apply below_alloc | apply pw_below_drewN | apply below_drew1 | refine below_set ?_ GE284.out | refine below_set ?_ GE285.out) | exact HB.out)⟩⟩
     ·replace c13 := Bool.eq_false_iff.mpr c13
      subst c13
      have H1 : (attestorref07_Climb.j0 k a0 a1 l3 true a2_0 a2_1) = some (r1, r2) := by rw [if_neg (show ¬ (false = true) by decide)] at H; exact H
      clear H
      have H := H1
      clear H1
      have H' := Aside0.mk H
      clear H
      go_wp2_with (first | ((with_reducible refine gate_callee (f := 42) rfl ?_); refine goesL_ (some 13) rfl rfl Tryd.func42 (by kernel_rfl) rfl #[.int .i64 a0] rfl (by (try simp only [List.map_toArray, List.map_cons, List.map_nil]); first | done | rfl | (go_simp; done)) ?_; (with_reducible refine (attestorref01_Valid.calls a0 true _ A8.out).mono ?_); rintro e w' ⟨rfl, ⟨nd, rfl⟩⟩; refine ⟨_, rfl, ?_⟩; have hnb19 := NB284_285.out; have hnc19 := NB285_284.out; have hcz20_0 : w7.cell? ⟨g284, 0, none⟩ = some (.int .u64 a2_0) := bq_ B284 0; have hcz20_1 : w7.cell? ⟨g284, 1, none⟩ = some (.int .u64 a2_1) := bq_ B284 1; have hfz20_0 := blk_frozen B284.out 0; have hfz20_1 := blk_frozen B284.out 1) | (go_at_call 49; (with_reducible refine (attestorref07_Proper.calls a0 a2_0 a2_1 false _ A12.out).mono ?_); rintro e w21 ⟨rfl, hb⟩; have n0_ := Aside0.mk (blk_below (g := g284) (o := .cells #[.int .u64 a2_0, .int .u64 a2_1] 36 (0, 0)) (by exact B284.out) hb); have n1_ := Aside0.mk (blk_below (g := g285) (o := .cells #[.int .u64 0, .int .u64 0] 36 (0, 0)) (by exact B285.out) hb); have n2_ := Aside0.mk (below_step (by repeat (first | (with_reducible first | exact HB.out | apply below_alloc | apply pw_below_drewN | apply below_drew1 | refine below_set ?_ GE284.out | refine below_set ?_ GE285.out) | exact HB.out)) hb); clear B284; clear B285; clear HB; have B284 := n0_; have B285 := n1_; have HB := n2_; clear n0_ n1_ n2_; (try clear hb); (try clear hb2); (try clear hk); (try clear hi)))
      go_meet
      case rel => exact ⟨_, (true), (by first | rfl | (simp; done) | (simp [*]; done) | (simp; rfl) | (simp; decide +kernel)), H', ⟨by first | omega | exact Nat.le_refl _⟩, ⟨by exact B284.out⟩, ⟨by exact B285.out⟩, ⟨by repeat (first | (with_reducible first | exact HB.out | apply below_alloc | apply pw_below_drewN | apply below_drew1 | refine below_set ?_ GE284.out | refine below_set ?_ GE285.out) | exact HB.out)⟩⟩
  ·replace c9 := Bool.eq_false_iff.mpr c9
   subst c9
   have H1 : (attestorref07_Climb.j0 k a0 a1 l3 true a2_0 a2_1) = some (r1, r2) := by rw [if_neg (show ¬ (false = true) by decide)] at H; exact H
   clear H
   have H := H1
   clear H1
   have H' := Aside0.mk H
   clear H
   go_wp2_with (first | ((with_reducible refine gate_callee (f := 42) rfl ?_); refine goesL_ (some 13) rfl rfl Tryd.func42 (by kernel_rfl) rfl #[.int .i64 a0] rfl (by (try simp only [List.map_toArray, List.map_cons, List.map_nil]); first | done | rfl | (go_simp; done)) ?_; (with_reducible refine (attestorref01_Valid.calls a0 false _ A8.out).mono ?_); rintro e w' ⟨rfl, ⟨nd, rfl⟩⟩; refine ⟨_, rfl, ?_⟩))
   go_meet
   case rel => exact ⟨_, (true), (by first | rfl | (simp; done) | (simp [*]; done) | (simp; rfl) | (simp; decide +kernel)), H', ⟨by first | omega | exact Nat.le_refl _⟩, ⟨by exact B284.out⟩, ⟨by exact B285.out⟩, ⟨by repeat (first | (with_reducible first | exact HB.out | apply below_alloc | apply pw_below_drewN | apply below_drew1 | refine below_set ?_ GE284.out | refine below_set ?_ GE285.out) | exact HB.out)⟩⟩
 case rest =>
  clear HC5
  try clear c1
  try clear c2
  try clear p2
  try clear c3
  try clear c4
  try clear c9
  try clear c10
  try clear c10b0
  try clear c11
  try clear c11b0
  try clear c11b1
  try clear c13
  try clear c15
  try clear c19
  try clear hcz16_0
  try clear hcz16_1
  try clear hcz20_0
  try clear hcz20_1
  try clear hfz16_0
  try clear hfz16_1
  try clear hfz20_0
  try clear hfz20_1
  obtain ⟨kq, x35_4, rfl, HA, HJ4, B284, B285, HB⟩ := hcut
  cases kq with
  | zero => exact absurd HA.out (by simp [attestorref07_Climb.j0])
  | succ kj4 =>
   have H := HA.out
   clear HA
   simp only [attestorref07_Climb.j0] at H
   by_cases c22 : x35_4 = true
   ·subst c22
    have H1 : (some (0, 0)) = some (r1, r2) := by rw [if_pos rfl] at H; exact H
    clear H
    have H := H1
    clear H1
    simp only [Option.some.injEq, Prod.mk.injEq] at H
    obtain ⟨rfl, rfl⟩ := H
    have hnb23 := NB285_284.out
    have hnc23 := NB284_285.out
    have hcz24_0 : wc.cell? ⟨g285, 0, none⟩ = some (.int .u64 0) := bq_ B285 0
    have hcz24_1 : wc.cell? ⟨g285, 1, none⟩ = some (.int .u64 0) := bq_ B285 1
    have hfz24_0 := blk_frozen B285.out 0
    have hfz24_1 := blk_frozen B285.out 1
    go_wp2
    refine bodyPost_ret (results_cell_row rfl _ _ g285 36 #[.int .u64 0, .int .u64 0] (0, 0) _ rfl (by refine blk_put (cs := #[.int .u64 0, .int .u64 0]) ?_ 1 _ rfl; refine blk_put (cs := #[.int .u64 0, .int .u64 0]) ?_ 0 _ rfl; exact B285.out) Tryd.underlying36 rfl (by kernel_rfl)) rfl ?_
    exact ⟨by first | rfl | (simp [errW_none, errW_some] <;> rfl) | (simp [*, errW_none, errW_some] <;> rfl), by repeat (first | (with_reducible first | exact HB.out | apply below_alloc | apply pw_below_drewN | apply below_drew1 | refine below_set ?_ GE284.out | refine below_set ?_ GE285.out) | exact HB.out)⟩
   ·replace c22 := Bool.eq_false_iff.mpr c22
    subst c22
    have H1 : (attestorref07_Climb.l0 kj4 a0 a1 l3 0 a2_0 a2_1) = some (r1, r2) := by rw [if_neg (show ¬ (false = true) by decide)] at H; exact H
    clear H
    have H := H1
    clear H1
    have H' := Aside0.mk H
    clear H
    have hnb25 := NB284_285.out
    have hnc25 := NB285_284.out
    have hcz26_0 : wc.cell? ⟨g284, 0, none⟩ = some (.int .u64 a2_0) := bq_ B284 0
    have hcz26_1 : wc.cell? ⟨g284, 1, none⟩ = some (.int .u64 a2_1) := bq_ B284 1
    have hfz26_0 := blk_frozen B284.out 0
    have hfz26_1 := blk_frozen B284.out 1
    go_wp2_with (first | ((with_reducible refine gate_dst (N := 9) rfl ?_); (try (refine gate_guard (by rfl) ?_; dsimp only)); refine box_event ?hg (N := 9) ?hd (cs := #[.int .u64 0, .int .u64 0]) (t := 36) ?hr ?_; (case hd => rfl); (case hg => rfl); (case hr => first | (go_simp; done) | (go_simp; rfl)); intro g289 hg w27 hbox hb; have n0_ := Aside0.mk (blk_below (g := g284) (o := .cells #[.int .u64 a2_0, .int .u64 a2_1] 36 (0, 0)) (by exact B284.out) hb); have n1_ := Aside0.mk (blk_below (g := g285) (o := .cells #[.int .u64 0, .int .u64 0] 36 (0, 0)) (by exact B285.out) hb); have n2_ := Aside0.mk (below_step (by repeat (first | (with_reducible first | exact HB.out | apply below_alloc | apply pw_below_drewN | apply below_drew1 | refine below_set ?_ GE284.out | refine below_set ?_ GE285.out) | exact HB.out)) hb); have n3_ := Aside0.mk (hbox); have n4_ := Aside0.mk ((by rw [hg]; exact (below_size (by repeat (first | (with_reducible first | exact HB.out | apply below_alloc | apply pw_below_drewN | apply below_drew1 | refine below_set ?_ GE284.out | refine below_set ?_ GE285.out) | exact HB.out))) : w.heap.size ≤ g289)); have n5_ := Aside0.mk ((by rw [hg]; exact (below_size (by repeat (first | (with_reducible first | exact HB.out | apply below_alloc | apply pw_below_drewN | apply below_drew1 | refine below_set ?_ GE284.out | refine below_set ?_ GE285.out) | exact HB.out))) : w.heap.size ≤ g289)); have n6_ := Aside0.mk ((by rw [hg]; exact Nat.ne_of_lt (blk_lt (g := g284) (o := .cells #[.int .u64 a2_0, .int .u64 a2_1] 36 (0, 0)) (by exact B284.out)) : g284 ≠ g289)); have n7_ := Aside0.mk ((by rw [hg]; exact Nat.ne_of_gt (blk_lt (g := g284) (o := .cells #[.int .u64 a2_0, .int .u64 a2_1] 36 (0, 0)) (by exact B284.out)) : g289 ≠ g284)); have n8_ := Aside0.mk ((by rw [hg]; exact Nat.ne_of_lt (blk_lt (g := g285) (o := .cells #[.int .u64 0, .int .u64 0] 36 (0, 0)) (by exact B285.out)) : g285 ≠ g289)); have n9_ := Aside0.mk ((by rw [hg]; exact Nat.ne_of_gt (blk_lt (g := g285) (o := .cells #[.int .u64 0, .int .u64 0] 36 (0, 0)) (by exact B285.out)) : g289 ≠ g285)); clear B284; clear B285; clear HB; have B284 := n0_; have B285 := n1_; have HB := n2_; have B289 := n3_; have GW289 := n4_; have GE289 := n5_; have NB284_289 := n6_; have NB289_284 := n7_; have NB285_289 := n8_; have NB289_285 := n9_; clear n0_ n1_ n2_ n3_ n4_ n5_ n6_ n7_ n8_ n9_; clear hb hbox hg; have hnb28 := NB289_284.out; have hnc28 := NB284_289.out; have hnb29 := NB289_285.out; have hnc29 := NB285_289.out; have hcz30_0 : w27.cell? ⟨g289, 0, none⟩ = some (.int .u64 0) := bq_ B289 0; have hcz30_1 : w27.cell? ⟨g289, 1, none⟩ = some (.int .u64 0) := bq_ B289 1; have hfz30_0 := blk_frozen B289.out 0; have hfz30_1 := blk_frozen B289.out 1))
    go_loopg [1, 10] kj4 (fun kq v1 v10 w' => ∃ (x1_2 : Int) (x10_2 : Int) (x290000_2 : Int) (x290001_2 : Int), v1 = .int .i64 x1_2 ∧ v10 = .int .i64 x10_2 ∧ Aside0 (attestorref07_Climb.l0 kq a0 x1_2 l3 x10_2 x290000_2 x290001_2 = some (r1, r2)) ∧ Aside0 (kq ≤ kj4) ∧ Aside0 (w'.heap[g284]? = some (.cells #[.int .u64 a2_0, .int .u64 a2_1] 36 (0, 0))) ∧ Aside0 (w'.heap[g285]? = some (.cells #[.int .u64 0, .int .u64 0] 36 (0, 0))) ∧ Aside0 (w'.heap[g289]? = some (.cells #[.int .u64 x290000_2, .int .u64 x290001_2] 36 (0, 0))) ∧ Aside0 (Below w.heap.size w w'))
    case atStart => exact ⟨(a1), (0), (a2_0), (a2_1), (by first | rfl | (simp; done) | (simp [*]; done) | (simp; rfl) | (simp; decide +kernel)), (by first | rfl | (simp; done) | (simp [*]; done) | (simp; rfl) | (simp; decide +kernel)), H', ⟨Nat.le_refl _⟩, ⟨by refine blk_far ?_ NB284_289.out _; refine blk_far ?_ NB284_289.out _; exact B284.out⟩, ⟨by refine blk_far ?_ NB285_289.out _; refine blk_far ?_ NB285_289.out _; exact B285.out⟩, ⟨by refine blk_put (cs := #[.int .u64 a2_0, .int .u64 0]) ?_ 1 _ rfl; refine blk_put (cs := #[.int .u64 0, .int .u64 0]) ?_ 0 _ rfl; exact B289.out⟩, ⟨by repeat (first | (with_reducible first | exact HB.out | apply below_alloc | apply pw_below_drewN | apply below_drew1 | refine below_set ?_ GE284.out | refine below_set ?_ GE285.out | refine below_set ?_ GE289.out) | exact HB.out)⟩⟩
    case round =>
     clear H'
     try clear c1
     try clear c2
     try clear p2
     try clear c3
     try clear c4
     try clear c9
     try clear c10
     try clear c10b0
     try clear c11
     try clear c11b0
     try clear c11b1
     try clear c13
     try clear c15
     try clear c19
     try clear c22
     try clear c23
     try clear c25
     try clear c28
     try clear c29
     try clear hcz16_0
     try clear hcz16_1
     try clear hcz20_0
     try clear hcz20_1
     try clear hcz24_0
     try clear hcz24_1
     try clear hcz26_0
     try clear hcz26_1
     try clear hcz30_0
     try clear hcz30_1
     try clear hfz16_0
     try clear hfz16_1
     try clear hfz20_0
     try clear hfz20_1
     try clear hfz24_0
     try clear hfz24_1
     try clear hfz26_0
     try clear hfz26_1
     try clear hfz30_0
     try clear hfz30_1
     try clear p2
     obtain ⟨x1_2, x10_2, x290000_2, x290001_2, rfl, rfl, HA, HK2, B284, B285, B289, HB⟩ := hrel
     cases gk with
     | zero => exact absurd HA.out (by simp [attestorref07_Climb.l0])
     | succ k2 =>
      have H := HA.out
      clear HA
      simp only [attestorref07_Climb.l0] at H
      by_cases c31 : x10_2 < (l3.length : Int)
      ·rw [if_pos c31] at H
       have c31b0 : decide (x10_2 < (l3.length : Int)) = true := decide_eq_true c31
       clear c31
       by_cases c32 : 0 ≤ x10_2
       ·rw [if_pos c32] at H
        have c32b0 : decide (0 ≤ x10_2) = true := decide_eq_true c32
        clear c32
        replace H := Option.bind_eq_some_iff.mp H
        obtain ⟨⟨t291, t292, t293, t294⟩, A330, H⟩ := H
        replace H : ((attestorref06_Node.f k2 a0 t291 t292 t293 t294).bind fun bt296 => (attestorref07_Climb.l0 k2 a0 (wrap64 (Int.tdiv x1_2 2)) l3 (wrap64 (x10_2 + 1)) bt296.1 bt296.2)) = some (r1, r2) := H
        have A33 := Aside0.mk A330
        clear A330
        replace H := Option.bind_eq_some_iff.mp H
        obtain ⟨⟨t296, t297⟩, A340, H⟩ := H
        replace H : (attestorref07_Climb.l0 k2 a0 (wrap64 (Int.tdiv x1_2 2)) l3 (wrap64 (x10_2 + 1)) t296 t297) = some (r1, r2) := H
        have A34 := Aside0.mk A340
        clear A340
        have H' := Aside0.mk H
        clear H
        try go_wp2
        have n0_ := Aside0.mk (blk_drew B284.out)
        have n1_ := Aside0.mk (blk_drew B285.out)
        have n2_ := Aside0.mk (blk_drew B289.out)
        have n3_ := Aside0.mk (below_drew1 HB.out)
        clear B284
        clear B285
        clear B289
        clear HB
        have B284 := n0_
        have B285 := n1_
        have B289 := n2_
        have HB := n3_
        clear n0_ n1_ n2_ n3_
        have p290 : 0 ≤ (x10_2 : Int) := of_decide_eq_true (by first | (with_reducible assumption) | assumption)
        have q290 : x10_2 < (l3.length : Int) := of_decide_eq_true (by first | (with_reducible assumption) | assumption)
        obtain ⟨ad290, e290, hx290_0, hx290_1⟩ := at_T36 HR3.out x10_2 p290 q290
        have hw290_1 := hx290_1
        have hw290_0 := hx290_0
        cases e290
        replace hx290_0 := (HB.out.cell (World.block_lt_of_cell? w _ hx290_0)).trans hx290_0
        replace hx290_1 := (HB.out.cell (World.block_lt_of_cell? w _ hx290_1)).trans hx290_1
        replace p290 := eq_true p290
        replace q290 := eq_true q290
        refine start_ (n := 9) (S := fun w' => w'.cell? ⟨g289, 0, none⟩ = some (.int .u64 x290000_2) ∧ w'.cell? ⟨g289, 1, none⟩ = some (.int .u64 x290001_2) ∧ w'.cell? (ad290.add ((x10_2).toNat * 2)) = some (.int .u64 ((rd_T36 l3 x10_2).f0)) ∧ w'.cell? ⟨(ad290.add ((x10_2).toNat * 2)).block, (ad290.add ((x10_2).toNat * 2)).off + 1, none⟩ = some (.int .u64 ((rd_T36 l3 x10_2).f1))) (ds := []) z25_0_ (by kernel_rfl) rfl rfl ⟨bq_ B289 0, bq_ B289 1, ((HB.out.cell (World.block_lt_of_cell? w _ hw290_0)).trans hw290_0), ((HB.out.cell (World.block_lt_of_cell? w _ hw290_1)).trans hw290_1)⟩ (fun hL => ?_); refine with_tabW attestorref07_Climb.tab7 attestorref07_Climb.bits7 (fun T_ W_ => ?_)
        generalize wr.drew = w35 at B284 B285 B289 HB hx290_0 hx290_1 hL ⊢
        refine pure_ (i := 0) (N := some 44) (v := ?_) (a' := ?_) z25_1_ rfl rfl (an_ T_) (fun _ _ _ h => h) (Or.inl ⟨by rfl, ?_⟩) ?_ ?_
        rotate_left; · intro w'; go_simp; with_reducible rfl
        rotate_left; · simp only [Act.put, sa_, sb_, sc_, i64_w, i32_w]; rfl
        refine pure_ (i := 2) (N := some 46) (v := ?_) (a' := ?_) z25_2_ rfl rfl (an_ T_) (fun _ _ _ h => h) (Or.inl ⟨by rfl, ?_⟩) ?_ ?_
        rotate_left; · intro w'; go_simp; with_reducible rfl
        rotate_left; · simp only [Act.put, sa_, sb_, sc_, i64_w, i32_w]; rfl
        refine pure_ (i := 3) (N := some 47) (v := ?_) (a' := ?_) z25_3_ rfl rfl (an_ T_) (fun _ _ _ h => h) (Or.inl ⟨by rfl, ?_⟩) ?_ ?_
        rotate_left; · intro w'; go_simp; with_reducible rfl
        rotate_left; · simp only [Act.put, sa_, sb_, sc_, i64_w, i32_w]; rfl
        refine pure_ (i := 4) (N := some 48) (v := ?_) (a' := ?_) z25_4_ rfl rfl (an_ T_) (fun _ _ _ h => h) (Or.inl ⟨by rfl, ?_⟩) ?_ ?_
        rotate_left; · intro w'; go_simp; with_reducible rfl
        rotate_left; · simp only [Act.put, sa_, sb_, sc_, i64_w, i32_w]; rfl
        refine take_ (i := 1) (N := some 45) (v := ?_) (a' := ?_) z25_5_ rfl rfl (tk_ T_ W_) (fun _ _ _ h => h) (Or.inl ⟨by rfl, ?_⟩) hL ?_ ?_
        rotate_left
        ·rintro w' ⟨s0, s1, s2, s3⟩
         go_simp
         with_reducible rfl
        rotate_left
        ·simp only [Act.put, sa_, sb_, sc_, i64_w, i32_w]
         rfl
        refine take_ (i := 5) (N := some 49) (v := ?_) (a' := ?_) z25_6_ rfl rfl (tk_ T_ W_) (fun _ _ _ h => h) (Or.inl ⟨by rfl, ?_⟩) hL ?_ ?_
        rotate_left
        ·rintro w' ⟨s0, s1, s2, s3⟩
         go_simp
         with_reducible rfl
        rotate_left
        ·simp only [Act.put, sa_, sb_, sc_, i64_w, i32_w]
         rfl
        refine join_ (σ := Nat) 1 z25_7_ (fun s_ => [(50, .agg #[.int .u64 t291, .int .u64 t292, .int .u64 t293, .int .u64 t294]), (11, .pointer (some ⟨s_, 0, none⟩))]) (fun s_ w' => (w'.cell? ⟨g289, 0, none⟩ = some (.int .u64 x290000_2) ∧ w'.cell? ⟨g289, 1, none⟩ = some (.int .u64 x290001_2) ∧ w'.cell? (ad290.add ((x10_2).toNat * 2)) = some (.int .u64 ((rd_T36 l3 x10_2).f0)) ∧ w'.cell? ⟨(ad290.add ((x10_2).toNat * 2)).block, (ad290.add ((x10_2).toNat * 2)).off + 1, none⟩ = some (.int .u64 ((rd_T36 l3 x10_2).f1))) ∧ (w'.heap[g284]? = some (.cells #[.int .u64 a2_0, .int .u64 a2_1] 36 (0, 0))) ∧ (w'.heap[g285]? = some (.cells #[.int .u64 0, .int .u64 0] 36 (0, 0))) ∧ (w'.heap[g289]? = some (.cells #[.int .u64 x290000_2, .int .u64 x290001_2] 36 (0, 0))) ∧ (w'.heap[s_]? = some (.cells #[.int .u64 0, .int .u64 0, .int .u64 0, .int .u64 0] 48 (0, 0))) ∧ (w.heap.size ≤ s_) ∧ (w.heap.size ≤ s_) ∧ (g284 ≠ s_) ∧ (s_ ≠ g284) ∧ (g285 ≠ s_) ∧ (s_ ≠ g285) ∧ (g289 ≠ s_) ∧ (s_ ≠ g289) ∧ (Below w.heap.size w w')) ?_ ?_
        rotate_left
        ·intro hCont
         refine two_ (i := 6) (j := 7) (Ni := some 50) (Nj := some 11) z25_8_ z25_9_ rfl rfl rfl rfl (two_of T_.out (by kernel_rfl)) (by decide) (by decide) (fun K hK => ?_) (fun K hK => ?_)
         ·skip
          refine goes_ Tryd.func50 (by kernel_rfl) rfl #[.int .i64 x1_2, .agg #[.int .u64 x290000_2, .int .u64 x290001_2], .agg #[.int .u64 ((rd_T36 l3 x10_2).f0), .int .u64 ((rd_T36 l3 x10_2).f1)]] (by rfl) rfl rfl (by (try simp only [List.map_toArray, List.map_cons, List.map_nil]); first | done | rfl | (go_simp; done)) ?_
          with_reducible refine (attestorref07_pair.calls x1_2 x290000_2 x290001_2 ((rd_T36 l3 x10_2).f0) ((rd_T36 l3 x10_2).f1) t291 t292 t293 t294 _ A33.out).mono ?_
          rintro e w36 ⟨rfl, hb⟩
          refine ⟨_, rfl, ?_⟩
          have n0_ := Aside0.mk (blk_below (g := g284) (o := .cells #[.int .u64 a2_0, .int .u64 a2_1] 36 (0, 0)) (by exact B284.out) hb)
          have n1_ := Aside0.mk (blk_below (g := g285) (o := .cells #[.int .u64 0, .int .u64 0] 36 (0, 0)) (by exact B285.out) hb)
          have n2_ := Aside0.mk (blk_below (g := g289) (o := .cells #[.int .u64 x290000_2, .int .u64 x290001_2] 36 (0, 0)) (by exact B289.out) hb)
          have n3_ := Aside0.mk (below_step (by repeat (first | (with_reducible first | exact HB.out | apply below_alloc | apply pw_below_drewN | apply below_drew1 | refine below_set ?_ GE284.out | refine below_set ?_ GE285.out | refine below_set ?_ GE289.out) | exact HB.out)) hb)
          clear B284
          clear B285
          clear B289
          clear HB
          have B284 := n0_
          have B285 := n1_
          have B289 := n2_
          have HB := n3_
          clear n0_ n1_ n2_ n3_
          (try clear hb)
          (try clear hb2)
          (try clear hk)
          (try clear hi)
          refine hK.out _ _ ⟨bq_ B289 0, bq_ B289 1, ((HB.out.cell (World.block_lt_of_cell? w _ hw290_0)).trans hw290_0), ((HB.out.cell (World.block_lt_of_cell? w _ hw290_1)).trans hw290_1)⟩ (fun hL => ?_)
          clear hK K
          refine norm_ (a' := ?_) ?_ ?_
          rotate_left
          ·show Act.put _ (some 50) _ = _
           simp only [Act.put, sa_, sb_, sc_, i64_w, i32_w]
           rfl
          refine one_ (i := 7) (N := some 11) z25_7_ rfl rfl (on_ T_) (by decide) (fun K hK => ?_)
          refine box_step ?hg (N := 11) ?hd (cs := #[.int .u64 0, .int .u64 0, .int .u64 0, .int .u64 0]) (t := 48) ?hr ?_; (case hd => rfl); (case hg => rfl); (case hr => first | (go_simp; done) | (go_simp; rfl))
          intro g295 hg w37 hbox hb
          have n0_ := Aside0.mk (blk_below (g := g284) (o := .cells #[.int .u64 a2_0, .int .u64 a2_1] 36 (0, 0)) (by exact B284.out) hb)
          have n1_ := Aside0.mk (blk_below (g := g285) (o := .cells #[.int .u64 0, .int .u64 0] 36 (0, 0)) (by exact B285.out) hb)
          have n2_ := Aside0.mk (blk_below (g := g289) (o := .cells #[.int .u64 x290000_2, .int .u64 x290001_2] 36 (0, 0)) (by exact B289.out) hb)
          have n3_ := Aside0.mk (below_step (by repeat (first | (with_reducible first | exact HB.out | apply below_alloc | apply pw_below_drewN | apply below_drew1 | refine below_set ?_ GE284.out | refine below_set ?_ GE285.out | refine below_set ?_ GE289.out) | exact HB.out)) hb)
          have n4_ := Aside0.mk (hbox)
          have n5_ := Aside0.mk ((by rw [hg]; exact (below_size (by repeat (first | (with_reducible first | exact HB.out | apply below_alloc | apply pw_below_drewN | apply below_drew1 | refine below_set ?_ GE284.out | refine below_set ?_ GE285.out | refine below_set ?_ GE289.out) | exact HB.out))) : w.heap.size ≤ g295))
          have n6_ := Aside0.mk ((by rw [hg]; exact (below_size (by repeat (first | (with_reducible first | exact HB.out | apply below_alloc | apply pw_below_drewN | apply below_drew1 | refine below_set ?_ GE284.out | refine below_set ?_ GE285.out | refine below_set ?_ GE289.out) | exact HB.out))) : w.heap.size ≤ g295))
          have n7_ := Aside0.mk ((by rw [hg]; exact Nat.ne_of_lt (blk_lt (g := g284) (o := .cells #[.int .u64 a2_0, .int .u64 a2_1] 36 (0, 0)) (by exact B284.out)) : g284 ≠ g295))
          have n8_ := Aside0.mk ((by rw [hg]; exact Nat.ne_of_gt (blk_lt (g := g284) (o := .cells #[.int .u64 a2_0, .int .u64 a2_1] 36 (0, 0)) (by exact B284.out)) : g295 ≠ g284))
          have n9_ := Aside0.mk ((by rw [hg]; exact Nat.ne_of_lt (blk_lt (g := g285) (o := .cells #[.int .u64 0, .int .u64 0] 36 (0, 0)) (by exact B285.out)) : g285 ≠ g295))
          have n10_ := Aside0.mk ((by rw [hg]; exact Nat.ne_of_gt (blk_lt (g := g285) (o := .cells #[.int .u64 0, .int .u64 0] 36 (0, 0)) (by exact B285.out)) : g295 ≠ g285))
          have n11_ := Aside0.mk ((by rw [hg]; exact Nat.ne_of_lt (blk_lt (g := g289) (o := .cells #[.int .u64 x290000_2, .int .u64 x290001_2] 36 (0, 0)) (by exact B289.out)) : g289 ≠ g295))
          have n12_ := Aside0.mk ((by rw [hg]; exact Nat.ne_of_gt (blk_lt (g := g289) (o := .cells #[.int .u64 x290000_2, .int .u64 x290001_2] 36 (0, 0)) (by exact B289.out)) : g295 ≠ g289))
          clear B284
          clear B285
          clear B289
          clear HB
          have B284 := n0_
          have B285 := n1_
          have B289 := n2_
          have HB := n3_
          have B295 := n4_
          have GW295 := n5_
          have GE295 := n6_
          have NB284_295 := n7_
          have NB295_284 := n8_
          have NB285_295 := n9_
          have NB295_285 := n10_
          have NB289_295 := n11_
          have NB295_289 := n12_
          clear n0_ n1_ n2_ n3_ n4_ n5_ n6_ n7_ n8_ n9_ n10_ n11_ n12_
          clear hb hbox hg
          refine hK.out _ _ ⟨bq_ B289 0, bq_ B289 1, ((HB.out.cell (World.block_lt_of_cell? w _ hw290_0)).trans hw290_0), ((HB.out.cell (World.block_lt_of_cell? w _ hw290_1)).trans hw290_1)⟩ (fun hL => ?_)
          clear hK K
          refine norm_ (a' := ?_) ?_ ?_
          rotate_left
          ·show Act.put _ (some 11) _ = _
           simp only [Act.put, sa_, sb_, sc_, i64_w, i32_w]
           rfl
          exact norm_ (by simp only [putAll, Act.put, List.setIfInBounds_toArray, List.set_cons_zero, List.set_cons_succ]) (hCont (g295) _ ⟨hL, (by exact B284.out), (by exact B285.out), (by exact B289.out), (by exact B295.out), GW295.out, GE295.out, NB284_295.out, NB295_284.out, NB285_295.out, NB295_285.out, NB289_295.out, NB295_289.out, (by repeat (first | (with_reducible first | exact HB.out | apply below_alloc | apply pw_below_drewN | apply below_drew1 | refine below_set ?_ GE284.out | refine below_set ?_ GE285.out | refine below_set ?_ GE289.out | refine below_set ?_ GE295.out) | exact HB.out))⟩)
         ·skip
          refine box_step ?hg (N := 11) ?hd (cs := #[.int .u64 0, .int .u64 0, .int .u64 0, .int .u64 0]) (t := 48) ?hr ?_; (case hd => rfl); (case hg => rfl); (case hr => first | (go_simp; done) | (go_simp; rfl))
          intro g295 hg w36 hbox hb
          have n0_ := Aside0.mk (blk_below (g := g284) (o := .cells #[.int .u64 a2_0, .int .u64 a2_1] 36 (0, 0)) (by exact B284.out) hb)
          have n1_ := Aside0.mk (blk_below (g := g285) (o := .cells #[.int .u64 0, .int .u64 0] 36 (0, 0)) (by exact B285.out) hb)
          have n2_ := Aside0.mk (blk_below (g := g289) (o := .cells #[.int .u64 x290000_2, .int .u64 x290001_2] 36 (0, 0)) (by exact B289.out) hb)
          have n3_ := Aside0.mk (below_step (by repeat (first | (with_reducible first | exact HB.out | apply below_alloc | apply pw_below_drewN | apply below_drew1 | refine below_set ?_ GE284.out | refine below_set ?_ GE285.out | refine below_set ?_ GE289.out) | exact HB.out)) hb)
          have n4_ := Aside0.mk (hbox)
          have n5_ := Aside0.mk ((by rw [hg]; exact (below_size (by repeat (first | (with_reducible first | exact HB.out | apply below_alloc | apply pw_below_drewN | apply below_drew1 | refine below_set ?_ GE284.out | refine below_set ?_ GE285.out | refine below_set ?_ GE289.out) | exact HB.out))) : w.heap.size ≤ g295))
          have n6_ := Aside0.mk ((by rw [hg]; exact (below_size (by repeat (first | (with_reducible first | exact HB.out | apply below_alloc | apply pw_below_drewN | apply below_drew1 | refine below_set ?_ GE284.out | refine below_set ?_ GE285.out | refine below_set ?_ GE289.out) | exact HB.out))) : w.heap.size ≤ g295))
          have n7_ := Aside0.mk ((by rw [hg]; exact Nat.ne_of_lt (blk_lt (g := g284) (o := .cells #[.int .u64 a2_0, .int .u64 a2_1] 36 (0, 0)) (by exact B284.out)) : g284 ≠ g295))
          have n8_ := Aside0.mk ((by rw [hg]; exact Nat.ne_of_gt (blk_lt (g := g284) (o := .cells #[.int .u64 a2_0, .int .u64 a2_1] 36 (0, 0)) (by exact B284.out)) : g295 ≠ g284))
          have n9_ := Aside0.mk ((by rw [hg]; exact Nat.ne_of_lt (blk_lt (g := g285) (o := .cells #[.int .u64 0, .int .u64 0] 36 (0, 0)) (by exact B285.out)) : g285 ≠ g295))
          have n10_ := Aside0.mk ((by rw [hg]; exact Nat.ne_of_gt (blk_lt (g := g285) (o := .cells #[.int .u64 0, .int .u64 0] 36 (0, 0)) (by exact B285.out)) : g295 ≠ g285))
          have n11_ := Aside0.mk ((by rw [hg]; exact Nat.ne_of_lt (blk_lt (g := g289) (o := .cells #[.int .u64 x290000_2, .int .u64 x290001_2] 36 (0, 0)) (by exact B289.out)) : g289 ≠ g295))
          have n12_ := Aside0.mk ((by rw [hg]; exact Nat.ne_of_gt (blk_lt (g := g289) (o := .cells #[.int .u64 x290000_2, .int .u64 x290001_2] 36 (0, 0)) (by exact B289.out)) : g295 ≠ g289))
          clear B284
          clear B285
          clear B289
          clear HB
          have B284 := n0_
          have B285 := n1_
          have B289 := n2_
          have HB := n3_
          have B295 := n4_
          have GW295 := n5_
          have GE295 := n6_
          have NB284_295 := n7_
          have NB295_284 := n8_
          have NB285_295 := n9_
          have NB295_285 := n10_
          have NB289_295 := n11_
          have NB295_289 := n12_
          clear n0_ n1_ n2_ n3_ n4_ n5_ n6_ n7_ n8_ n9_ n10_ n11_ n12_
          clear hb hbox hg
          refine hK.out _ _ ⟨bq_ B289 0, bq_ B289 1, ((HB.out.cell (World.block_lt_of_cell? w _ hw290_0)).trans hw290_0), ((HB.out.cell (World.block_lt_of_cell? w _ hw290_1)).trans hw290_1)⟩ (fun hL => ?_)
          clear hK K
          refine norm_ (a' := ?_) ?_ ?_
          rotate_left
          ·show Act.put _ (some 11) _ = _
           simp only [Act.put, sa_, sb_, sc_, i64_w, i32_w]
           rfl
          refine one_ (i := 6) (N := some 50) z25_7_ rfl rfl (on_ T_) (by decide) (fun K hK => ?_)
          refine goes_ Tryd.func50 (by kernel_rfl) rfl #[.int .i64 x1_2, .agg #[.int .u64 x290000_2, .int .u64 x290001_2], .agg #[.int .u64 ((rd_T36 l3 x10_2).f0), .int .u64 ((rd_T36 l3 x10_2).f1)]] (by rfl) rfl rfl (by (try simp only [List.map_toArray, List.map_cons, List.map_nil]); first | done | rfl | (go_simp; done)) ?_
          with_reducible refine (attestorref07_pair.calls x1_2 x290000_2 x290001_2 ((rd_T36 l3 x10_2).f0) ((rd_T36 l3 x10_2).f1) t291 t292 t293 t294 _ A33.out).mono ?_
          rintro e w37 ⟨rfl, hb⟩
          refine ⟨_, rfl, ?_⟩
          have n0_ := Aside0.mk (blk_below (g := g284) (o := .cells #[.int .u64 a2_0, .int .u64 a2_1] 36 (0, 0)) (by exact B284.out) hb)
          have n1_ := Aside0.mk (blk_below (g := g285) (o := .cells #[.int .u64 0, .int .u64 0] 36 (0, 0)) (by exact B285.out) hb)
          have n2_ := Aside0.mk (blk_below (g := g289) (o := .cells #[.int .u64 x290000_2, .int .u64 x290001_2] 36 (0, 0)) (by exact B289.out) hb)
          have n3_ := Aside0.mk (blk_below (g := g295) (o := .cells #[.int .u64 0, .int .u64 0, .int .u64 0, .int .u64 0] 48 (0, 0)) (by exact B295.out) hb)
          have n4_ := Aside0.mk (below_step (by repeat (first | (with_reducible first | exact HB.out | apply below_alloc | apply pw_below_drewN | apply below_drew1 | refine below_set ?_ GE284.out | refine below_set ?_ GE285.out | refine below_set ?_ GE289.out | refine below_set ?_ GE295.out) | exact HB.out)) hb)
          clear B284
          clear B285
          clear B289
          clear B295
          clear HB
          have B284 := n0_
          have B285 := n1_
          have B289 := n2_
          have B295 := n3_
          have HB := n4_
          clear n0_ n1_ n2_ n3_ n4_
          (try clear hb)
          (try clear hb2)
          (try clear hk)
          (try clear hi)
          refine hK.out _ _ ⟨bq_ B289 0, bq_ B289 1, ((HB.out.cell (World.block_lt_of_cell? w _ hw290_0)).trans hw290_0), ((HB.out.cell (World.block_lt_of_cell? w _ hw290_1)).trans hw290_1)⟩ (fun hL => ?_)
          clear hK K
          refine norm_ (a' := ?_) ?_ ?_
          rotate_left
          ·show Act.put _ (some 50) _ = _
           simp only [Act.put, sa_, sb_, sc_, i64_w, i32_w]
           rfl
          exact norm_ (by simp only [putAll, Act.put, List.setIfInBounds_toArray, List.set_cons_zero, List.set_cons_succ]) (hCont (g295) _ ⟨hL, (by exact B284.out), (by exact B285.out), (by exact B289.out), (by exact B295.out), GW295.out, GE295.out, NB284_295.out, NB295_284.out, NB285_295.out, NB295_285.out, NB289_295.out, NB295_289.out, (by repeat (first | (with_reducible first | exact HB.out | apply below_alloc | apply pw_below_drewN | apply below_drew1 | refine below_set ?_ GE284.out | refine below_set ?_ GE285.out | refine below_set ?_ GE289.out | refine below_set ?_ GE295.out) | exact HB.out))⟩)
        rintro g295 w38 ⟨hS_, h0_, h1_, h2_, h3_, h4_, h5_, h6_, h7_, h8_, h9_, h10_, h11_, h12_⟩
        have n0_ : Aside0 (w38.heap[g284]? = some (.cells #[.int .u64 a2_0, .int .u64 a2_1] 36 (0, 0))) := ⟨h0_⟩
        have n1_ : Aside0 (w38.heap[g285]? = some (.cells #[.int .u64 0, .int .u64 0] 36 (0, 0))) := ⟨h1_⟩
        have n2_ : Aside0 (w38.heap[g289]? = some (.cells #[.int .u64 x290000_2, .int .u64 x290001_2] 36 (0, 0))) := ⟨h2_⟩
        have n3_ : Aside0 (w38.heap[g295]? = some (.cells #[.int .u64 0, .int .u64 0, .int .u64 0, .int .u64 0] 48 (0, 0))) := ⟨h3_⟩
        have n4_ : Aside0 (w.heap.size ≤ g295) := ⟨h4_⟩
        have n5_ : Aside0 (w.heap.size ≤ g295) := ⟨h5_⟩
        have n6_ : Aside0 (g284 ≠ g295) := ⟨h6_⟩
        have n7_ : Aside0 (g295 ≠ g284) := ⟨h7_⟩
        have n8_ : Aside0 (g285 ≠ g295) := ⟨h8_⟩
        have n9_ : Aside0 (g295 ≠ g285) := ⟨h9_⟩
        have n10_ : Aside0 (g289 ≠ g295) := ⟨h10_⟩
        have n11_ : Aside0 (g295 ≠ g289) := ⟨h11_⟩
        have n12_ : Aside0 (Below w.heap.size w w38) := ⟨h12_⟩
        clear B284
        clear B285
        clear B289
        clear HB
        clear h0_ h1_ h2_ h3_ h4_ h5_ h6_ h7_ h8_ h9_ h10_ h11_ h12_
        have B284 := n0_
        have B285 := n1_
        have B289 := n2_
        have B295 := n3_
        have GW295 := n4_
        have GE295 := n5_
        have NB284_295 := n6_
        have NB295_284 := n7_
        have NB285_295 := n8_
        have NB295_285 := n9_
        have NB289_295 := n10_
        have NB295_289 := n11_
        have HB := n12_
        clear n0_ n1_ n2_ n3_ n4_ n5_ n6_ n7_ n8_ n9_ n10_ n11_ n12_
        have hL : w38.cell? ⟨g289, 0, none⟩ = some (.int .u64 x290000_2) ∧ w38.cell? ⟨g289, 1, none⟩ = some (.int .u64 x290001_2) ∧ w38.cell? (ad290.add ((x10_2).toNat * 2)) = some (.int .u64 ((rd_T36 l3 x10_2).f0)) ∧ w38.cell? ⟨(ad290.add ((x10_2).toNat * 2)).block, (ad290.add ((x10_2).toNat * 2)).off + 1, none⟩ = some (.int .u64 ((rd_T36 l3 x10_2).f1)) := hS_
        refine norm_ (a' := ?_) ?_ ?_
        rotate_left
        ·simp only [putAll, Act.put, List.setIfInBounds_toArray, List.set_cons_zero, List.set_cons_succ]
         rfl
        refine one_ (i := 8) (N := none) z25_10_ rfl rfl (on_ T_) (by decide) (fun K hK => ?_)
        have hs39 : w38.cell? ⟨g295, 0, none⟩ = some (.int .u64 0) := bq_ B295 0
        have hfs39 := blk_frozen B295.out 0
        have hns39_0 := NB284_295.out
        have hns39_1 := NB285_295.out
        have hns39_2 := NB289_295.out
        have hms39_0 := NB295_284.out
        have hms39_1 := NB295_285.out
        have hms39_2 := NB295_289.out
        have hs40 : w38.cell? ⟨g295, 1, none⟩ = some (.int .u64 0) := bq_ B295 1
        have hfs40 := blk_frozen B295.out 1
        have hns40_0 := NB284_295.out
        have hns40_1 := NB285_295.out
        have hns40_2 := NB289_295.out
        have hms40_0 := NB295_284.out
        have hms40_1 := NB295_285.out
        have hms40_2 := NB295_289.out
        have hs41 : w38.cell? ⟨g295, 2, none⟩ = some (.int .u64 0) := bq_ B295 2
        have hfs41 := blk_frozen B295.out 2
        have hns41_0 := NB284_295.out
        have hns41_1 := NB285_295.out
        have hns41_2 := NB289_295.out
        have hms41_0 := NB295_284.out
        have hms41_1 := NB295_285.out
        have hms41_2 := NB295_289.out
        have hs42 : w38.cell? ⟨g295, 3, none⟩ = some (.int .u64 0) := bq_ B295 3
        have hfs42 := blk_frozen B295.out 3
        have hns42_0 := NB284_295.out
        have hns42_1 := NB285_295.out
        have hns42_2 := NB289_295.out
        have hms42_0 := NB295_284.out
        have hms42_1 := NB295_285.out
        have hms42_2 := NB295_289.out
        refine skip_ (w1 := ?_) (by rfl) rfl ?_ ?_
        rotate_left
        ·go_simp
         rfl
        refine hK.out _ _ ⟨((cell_far (p := ⟨g295, _, none⟩) NB289_295.out _).trans (((cell_far (p := ⟨g295, _, none⟩) NB289_295.out _).trans (((cell_far (p := ⟨g295, _, none⟩) NB289_295.out _).trans (((cell_far (p := ⟨g295, _, none⟩) NB289_295.out _).trans (hL.1)))))))), ((cell_far (p := ⟨g295, _, none⟩) NB289_295.out _).trans (((cell_far (p := ⟨g295, _, none⟩) NB289_295.out _).trans (((cell_far (p := ⟨g295, _, none⟩) NB289_295.out _).trans (((cell_far (p := ⟨g295, _, none⟩) NB289_295.out _).trans (hL.2.1)))))))), ((cell_far (p := ⟨g295, _, none⟩) (by first | exact Nat.ne_of_lt (Nat.lt_of_lt_of_le (by have := World.block_lt_of_cell? _ _ hw290_0; first | rwa [add_block] at this | exact this) GW295.out) | (rw [add_block]; exact Nat.ne_of_lt (Nat.lt_of_lt_of_le (by have := World.block_lt_of_cell? _ _ hw290_0; first | rwa [add_block] at this | exact this) GW295.out)) | (show (Addr.add _ _).block ≠ _; rw [add_block]; exact Nat.ne_of_lt (Nat.lt_of_lt_of_le (by have := World.block_lt_of_cell? _ _ hw290_0; first | rwa [add_block] at this | exact this) GW295.out)) | (dsimp only; exact Nat.ne_of_lt (Nat.lt_of_lt_of_le (by have := World.block_lt_of_cell? _ _ hw290_0; first | rwa [add_block] at this | exact this) GW295.out))) _).trans (((cell_far (p := ⟨g295, _, none⟩) (by first | exact Nat.ne_of_lt (Nat.lt_of_lt_of_le (by have := World.block_lt_of_cell? _ _ hw290_0; first | rwa [add_block] at this | exact this) GW295.out) | (rw [add_block]; exact Nat.ne_of_lt (Nat.lt_of_lt_of_le (by have := World.block_lt_of_cell? _ _ hw290_0; first | rwa [add_block] at this | exact this) GW295.out)) | (show (Addr.add _ _).block ≠ _; rw [add_block]; exact Nat.ne_of_lt (Nat.lt_of_lt_of_le (by have := World.block_lt_of_cell? _ _ hw290_0; first | rwa [add_block] at this | exact this) GW295.out)) | (dsimp only; exact Nat.ne_of_lt (Nat.lt_of_lt_of_le (by have := World.block_lt_of_cell? _ _ hw290_0; first | rwa [add_block] at this | exact this) GW295.out))) _).trans (((cell_far (p := ⟨g295, _, none⟩) (by first | exact Nat.ne_of_lt (Nat.lt_of_lt_of_le (by have := World.block_lt_of_cell? _ _ hw290_0; first | rwa [add_block] at this | exact this) GW295.out) | (rw [add_block]; exact Nat.ne_of_lt (Nat.lt_of_lt_of_le (by have := World.block_lt_of_cell? _ _ hw290_0; first | rwa [add_block] at this | exact this) GW295.out)) | (show (Addr.add _ _).block ≠ _; rw [add_block]; exact Nat.ne_of_lt (Nat.lt_of_lt_of_le (by have := World.block_lt_of_cell? _ _ hw290_0; first | rwa [add_block] at this | exact this) GW295.out)) | (dsimp only; exact Nat.ne_of_lt (Nat.lt_of_lt_of_le (by have := World.block_lt_of_cell? _ _ hw290_0; first | rwa [add_block] at this | exact this) GW295.out))) _).trans (((cell_far (p := ⟨g295, _, none⟩) (by first | exact Nat.ne_of_lt (Nat.lt_of_lt_of_le (by have := World.block_lt_of_cell? _ _ hw290_0; first | rwa [add_block] at this | exact this) GW295.out) | (rw [add_block]; exact Nat.ne_of_lt (Nat.lt_of_lt_of_le (by have := World.block_lt_of_cell? _ _ hw290_0; first | rwa [add_block] at this | exact this) GW295.out)) | (show (Addr.add _ _).block ≠ _; rw [add_block]; exact Nat.ne_of_lt (Nat.lt_of_lt_of_le (by have := World.block_lt_of_cell? _ _ hw290_0; first | rwa [add_block] at this | exact this) GW295.out)) | (dsimp only; exact Nat.ne_of_lt (Nat.lt_of_lt_of_le (by have := World.block_lt_of_cell? _ _ hw290_0; first | rwa [add_block] at this | exact this) GW295.out))) _).trans (hL.2.2.1)))))))), ((cell_far (p := ⟨g295, _, none⟩) (by first | exact Nat.ne_of_lt (Nat.lt_of_lt_of_le (by have := World.block_lt_of_cell? _ _ hw290_1; first | rwa [add_block] at this | exact this) GW295.out) | (rw [add_block]; exact Nat.ne_of_lt (Nat.lt_of_lt_of_le (by have := World.block_lt_of_cell? _ _ hw290_1; first | rwa [add_block] at this | exact this) GW295.out)) | (show (Addr.add _ _).block ≠ _; rw [add_block]; exact Nat.ne_of_lt (Nat.lt_of_lt_of_le (by have := World.block_lt_of_cell? _ _ hw290_1; first | rwa [add_block] at this | exact this) GW295.out)) | (dsimp only; exact Nat.ne_of_lt (Nat.lt_of_lt_of_le (by have := World.block_lt_of_cell? _ _ hw290_1; first | rwa [add_block] at this | exact this) GW295.out))) _).trans (((cell_far (p := ⟨g295, _, none⟩) (by first | exact Nat.ne_of_lt (Nat.lt_of_lt_of_le (by have := World.block_lt_of_cell? _ _ hw290_1; first | rwa [add_block] at this | exact this) GW295.out) | (rw [add_block]; exact Nat.ne_of_lt (Nat.lt_of_lt_of_le (by have := World.block_lt_of_cell? _ _ hw290_1; first | rwa [add_block] at this | exact this) GW295.out)) | (show (Addr.add _ _).block ≠ _; rw [add_block]; exact Nat.ne_of_lt (Nat.lt_of_lt_of_le (by have := World.block_lt_of_cell? _ _ hw290_1; first | rwa [add_block] at this | exact this) GW295.out)) | (dsimp only; exact Nat.ne_of_lt (Nat.lt_of_lt_of_le (by have := World.block_lt_of_cell? _ _ hw290_1; first | rwa [add_block] at this | exact this) GW295.out))) _).trans (((cell_far (p := ⟨g295, _, none⟩) (by first | exact Nat.ne_of_lt (Nat.lt_of_lt_of_le (by have := World.block_lt_of_cell? _ _ hw290_1; first | rwa [add_block] at this | exact this) GW295.out) | (rw [add_block]; exact Nat.ne_of_lt (Nat.lt_of_lt_of_le (by have := World.block_lt_of_cell? _ _ hw290_1; first | rwa [add_block] at this | exact this) GW295.out)) | (show (Addr.add _ _).block ≠ _; rw [add_block]; exact Nat.ne_of_lt (Nat.lt_of_lt_of_le (by have := World.block_lt_of_cell? _ _ hw290_1; first | rwa [add_block] at this | exact this) GW295.out)) | (dsimp only; exact Nat.ne_of_lt (Nat.lt_of_lt_of_le (by have := World.block_lt_of_cell? _ _ hw290_1; first | rwa [add_block] at this | exact this) GW295.out))) _).trans (((cell_far (p := ⟨g295, _, none⟩) (by first | exact Nat.ne_of_lt (Nat.lt_of_lt_of_le (by have := World.block_lt_of_cell? _ _ hw290_1; first | rwa [add_block] at this | exact this) GW295.out) | (rw [add_block]; exact Nat.ne_of_lt (Nat.lt_of_lt_of_le (by have := World.block_lt_of_cell? _ _ hw290_1; first | rwa [add_block] at this | exact this) GW295.out)) | (show (Addr.add _ _).block ≠ _; rw [add_block]; exact Nat.ne_of_lt (Nat.lt_of_lt_of_le (by have := World.block_lt_of_cell? _ _ hw290_1; first | rwa [add_block] at this | exact this) GW295.out)) | (dsimp only; exact Nat.ne_of_lt (Nat.lt_of_lt_of_le (by have := World.block_lt_of_cell? _ _ hw290_1; first | rwa [add_block] at this | exact this) GW295.out))) _).trans (hL.2.2.2))))))))⟩ (fun hL => ?_)
        clear hK K
        refine done_ (done_of T_.out (by kernel_rfl)) ?_
        have hnb43 := NB295_284.out
        have hnc43 := NB284_295.out
        have hnb44 := NB295_285.out
        have hnc44 := NB285_295.out
        have hnb45 := NB295_289.out
        have hnc45 := NB289_295.out
        have hcz46_0 : w38.cell? ⟨g295, 0, none⟩ = some (.int .u64 0) := bq_ B295 0
        have hcz46_1 : w38.cell? ⟨g295, 1, none⟩ = some (.int .u64 0) := bq_ B295 1
        have hcz46_2 : w38.cell? ⟨g295, 2, none⟩ = some (.int .u64 0) := bq_ B295 2
        have hcz46_3 : w38.cell? ⟨g295, 3, none⟩ = some (.int .u64 0) := bq_ B295 3
        have hfz46_0 := blk_frozen B295.out 0
        have hfz46_1 := blk_frozen B295.out 1
        have hfz46_2 := blk_frozen B295.out 2
        have hfz46_3 := blk_frozen B295.out 3
        try go_wp2_with (first | ((with_reducible refine gate_callee (f := 44) rfl ?_); refine goesL_ (some 56) rfl rfl Tryd.func44 (by kernel_rfl) rfl #[.int .i64 a0, .agg #[.int .u64 t291, .int .u64 t292], .agg #[.int .u64 t293, .int .u64 t294]] rfl (by (try simp only [List.map_toArray, List.map_cons, List.map_nil]); first | done | rfl | (go_simp; done)) ?_; (with_reducible refine (attestorref06_Node.calls k2 a0 t291 t292 t293 t294 t296 t297 _ A34.out).mono ?_); rintro e w47 ⟨rfl, hb⟩; refine ⟨_, rfl, ?_⟩; have n0_ := Aside0.mk (blk_below (g := g284) (o := .cells #[.int .u64 a2_0, .int .u64 a2_1] 36 (0, 0)) (by refine blk_far ?_ NB284_295.out _; refine blk_far ?_ NB284_295.out _; refine blk_far ?_ NB284_295.out _; refine blk_far ?_ NB284_295.out _; exact B284.out) hb); have n1_ := Aside0.mk (blk_below (g := g285) (o := .cells #[.int .u64 0, .int .u64 0] 36 (0, 0)) (by refine blk_far ?_ NB285_295.out _; refine blk_far ?_ NB285_295.out _; refine blk_far ?_ NB285_295.out _; refine blk_far ?_ NB285_295.out _; exact B285.out) hb); have n2_ := Aside0.mk (blk_below (g := g289) (o := .cells #[.int .u64 x290000_2, .int .u64 x290001_2] 36 (0, 0)) (by refine blk_far ?_ NB289_295.out _; refine blk_far ?_ NB289_295.out _; refine blk_far ?_ NB289_295.out _; refine blk_far ?_ NB289_295.out _; exact B289.out) hb); have n3_ := Aside0.mk (blk_below (g := g295) (o := .cells #[.int .u64 t291, .int .u64 t292, .int .u64 t293, .int .u64 t294] 48 (0, 0)) (by refine blk_put (cs := #[.int .u64 t291, .int .u64 t292, .int .u64 t293, .int .u64 0]) ?_ 3 _ rfl; refine blk_put (cs := #[.int .u64 t291, .int .u64 t292, .int .u64 0, .int .u64 0]) ?_ 2 _ rfl; refine blk_put (cs := #[.int .u64 t291, .int .u64 0, .int .u64 0, .int .u64 0]) ?_ 1 _ rfl; refine blk_put (cs := #[.int .u64 0, .int .u64 0, .int .u64 0, .int .u64 0]) ?_ 0 _ rfl; exact B295.out) hb); have n4_ := Aside0.mk (below_step (by repeat (first | (with_reducible first | exact HB.out | apply below_alloc | apply pw_below_drewN | apply below_drew1 | refine below_set ?_ GE284.out | refine below_set ?_ GE285.out | refine below_set ?_ GE289.out | refine below_set ?_ GE295.out) | exact HB.out)) hb); clear B284; clear B285; clear B289; clear B295; clear HB; have B284 := n0_; have B285 := n1_; have B289 := n2_; have B295 := n3_; have HB := n4_; clear n0_ n1_ n2_ n3_ n4_; (try clear hb); (try clear hb2); (try clear hk); (try clear hi); have hnb48 := NB289_284.out; have hnc48 := NB284_289.out; have hnb49 := NB289_285.out; have hnc49 := NB285_289.out; have hcz50_0 : w47.cell? ⟨g289, 0, none⟩ = some (.int .u64 x290000_2) := bq_ B289 0; have hcz50_1 : w47.cell? ⟨g289, 1, none⟩ = some (.int .u64 x290001_2) := bq_ B289 1; have hfz50_0 := blk_frozen B289.out 0; have hfz50_1 := blk_frozen B289.out 1))
        go_roundg k2
        case measure => have := HJ4.out; have := HK2.out; omega
        case rel => exact ⟨(wrap64 (Int.tdiv x1_2 2)), (wrap64 (x10_2 + 1)), (t296), (t297), (by first | rfl | (simp; done) | (simp [*]; done) | (simp; rfl) | (simp; decide +kernel)), (by first | rfl | (simp; done) | (simp [*]; done) | (simp; rfl) | (simp; decide +kernel)), H', ⟨by have := HJ4.out; have := HK2.out; omega⟩, ⟨by refine blk_far ?_ NB284_289.out _; refine blk_far ?_ NB284_289.out _; exact B284.out⟩, ⟨by refine blk_far ?_ NB285_289.out _; refine blk_far ?_ NB285_289.out _; exact B285.out⟩, ⟨by refine blk_put (cs := #[.int .u64 t296, .int .u64 x290001_2]) ?_ 1 _ rfl; refine blk_put (cs := #[.int .u64 x290000_2, .int .u64 x290001_2]) ?_ 0 _ rfl; exact B289.out⟩, ⟨by repeat (first | (with_reducible first | exact HB.out | apply below_alloc | apply pw_below_drewN | apply below_drew1 | refine below_set ?_ GE284.out | refine below_set ?_ GE285.out | refine below_set ?_ GE289.out | refine below_set ?_ GE295.out) | exact HB.out)⟩⟩
       ·rw [if_neg c32] at H
        exact absurd H (by simp)
      ·rw [if_neg c31] at H
       have c31b0 : decide (x10_2 < (l3.length : Int)) = false := decide_eq_false c31
       clear c31
       simp only [Option.some.injEq, Prod.mk.injEq] at H
       obtain ⟨rfl, rfl⟩ := H
       have hnb51 := NB289_284.out
       have hnc51 := NB284_289.out
       have hnb52 := NB289_285.out
       have hnc52 := NB285_289.out
       have hcz53_0 : wr.cell? ⟨g289, 0, none⟩ = some (.int .u64 x290000_2) := bq_ B289 0
       have hcz53_1 : wr.cell? ⟨g289, 1, none⟩ = some (.int .u64 x290001_2) := bq_ B289 1
       have hfz53_0 := blk_frozen B289.out 0
       have hfz53_1 := blk_frozen B289.out 1
       have hnb54 := NB285_284.out
       have hnc54 := NB284_285.out
       have hcz55_0 : wr.cell? ⟨g285, 0, none⟩ = some (.int .u64 0) := bq_ B285 0
       have hcz55_1 : wr.cell? ⟨g285, 1, none⟩ = some (.int .u64 0) := bq_ B285 1
       have hfz55_0 := blk_frozen B285.out 0
       have hfz55_1 := blk_frozen B285.out 1
       go_wp2
       refine bodyPost_ret (results_cell_row rfl _ _ g285 36 #[.int .u64 x290000_2, .int .u64 x290001_2] (0, 0) _ rfl (by refine blk_put (cs := #[.int .u64 x290000_2, .int .u64 0]) ?_ 1 _ rfl; refine blk_put (cs := #[.int .u64 0, .int .u64 0]) ?_ 0 _ rfl; exact B285.out) Tryd.underlying36 rfl (by kernel_rfl)) rfl ?_
       exact ⟨by first | rfl | (simp [errW_none, errW_some] <;> rfl) | (simp [*, errW_none, errW_some] <;> rfl), by repeat (first | (with_reducible first | exact HB.out | apply below_alloc | apply pw_below_drewN | apply below_drew1 | refine below_set ?_ GE284.out | refine below_set ?_ GE285.out | refine below_set ?_ GE289.out) | exact HB.out)⟩

end Go.Proofs.YtpnpmeogffodgaaDoor.Q
end
section
namespace Go.Proofs.YtpnpmeogffodgaaDoor.Q
open Go.RowKit Go.Proofs.YtpnpmeogffodgaaDoorW.PrintWords Go.Proofs.YtpnpmeogffodgaaDoorW.PrintLast Go.Proofs.YtpnpmeogffodgaaDoorW.PrintMore
attribute [local go_sem] max2_int min2_int max_two min_two max_three min_three max_four min_four run_store_fnV run_store_fnc run_store_nfn   -- for this text's walks alone
set_option linter.unusedVariables false
set_option linter.unusedSimpArgs false

/-! ### attestorref07_Log: function 41 -/
def attestorref07_Log.l0 : Nat → Int → Int → Option (Int)
  | 0, _, _ => none
  | k + 1, x0, x3 => if x3 ≤ 18 then (if 0 ≤ x3 then (if x0 = (shl .i64 1 x3) then (some x3) else (attestorref07_Log.l0 k x0 (wrap64 (x3 + 1)))) else (none)) else (some (-1))
def attestorref07_Log.f (k : Nat) (a0 : Int) : Option (Int) := attestorref07_Log.l0 k a0 0
theorem attestorref07_Log.mono_l : ∀ k, (∀ y0 y1, LeO (attestorref07_Log.l0 k y0 y1) (attestorref07_Log.l0 (k + 1) y0 y1))
  | 0 => fun _ _ r h => by simp [attestorref07_Log.l0] at h
  | k + 1 => by
    have ih0 := attestorref07_Log.mono_l k
    · intro y0 y1
      unfold attestorref07_Log.l0
      repeat' first
      | (with_reducible exact ih0 _ _)
      | (with_reducible exact LeO.refl _)
      | (with_reducible exact LeO.none _)
      | (with_reducible refine LeO.ite ?_ ?_)
      | (with_reducible refine LeO.bind ?_ (fun _ => ?_))
      | exact ih0 _ _
      | exact LeO.none _
      | refine LeO.ite ?_ ?_
      | refine LeO.bind ?_ (fun _ => ?_)
theorem attestorref07_Log.mono : ∀ a0 k, LeO (attestorref07_Log.f k a0) (attestorref07_Log.f (k + 1) a0) := by
  intro a0 k
  have ih0 := attestorref07_Log.mono_l k
  unfold attestorref07_Log.f
  repeat' first
      | (with_reducible exact ih0 _ _)
      | (with_reducible exact LeO.refl _)
      | (with_reducible exact LeO.none _)
      | (with_reducible refine LeO.ite ?_ ?_)
      | (with_reducible refine LeO.bind ?_ (fun _ => ?_))
      | exact ih0 _ _
      | exact LeO.none _
      | refine LeO.ite ?_ ?_
      | refine LeO.bind ?_ (fun _ => ?_)
set_option maxHeartbeats 8000000 in
set_option maxRecDepth 100000 in
theorem attestorref07_Log.calls (k : Nat) (a0 : Int) (r : Int) (w : World) (h : attestorref07_Log.f k a0 = some r) :
    Calls Tryd.prog 41 #[.int .i64 a0] w fun e w' => e = .returned (.int .i64 r) ∧ Drawn0 w w' := by
  have H : (attestorref07_Log.l0 k a0 0) = some r := h
  clear h
  have H' := Aside0.mk H
  clear H
  go_enter Tryd.func41, Tryd.ntmps41
  go_wp2
  go_loopg [3] k (fun kq v3 w' => ∃ (x3_1 : Int), v3 = .int .i64 x3_1 ∧ Aside0 (attestorref07_Log.l0 kq a0 x3_1 = some r) ∧ Aside0 (kq ≤ k) ∧ Drawn0 w w')
  case atStart => exact ⟨(0), (by first | rfl | (simp; done) | (simp [*]; done) | (simp; rfl) | (simp; decide +kernel)), H', ⟨Nat.le_refl _⟩, by repeat (first | exact Drawn0.refl _ | apply Drawn0.step)⟩
  case round =>
    clear H'
    obtain ⟨x3_1, rfl, HA, HK1, ⟨m1, rfl⟩⟩ := hrel
    cases gk with
    | zero => exact absurd HA.out (by simp [attestorref07_Log.l0])
    | succ k1 =>
      have H := HA.out
      clear HA
      simp only [attestorref07_Log.l0] at H
      by_cases c2 : x3_1 ≤ 18
      · rw [if_pos c2] at H
        have c2b0 : decide (x3_1 ≤ 18) = true := decide_eq_true c2
        clear c2
        by_cases c3 : 0 ≤ x3_1
        · rw [if_pos c3] at H
          have c3b0 := eq_true c3
          have c3b1 : decide (0 ≤ x3_1) = true := decide_eq_true c3
          clear c3
          obtain ⟨ji4, hji4⟩ : ∃ j_ : Int, (shl .i64 1 x3_1) = j_ := ⟨_, rfl⟩
          replace H : (if a0 = (ji4) then (some x3_1) else (attestorref07_Log.l0 k1 a0 (wrap64 (x3_1 + 1)))) = some r := by first | (rw [hji4] at H; exact H) | (simp only [hji4] at H ⊢; exact H)
          have hji4_ : (IntKind.i64.wrap (1 * 2 ^ min x3_1.toNat 64)) = ji4 := hji4
          have hji4z : x3_1 ≤ 64 → (IntKind.i64.wrap (1 * 2 ^ x3_1.toNat)) = ji4 := shl_small hji4
          have hji4u : (IntKind.i64.wrap (2 ^ min x3_1.toNat 64)) = ji4 := by have h_ := hji4_; rw [Int.one_mul] at h_; exact h_
          have hji4v : x3_1 ≤ 64 → (IntKind.i64.wrap (2 ^ x3_1.toNat)) = ji4 := fun hle_ => by have h_ := hji4z hle_; rw [Int.one_mul] at h_; exact h_
          have hji4y : (wrap64 (1 * 2 ^ min x3_1.toNat 64)) = ji4 := (i64_w _).symm.trans hji4_
          have hji4x : x3_1 ≤ 64 → (wrap64 (1 * 2 ^ x3_1.toNat)) = ji4 := fun h_ => (i64_w _).symm.trans (hji4z h_)
          by_cases c5 : a0 = (ji4)
          · rw [if_pos c5] at H
            have c5b0 : (a0 == (ji4)) = true := beq_iff_eq.mpr c5
            have c5b1 : (a0 != (ji4)) = false := bne_eq_false_iff_eq.mpr c5
            clear c5
            obtain rfl := Option.some.inj H
            go_wp2
            go_ret
            exact ⟨by first | rfl | (simp; done) | (simp only [← hji4] <;> (first | rfl | simp)) | (simp [*]; done), by repeat (first | exact Drawn0.refl _ | apply Drawn0.step)⟩
          · rw [if_neg c5] at H
            have c5b0 : (a0 == (ji4)) = false := beq_eq_false_iff_ne.mpr c5
            have c5b1 : (a0 != (ji4)) = true := bne_iff_ne.mpr c5
            have H' := Aside0.mk H
            clear H
            go_wp2
            go_roundg k1
            case measure => have := HK1.out; omega
            case rel => exact ⟨(wrap64 (x3_1 + 1)), (by first | rfl | (simp; done) | (simp [*]; done) | (simp; rfl) | (simp; decide +kernel)), H', ⟨by have := HK1.out; omega⟩, by repeat (first | exact Drawn0.refl _ | apply Drawn0.step)⟩
        · rw [if_neg c3] at H
          exact absurd H (by simp)
      · rw [if_neg c2] at H
        have c2b0 : decide (x3_1 ≤ 18) = false := decide_eq_false c2
        clear c2
        obtain rfl := Option.some.inj H
        go_wp2
        go_ret
        exact ⟨by first | rfl | (simp; done) | (simp [*]; done), by repeat (first | exact Drawn0.refl _ | apply Drawn0.step)⟩

end Go.Proofs.YtpnpmeogffodgaaDoor.Q
end
section
namespace Go.Proofs.YtpnpmeogffodgaaDoor.Q
open Go.RowKit Go.Proofs.YtpnpmeogffodgaaDoorW.PrintWords Go.Proofs.YtpnpmeogffodgaaDoorW.PrintLast Go.Proofs.YtpnpmeogffodgaaDoorW.PrintMore
open Go.Proofs.YtpnpmeogffodgaaDoor.Num
set_option linter.unusedVariables false
set_option linter.unusedSimpArgs false
def okD (p : Int) (d : S36) : Bool := decide (d.f0 < p) && decide (d.f1 < p)
theorem bad_ok (p : Int) (d : S36) : badD p d = !(okD p d) := by
  unfold badD okD
  by_cases h0 : d.f0 < p
  · by_cases h1 : d.f1 < p
    · simp [h0, h1, Int.not_le.mpr h0, Int.not_le.mpr h1]
    · simp [h0, h1, Int.not_le.mpr h0, Int.not_lt.mp h1]
  · simp [h0, Int.not_lt.mp h0]
theorem proper_f (f : Int) (l : List S36) : tree_proper.f f l = some (l.all (okD (fp f))) := by
  have h : ∀ l : List S36, (!(l.any (badD (fp f)))) = l.all (okD (fp f)) := by
    intro l
    induction l with
    | nil => rfl
    | cons d l ih => rw [List.any_cons, List.all_cons, Bool.not_or, ih, bad_ok, Bool.not_not]
  unfold tree_proper.f
  rw [show field_P.f f = some (fp f) from rfl, Option.bind_some, h]
theorem P_f (f : Int) : attestorref01_P.f f = some (fp f) := by
  unfold attestorref01_P.f fp
  repeat' split
  all_goals rfl
theorem Proper_f (f a b : Int) : attestorref07_Proper.f f a b = some (okD (fp f) ⟨a, b⟩) := by
  unfold attestorref07_Proper.f okD
  rw [P_f, Option.bind_some]
  by_cases h : a < fp f
  · rw [if_pos h]; simp [h]
  · rw [if_neg h]; simp [h]
theorem All_l (f : Int) (l : List S36) (hl : l.length ≤ 4611686018427387904) : ∀ n j k, n + j = l.length → n < k → attestorref07_All.l0 k f l (j : Int) = some ((l.drop j).all (okD (fp f)))
  | n, j, 0, _, hk => by omega
  | 0, j, k + 1, hj, _ => by
    unfold attestorref07_All.l0
    rw [if_neg (by omega), List.drop_eq_nil_of_le (by omega)]
    rfl
  | n + 1, j, k + 1, hj, hk => by
    have ih := All_l f l hl n (j + 1) k (by omega) (by omega)
    unfold attestorref07_All.l0
    rw [if_pos (by omega), if_pos (by omega), Proper_f, Option.bind_some, drop_rd l j (by omega), List.all_cons]
    by_cases h : okD (fp f) (rd_T36 l (j : Int)) = true
    · rw [if_pos h, h, Bool.true_and, show wrap64 ((j : Int) + 1) = ((j + 1 : Nat) : Int) by unfold wrap64; omega]
      exact ih
    · rw [if_neg h, Bool.eq_false_iff.mpr h, Bool.false_and]
theorem All_f (f : Int) (l : List S36) (k : Nat) (hl : l.length ≤ 4611686018427387904) (hk : l.length < k) : attestorref07_All.f k f l = some (l.all (okD (fp f))) := All_l f l hl l.length 0 k rfl hk
theorem lgI_neg (n : Int) (h : n < 1) : lgI n = -1 := lgI_none n fun k hk e => by have := Nat.pow_pos (n := k) (show 0 < 2 by decide); omega
theorem height_f (n : Int) : tree_height.f n = some (lgI n) := by
  unfold tree_height.f
  by_cases h : n < 1
  · rw [if_pos h, lgI_neg n h]
  · rw [if_neg h]
theorem Log_f (n : Int) (k : Nat) (hk : 20 ≤ k) : attestorref07_Log.f k n = some (lgI n) := by
  have E : ∀ (j m j' : Int) {k : Nat} (h : shl .i64 1 j = m) (h0 : 0 ≤ j) (h1 : j ≤ 18) (h2 : wrap64 (j + 1) = j'), attestorref07_Log.l0 (k + 1) n j = if n = m then some j else attestorref07_Log.l0 k n j' := by
    intro j m j' k h h0 h1 h2
    conv => lhs; unfold attestorref07_Log.l0
    rw [if_pos h1, if_pos h0, h, h2]
  obtain ⟨k, rfl⟩ : ∃ j, k = j + 20 := ⟨k - 20, by omega⟩
  show attestorref07_Log.l0 (k + 20) n 0 = _
  rw [E 0 1 1 (by decide +kernel) (by decide) (by decide) (by decide +kernel)]
  rw [E 1 2 2 (by decide +kernel) (by decide) (by decide) (by decide +kernel)]
  rw [E 2 4 3 (by decide +kernel) (by decide) (by decide) (by decide +kernel)]
  rw [E 3 8 4 (by decide +kernel) (by decide) (by decide) (by decide +kernel)]
  rw [E 4 16 5 (by decide +kernel) (by decide) (by decide) (by decide +kernel)]
  rw [E 5 32 6 (by decide +kernel) (by decide) (by decide) (by decide +kernel)]
  rw [E 6 64 7 (by decide +kernel) (by decide) (by decide) (by decide +kernel)]
  rw [E 7 128 8 (by decide +kernel) (by decide) (by decide) (by decide +kernel)]
  rw [E 8 256 9 (by decide +kernel) (by decide) (by decide) (by decide +kernel)]
  rw [E 9 512 10 (by decide +kernel) (by decide) (by decide) (by decide +kernel)]
  rw [E 10 1024 11 (by decide +kernel) (by decide) (by decide) (by decide +kernel)]
  rw [E 11 2048 12 (by decide +kernel) (by decide) (by decide) (by decide +kernel)]
  rw [E 12 4096 13 (by decide +kernel) (by decide) (by decide) (by decide +kernel)]
  rw [E 13 8192 14 (by decide +kernel) (by decide) (by decide) (by decide +kernel)]
  rw [E 14 16384 15 (by decide +kernel) (by decide) (by decide) (by decide +kernel)]
  rw [E 15 32768 16 (by decide +kernel) (by decide) (by decide) (by decide +kernel)]
  rw [E 16 65536 17 (by decide +kernel) (by decide) (by decide) (by decide +kernel)]
  rw [E 17 131072 18 (by decide +kernel) (by decide) (by decide) (by decide +kernel)]
  rw [E 18 262144 19 (by decide +kernel) (by decide) (by decide) (by decide +kernel)]
  have last : attestorref07_Log.l0 (k + 1) n 19 = some (-1) := by
    unfold attestorref07_Log.l0
    rw [if_neg (by decide)]
  rw [last]
  unfold lgI
  simp only [apply_ite some]
theorem lgI_pow (n : Int) (h : 0 ≤ lgI n) : ∃ c : Nat, c ≤ 18 ∧ lgI n = c ∧ n = ((2 ^ c : Nat) : Int) := by
  by_cases hp : ∃ k : Nat, k < 19 ∧ n = ((2 ^ k : Nat) : Int)
  · obtain ⟨k, hk, rfl⟩ := hp
    exact ⟨k, by omega, (keys ⟨k, hk⟩).2.2.2, rfl⟩
  · have := lgI_none n fun k hk e => hp ⟨k, hk, e⟩
    omega
theorem bits_and_one (i : Int) : Go.bits .and .i64 i 1 = i % 2 := by
  have h1 : (BitVec.ofInt 64 1).toNat = 2 ^ 1 - 1 := by decide
  have key : (BitVec.ofInt 64 i &&& BitVec.ofInt 64 1).toNat = (i % ((2 ^ 64 : Nat) : Int)).toNat % 2 ^ 1 := by
    rw [BitVec.toNat_and, BitVec.toNat_ofInt, h1, Nat.and_two_pow_sub_one_eq_mod]
  show IntKind.i64.wrap ((BitVec.ofInt 64 i &&& BitVec.ofInt 64 1).toNat : Nat) = i % 2
  rw [key, IntKind.wrap_i64]
  omega
theorem node_nat {f : Int} (hv : 0 ≤ f ∧ f < 4) (a b c d k : Nat) (hk : 130 < k) : ∃ x y : Nat, sponge_Node.f 200 f a b c d = some ((x : Int), (y : Int)) ∧ attestorref06_Node.f k f a b c d = some ((x : Int), (y : Int)) := by
  obtain ⟨p, g, e, D⟩ := fd_of hv.1 hv.2
  refine ⟨_, _, Node_f D 200 (by omega) ⟨a, b, c, d⟩, ?_⟩
  unfold attestorref06_Node.f
  refine bnd (rvalid_yes D.F) ?_
  rw [if_pos rfl]
  refine bnd (rPerm_f D k hk ⟨a, b, c, d⟩) (bnd (radd_f D.F _ _) (bnd (radd_f D.F _ _) ?_))
  rfl
def nnD (d : S36) : Prop := 0 ≤ d.f0 ∧ 0 ≤ d.f1
theorem climb_both {f : Int} (hv : 0 ≤ f ∧ f < 4) : ∀ (l : List S36) (hl : ∀ d ∈ l, nnD d) (i : Int) (h0 : 0 ≤ i) (h1 : i < 9223372036854775808) (x0 x1 : Nat), ∃ y0 y1 : Nat, climbL f i x0 x1 l = some ((y0 : Int), (y1 : Int)) ∧
    ∀ (path : List S36) (j k : Nat), path.drop j = l → j + l.length = path.length → path.length ≤ 1000 → 140 + l.length ≤ k → attestorref07_Climb.l0 k f i path (j : Int) x0 x1 = some ((y0 : Int), (y1 : Int))
  | [], _, i, h0, h1, x0, x1 => ⟨x0, x1, rfl, fun path j k hd hj hp hk => by
      obtain ⟨k, rfl⟩ : ∃ m, k = m + 1 := ⟨k - 1, by omega⟩
      unfold attestorref07_Climb.l0
      rw [if_neg (by simp at hj; omega)]⟩
  | d :: l, hl, i, h0, h1, x0, x1 => by
    obtain ⟨hd0, hd1⟩ := hl d (List.mem_cons_self ..)
    obtain ⟨p0, e0⟩ := Int.eq_ofNat_of_zero_le hd0
    obtain ⟨p1, e1⟩ := Int.eq_ofNat_of_zero_le hd1
    have hpar : (Go.bits .and .i64 i 1 == 1) = decide (Int.tmod i 2 = 1) := by
      rw [bits_and_one, Int.tmod_eq_emod_of_nonneg h0]
      rfl
    have hdiv : wrap64 (Int.tdiv i 2) = i / 2 := by
      rw [Int.tdiv_eq_ediv_of_nonneg h0]
      unfold wrap64
      omega
    by_cases hp : Int.tmod i 2 = 1
    · obtain ⟨n0, n1, hn, _⟩ := node_nat hv p0 p1 x0 x1 131 (by omega)
      obtain ⟨y0, y1, hy, hr⟩ := climb_both hv l (fun d hd => hl d (List.mem_cons_of_mem _ hd)) (i / 2) (by omega) (by omega) n0 n1
      refine ⟨y0, y1, ?_, fun path j k hd hj hpl hk => ?_⟩
      · unfold climbL
        rw [hpar, if_pos (decide_eq_true hp), e0, e1, hn, Option.bind_some]
        exact hy
      · obtain ⟨k, rfl⟩ : ∃ m, k = m + 1 := ⟨k - 1, by omega⟩
        obtain ⟨m0, m1, hm, hm2⟩ := node_nat hv p0 p1 x0 x1 k (by simp at hk; omega)
        rw [hn] at hm
        obtain ⟨rfl, rfl⟩ : n0 = m0 ∧ n1 = m1 := by simp only [Option.some.injEq, Prod.mk.injEq] at hm; omega
        have hjl : j < path.length := by simp at hj; omega
        have hd2 := drop_rd path j hjl
        rw [hd] at hd2
        injection hd2 with ha hb
        unfold attestorref07_Climb.l0
        rw [if_pos (by omega), if_pos (by omega), ← ha, e0, e1]
        unfold attestorref07_pair.f
        rw [if_pos hp, Option.bind_some, hm2, Option.bind_some, hdiv, show wrap64 ((j : Int) + 1) = ((j + 1 : Nat) : Int) by unfold wrap64; omega]
        exact hr path (j + 1) k hb.symm (by simp at hj; omega) hpl (by simp at hk; omega)
    · obtain ⟨n0, n1, hn, _⟩ := node_nat hv x0 x1 p0 p1 131 (by omega)
      obtain ⟨y0, y1, hy, hr⟩ := climb_both hv l (fun d hd => hl d (List.mem_cons_of_mem _ hd)) (i / 2) (by omega) (by omega) n0 n1
      refine ⟨y0, y1, ?_, fun path j k hd hj hpl hk => ?_⟩
      · unfold climbL
        rw [hpar, if_neg (by simp [hp]), e0, e1, hn, Option.bind_some]
        exact hy
      · obtain ⟨k, rfl⟩ : ∃ m, k = m + 1 := ⟨k - 1, by omega⟩
        obtain ⟨m0, m1, hm, hm2⟩ := node_nat hv x0 x1 p0 p1 k (by simp at hk; omega)
        rw [hn] at hm
        obtain ⟨rfl, rfl⟩ : n0 = m0 ∧ n1 = m1 := by simp only [Option.some.injEq, Prod.mk.injEq] at hm; omega
        have hjl : j < path.length := by simp at hj; omega
        have hd2 := drop_rd path j hjl
        rw [hd] at hd2
        injection hd2 with ha hb
        unfold attestorref07_Climb.l0
        rw [if_pos (by omega), if_pos (by omega), ← ha, e0, e1]
        unfold attestorref07_pair.f
        rw [if_neg hp, Option.bind_some, hm2, Option.bind_some, hdiv, show wrap64 ((j : Int) + 1) = ((j + 1 : Nat) : Int) by unfold wrap64; omega]
        exact hr path (j + 1) k hb.symm (by simp at hj; omega) hpl (by simp at hk; omega)
theorem cut_f (l : List S36) (n : Nat) (h : n ≤ 1000) : attestorlaw07_cut.f l (n : Int) = some (l.take n) := by
  have e : mn (l.length : Int) (n : Int) = ((min l.length n : Nat) : Int) := by unfold mn; split <;> omega
  unfold attestorlaw07_cut.f
  rw [e, if_pos (by omega), if_pos (by omega), Option.bind_some, Int.toNat_natCast, if_pos (by simp; omega), List.nil_append]
  congr 1
  rcases Nat.le_total l.length n with h1 | h1
  · rw [Nat.min_eq_left h1, List.take_of_length_le (Nat.le_refl _), List.take_of_length_le h1]
  · rw [Nat.min_eq_right h1]
set_option maxRecDepth 100000 in
theorem lives_true (k : Nat) (hk : 80 ≤ k) : attestorlaw07_lives.f k = some true :=
  at_rounds (g := fun k => attestorlaw07_lives.f k) attestorlaw07_lives.mono hk (by decide +kernel)
end Go.Proofs.YtpnpmeogffodgaaDoor.Q
end
section
namespace Go.Proofs.YtpnpmeogffodgaaDoor.Q
open Go.RowKit Go.Proofs.YtpnpmeogffodgaaDoor.Opn
theorem nn_of {l : List S36} (h : ∀ y ∈ l, wf36 y) : ∀ d ∈ l, nnD d := fun d hd => ⟨(wf_u64 (h d hd).1).1, (wf_u64 (h d hd).2).1⟩
end Go.Proofs.YtpnpmeogffodgaaDoor.Q
end
section
namespace Go.Proofs.YtpnpmeogffodgaaDoor.Q
open Go.RowKit Go.Proofs.YtpnpmeogffodgaaDoorW.PrintWords Go.Proofs.YtpnpmeogffodgaaDoorW.PrintLast Go.Proofs.YtpnpmeogffodgaaDoorW.PrintMore
attribute [local go_sem] max2_int min2_int max_two min_two max_three min_three max_four min_four run_store_fnV run_store_fnc run_store_nfn   -- for this text's walks alone
set_option linter.unusedVariables false
set_option linter.unusedSimpArgs false

attribute [local go_sem high] eqA36
abbrev z27_0_ : Array Bool := #[false, false, false, false, false, false, false, false, false, false, false, false, false, false]
abbrev z27_1_ : Array Bool := #[true, false, false, false, false, false, false, false, false, false, false, false, false, false]
abbrev z27_2_ : Array Bool := #[true, true, false, false, false, false, false, false, false, false, false, false, false, false]
abbrev z27_3_ : Array Bool := #[true, true, false, true, false, false, false, false, false, false, false, false, false, false]
abbrev z27_4_ : Array Bool := #[true, true, false, true, false, true, false, false, false, false, false, false, false, false]
abbrev z27_5_ : Array Bool := #[true, true, false, true, false, true, true, false, false, false, false, false, false, false]
abbrev z27_6_ : Array Bool := #[true, true, false, true, false, true, true, true, false, false, false, false, false, false]
abbrev z27_7_ : Array Bool := #[true, true, false, true, false, true, true, true, true, false, false, false, false, false]
abbrev z27_8_ : Array Bool := #[true, true, false, true, false, true, true, true, true, true, false, false, false, false]
abbrev z27_9_ : Array Bool := #[true, true, false, true, false, true, true, true, true, true, true, false, false, false]
abbrev z27_10_ : Array Bool := #[true, true, true, true, false, true, true, true, true, true, true, false, false, false]
abbrev z27_11_ : Array Bool := #[true, true, true, true, false, true, true, true, true, true, true, true, false, false]
abbrev z27_12_ : Array Bool := #[true, true, true, true, true, true, true, true, true, true, true, true, false, false]
abbrev z27_13_ : Array Bool := #[true, true, true, true, true, true, true, true, true, true, true, true, true, false]
abbrev z27_14_ : Array Bool := #[true, true, true, true, true, true, true, true, true, true, true, true, true, true]
/-! ### attestorref07_Check: function 27 -/
def attestorref07_Check.f (k : Nat) (a0 : Int) (l1 : List (S36)) (a2 : Int) (a3_0 : Int) (a3_1 : Int) (l4 : List (S36)) : Option (Bool) := (attestorref07_Log.f k (l1.length : Int)).bind fun t299 => ((attestorref01_Valid.f a0).bind fun t300 => (if t300 = true then (if t299 < 0 then (some false) else (if (wrap64 (t299 + (l4.length : Int))) > 18 then (some false) else (if a2 < 0 then (some false) else (if 0 ≤ (wrap64 (t299 + (l4.length : Int))) then (if a2 ≥ (shl .i64 1 (wrap64 (t299 + (l4.length : Int)))) then (some false) else ((attestorref07_All.f k a0 l1).bind fun t301 => (if t301 = true then ((attestorref07_Proper.f a0 a3_0 a3_1).bind fun t302 => (if t302 = true then ((attestorref07_All.f k a0 l4).bind fun t303 => (if t303 = true then ((attestorref07_Climb.f k a0 a2 a3_0 a3_1 l4).bind fun bt304 => (if (shl .i64 1 (l4.length : Int)) = 0 then (none) else (if 0 ≤ (wrap64 (Int.tdiv a2 (shl .i64 1 (l4.length : Int)))) then (if (wrap64 (Int.tdiv a2 (shl .i64 1 (l4.length : Int)))) < (l1.length : Int) then (some (bt304.1 == ((rd_T36 l1 (wrap64 (Int.tdiv a2 (shl .i64 1 (l4.length : Int))))).f0) && (bt304.2 == ((rd_T36 l1 (wrap64 (Int.tdiv a2 (shl .i64 1 (l4.length : Int))))).f1)))) else (none)) else (none)))) else (some false))) else (some false))) else (some false)))) else (none))))) else (some false)))
theorem attestorref07_Check.mono : ∀ a0 a1 a2 a3 a4 a5 k, LeO (attestorref07_Check.f k a0 a1 a2 a3 a4 a5) (attestorref07_Check.f (k + 1) a0 a1 a2 a3 a4 a5) := by
  intro a0 a1 a2 a3 a4 a5 k
  unfold attestorref07_Check.f
  repeat' first
      | (with_reducible exact attestorref07_All.mono _ _ _)
      | (with_reducible exact attestorref07_Climb.mono _ _ _ _ _ _)
      | (with_reducible exact attestorref07_Log.mono _ _)
      | (with_reducible exact LeO.refl _)
      | (with_reducible exact LeO.none _)
      | (with_reducible refine LeO.ite ?_ ?_)
      | (with_reducible refine LeO.bind ?_ (fun _ => ?_))
      | exact attestorref07_All.mono _ _ _
      | exact attestorref07_Climb.mono _ _ _ _ _ _
      | exact attestorref07_Log.mono _ _
      | exact LeO.none _
      | refine LeO.ite ?_ ?_
      | refine LeO.bind ?_ (fun _ => ?_)
def attestorref07_Check.T4 : Bool × List (List Nat × List Nat) := (true, [([], []), ([], []), ([], []), ([], []), ([0, 1, 2, 3], [0, 1, 2, 3]), ([], []), ([], []), ([], []), ([7], [7]), ([6, 8], [6, 8]), ([5, 9], [5, 9]), ([10], [10]), ([4, 11], [4, 11]), ([12, 4, 0, 1, 2, 3, 4, 5, 6, 7, 8, 9, 10, 11, 12], [12])])
def attestorref07_Check.B4 : List Nat := [0, 0, 0, 0, 15, 0, 0, 0, 128, 448, 992, 2016, 4095, 8191]
theorem attestorref07_Check.tab4 : rtab .any (opsOf Tryd.f27 4) = attestorref07_Check.T4 := by kernel_rfl
theorem attestorref07_Check.bits4 : waitsOk attestorref07_Check.T4.2 attestorref07_Check.B4 = true := by kernel_rfl
set_option maxHeartbeats 8000000 in
set_option maxRecDepth 100000 in
theorem attestorref07_Check.calls (k : Nat) (a0 : Int) (A1 : Option Addr) (c1 : Nat) (l1 : List (S36)) (a2 : Int) (a3_0 : Int) (a3_1 : Int) (A4 : Option Addr) (c4 : Nat) (l4 : List (S36)) (r : Bool) (w : World) (hr1 : Kd.C k36 w A1 l1.length l1) (hc1 : l1.length ≤ c1) (hr4 : Kd.C k36 w A4 l4.length l4) (hc4 : l4.length ≤ c4) (h : attestorref07_Check.f k a0 l1 a2 a3_0 a3_1 l4 = some r) :
  Calls Tryd.prog 27 #[.int .i64 a0, .slice A1 l1.length c1, .int .i64 a2, .agg #[.int .u64 a3_0, .int .u64 a3_1], .slice A4 l4.length c4] w fun e w' => e = .returned (.bool r) ∧ Below w.heap.size w w' := by
 have hu36 := Tryd.underlying36
 have HR1 := Aside0.mk hr1
 have HC1 := Aside0.mk hc1
 clear hr1 hc1
 have HR4 := Aside0.mk hr4
 have HC4 := Aside0.mk hc4
 clear hr4 hc4
 have HB := Aside0.mk (Below.refl w.heap.size w)
 have H : ((attestorref07_Log.f k (l1.length : Int)).bind fun t299 => ((attestorref01_Valid.f a0).bind fun t300 => (if t300 = true then (if t299 < 0 then (some false) else (if (wrap64 (t299 + (l4.length : Int))) > 18 then (some false) else (if a2 < 0 then (some false) else (if 0 ≤ (wrap64 (t299 + (l4.length : Int))) then (if a2 ≥ (shl .i64 1 (wrap64 (t299 + (l4.length : Int)))) then (some false) else ((attestorref07_All.f k a0 l1).bind fun t301 => (if t301 = true then ((attestorref07_Proper.f a0 a3_0 a3_1).bind fun t302 => (if t302 = true then ((attestorref07_All.f k a0 l4).bind fun t303 => (if t303 = true then ((attestorref07_Climb.f k a0 a2 a3_0 a3_1 l4).bind fun bt304 => (if (shl .i64 1 (l4.length : Int)) = 0 then (none) else (if 0 ≤ (wrap64 (Int.tdiv a2 (shl .i64 1 (l4.length : Int)))) then (if (wrap64 (Int.tdiv a2 (shl .i64 1 (l4.length : Int)))) < (l1.length : Int) then (some (bt304.1 == ((rd_T36 l1 (wrap64 (Int.tdiv a2 (shl .i64 1 (l4.length : Int))))).f0) && (bt304.2 == ((rd_T36 l1 (wrap64 (Int.tdiv a2 (shl .i64 1 (l4.length : Int))))).f1)))) else (none)) else (none)))) else (some false))) else (some false))) else (some false)))) else (none))))) else (some false)))) = some r := h
 clear h
 replace H := Option.bind_eq_some_iff.mp H
 obtain ⟨t299, A60, H⟩ := H
 have A6 := Aside0.mk A60
 clear A60
 replace H := Option.bind_eq_some_iff.mp H
 obtain ⟨t300, A70, H⟩ := H
 have A7 := Aside0.mk A70
 clear A70
 by_cases c8 : t300 = true
 ·subst c8
  have H1 : (if t299 < 0 then (some false) else (if (wrap64 (t299 + (l4.length : Int))) > 18 then (some false) else (if a2 < 0 then (some false) else (if 0 ≤ (wrap64 (t299 + (l4.length : Int))) then (if a2 ≥ (shl .i64 1 (wrap64 (t299 + (l4.length : Int)))) then (some false) else ((attestorref07_All.f k a0 l1).bind fun t301 => (if t301 = true then ((attestorref07_Proper.f a0 a3_0 a3_1).bind fun t302 => (if t302 = true then ((attestorref07_All.f k a0 l4).bind fun t303 => (if t303 = true then ((attestorref07_Climb.f k a0 a2 a3_0 a3_1 l4).bind fun bt304 => (if (shl .i64 1 (l4.length : Int)) = 0 then (none) else (if 0 ≤ (wrap64 (Int.tdiv a2 (shl .i64 1 (l4.length : Int)))) then (if (wrap64 (Int.tdiv a2 (shl .i64 1 (l4.length : Int)))) < (l1.length : Int) then (some (bt304.1 == ((rd_T36 l1 (wrap64 (Int.tdiv a2 (shl .i64 1 (l4.length : Int))))).f0) && (bt304.2 == ((rd_T36 l1 (wrap64 (Int.tdiv a2 (shl .i64 1 (l4.length : Int))))).f1)))) else (none)) else (none)))) else (some false))) else (some false))) else (some false)))) else (none))))) = some r := by rw [if_pos rfl] at H; exact H
  clear H
  have H := H1
  clear H1
  by_cases c9 : t299 < 0
  ·rw [if_pos c9] at H
   have c9b0 : decide (t299 < 0) = true := decide_eq_true c9
   clear c9
   obtain rfl := Option.some.inj H
   go_enter Tryd.func27, Tryd.ntmps27
   go_wp2_with (first | ((with_reducible refine gate_dst (N := 8) rfl ?_); refine box_event ?hg (N := 8) ?hd (cs := #[.int .u64 a3_0, .int .u64 a3_1]) (t := 36) ?hr ?_; (case hd => rfl); (case hg => rfl); (case hr => first | (go_simp; done) | (go_simp; rfl)); intro g298 hg w10 hbox hb; have n0_ := Aside0.mk (below_step (by repeat (first | (with_reducible first | exact HB.out | apply below_alloc | apply pw_below_drewN | apply below_drew1) | exact HB.out)) hb); have n1_ := Aside0.mk (hbox); have n2_ := Aside0.mk ((by rw [hg]; exact (below_size (by repeat (first | (with_reducible first | exact HB.out | apply below_alloc | apply pw_below_drewN | apply below_drew1) | exact HB.out))) : w.heap.size ≤ g298)); have n3_ := Aside0.mk ((by rw [hg]; exact (below_size (by repeat (first | (with_reducible first | exact HB.out | apply below_alloc | apply pw_below_drewN | apply below_drew1) | exact HB.out))) : w.heap.size ≤ g298)); clear HB; have HB := n0_; have B298 := n1_; have GW298 := n2_; have GE298 := n3_; clear n0_ n1_ n2_ n3_; clear hb hbox hg) | ((with_reducible refine gate_callee (f := 41) rfl ?_); refine goesL_ (some 15) rfl rfl Tryd.func41 (by kernel_rfl) rfl #[.int .i64 (l1.length : Int)] rfl (by (try simp only [List.map_toArray, List.map_cons, List.map_nil]); first | done | rfl | (go_simp; done)) ?_; (with_reducible refine (attestorref07_Log.calls k (l1.length : Int) t299 _ A6.out).mono ?_); rintro e w' ⟨rfl, ⟨nd, rfl⟩⟩; refine ⟨_, rfl, ?_⟩) | ((with_reducible refine gate_callee (f := 42) rfl ?_); refine goesL_ (some 19) rfl rfl Tryd.func42 (by kernel_rfl) rfl #[.int .i64 a0] rfl (by (try simp only [List.map_toArray, List.map_cons, List.map_nil]); first | done | rfl | (go_simp; done)) ?_; (with_reducible refine (attestorref01_Valid.calls a0 true _ A7.out).mono ?_); rintro e w' ⟨rfl, ⟨nd, rfl⟩⟩; refine ⟨_, rfl, ?_⟩))
   go_ret
   exact ⟨by first | rfl | (simp [errW_none, errW_some] <;> rfl) | (simp [*, errW_none, errW_some] <;> rfl), by repeat (first | (with_reducible first | exact HB.out | apply below_alloc | apply pw_below_drewN | apply below_drew1 | refine below_set ?_ GE298.out) | exact HB.out)⟩
  ·rw [if_neg c9] at H
   have c9b0 : decide (t299 < 0) = false := decide_eq_false c9
   clear c9
   by_cases c11 : (wrap64 (t299 + (l4.length : Int))) > 18
   ·rw [if_pos c11] at H
    have c11b0 : decide (18 < (wrap64 (t299 + (l4.length : Int)))) = true := decide_eq_true c11
    clear c11
    obtain rfl := Option.some.inj H
    go_enter Tryd.func27, Tryd.ntmps27
    go_wp2_with (first | ((with_reducible refine gate_dst (N := 8) rfl ?_); refine box_event ?hg (N := 8) ?hd (cs := #[.int .u64 a3_0, .int .u64 a3_1]) (t := 36) ?hr ?_; (case hd => rfl); (case hg => rfl); (case hr => first | (go_simp; done) | (go_simp; rfl)); intro g298 hg w12 hbox hb; have n0_ := Aside0.mk (below_step (by repeat (first | (with_reducible first | exact HB.out | apply below_alloc | apply pw_below_drewN | apply below_drew1) | exact HB.out)) hb); have n1_ := Aside0.mk (hbox); have n2_ := Aside0.mk ((by rw [hg]; exact (below_size (by repeat (first | (with_reducible first | exact HB.out | apply below_alloc | apply pw_below_drewN | apply below_drew1) | exact HB.out))) : w.heap.size ≤ g298)); have n3_ := Aside0.mk ((by rw [hg]; exact (below_size (by repeat (first | (with_reducible first | exact HB.out | apply below_alloc | apply pw_below_drewN | apply below_drew1) | exact HB.out))) : w.heap.size ≤ g298)); clear HB; have HB := n0_; have B298 := n1_; have GW298 := n2_; have GE298 := n3_; clear n0_ n1_ n2_ n3_; clear hb hbox hg) | ((with_reducible refine gate_callee (f := 41) rfl ?_); refine goesL_ (some 15) rfl rfl Tryd.func41 (by kernel_rfl) rfl #[.int .i64 (l1.length : Int)] rfl (by (try simp only [List.map_toArray, List.map_cons, List.map_nil]); first | done | rfl | (go_simp; done)) ?_; (with_reducible refine (attestorref07_Log.calls k (l1.length : Int) t299 _ A6.out).mono ?_); rintro e w' ⟨rfl, ⟨nd, rfl⟩⟩; refine ⟨_, rfl, ?_⟩) | ((with_reducible refine gate_callee (f := 42) rfl ?_); refine goesL_ (some 19) rfl rfl Tryd.func42 (by kernel_rfl) rfl #[.int .i64 a0] rfl (by (try simp only [List.map_toArray, List.map_cons, List.map_nil]); first | done | rfl | (go_simp; done)) ?_; (with_reducible refine (attestorref01_Valid.calls a0 true _ A7.out).mono ?_); rintro e w' ⟨rfl, ⟨nd, rfl⟩⟩; refine ⟨_, rfl, ?_⟩))
    go_ret
    exact ⟨by first | rfl | (simp [errW_none, errW_some] <;> rfl) | (simp [*, errW_none, errW_some] <;> rfl), by repeat (first | (with_reducible first | exact HB.out | apply below_alloc | apply pw_below_drewN | apply below_drew1 | refine below_set ?_ GE298.out) | exact HB.out)⟩
   ·rw [if_neg c11] at H
    have c11b0 : decide (18 < (wrap64 (t299 + (l4.length : Int)))) = false := decide_eq_false c11
    clear c11
    by_cases c13 : a2 < 0
    ·rw [if_pos c13] at H
     have c13b0 : decide (a2 < 0) = true := decide_eq_true c13
     clear c13
     obtain rfl := Option.some.inj H
     go_enter Tryd.func27, Tryd.ntmps27
     go_wp2_with (first | ((with_reducible refine gate_dst (N := 8) rfl ?_); refine box_event ?hg (N := 8) ?hd (cs := #[.int .u64 a3_0, .int .u64 a3_1]) (t := 36) ?hr ?_; (case hd => rfl); (case hg => rfl); (case hr => first | (go_simp; done) | (go_simp; rfl)); intro g298 hg w14 hbox hb; have n0_ := Aside0.mk (below_step (by repeat (first | (with_reducible first | exact HB.out | apply below_alloc | apply pw_below_drewN | apply below_drew1) | exact HB.out)) hb); have n1_ := Aside0.mk (hbox); have n2_ := Aside0.mk ((by rw [hg]; exact (below_size (by repeat (first | (with_reducible first | exact HB.out | apply below_alloc | apply pw_below_drewN | apply below_drew1) | exact HB.out))) : w.heap.size ≤ g298)); have n3_ := Aside0.mk ((by rw [hg]; exact (below_size (by repeat (first | (with_reducible first | exact HB.out | apply below_alloc | apply pw_below_drewN | apply below_drew1) | exact HB.out))) : w.heap.size ≤ g298)); clear HB; have HB := n0_; have B298 := n1_; have GW298 := n2_; have GE298 := n3_; clear n0_ n1_ n2_ n3_; clear hb hbox hg) | ((with_reducible refine gate_callee (f := 41) rfl ?_); refine goesL_ (some 15) rfl rfl Tryd.func41 (by kernel_rfl) rfl #[.int .i64 (l1.length : Int)] rfl (by (try simp only [List.map_toArray, List.map_cons, List.map_nil]); first | done | rfl | (go_simp; done)) ?_; (with_reducible refine (attestorref07_Log.calls k (l1.length : Int) t299 _ A6.out).mono ?_); rintro e w' ⟨rfl, ⟨nd, rfl⟩⟩; refine ⟨_, rfl, ?_⟩) | ((with_reducible refine gate_callee (f := 42) rfl ?_); refine goesL_ (some 19) rfl rfl Tryd.func42 (by kernel_rfl) rfl #[.int .i64 a0] rfl (by (try simp only [List.map_toArray, List.map_cons, List.map_nil]); first | done | rfl | (go_simp; done)) ?_; (with_reducible refine (attestorref01_Valid.calls a0 true _ A7.out).mono ?_); rintro e w' ⟨rfl, ⟨nd, rfl⟩⟩; refine ⟨_, rfl, ?_⟩))
     go_ret
     exact ⟨by first | rfl | (simp [errW_none, errW_some] <;> rfl) | (simp [*, errW_none, errW_some] <;> rfl), by repeat (first | (with_reducible first | exact HB.out | apply below_alloc | apply pw_below_drewN | apply below_drew1 | refine below_set ?_ GE298.out) | exact HB.out)⟩
    ·rw [if_neg c13] at H
     have c13b0 : decide (a2 < 0) = false := decide_eq_false c13
     clear c13
     obtain ⟨ji15, hji15⟩ : ∃ j_ : Int, (wrap64 (t299 + (l4.length : Int))) = j_ := ⟨_, rfl⟩
     replace H : (if 0 ≤ (ji15) then (if a2 ≥ (shl .i64 1 (ji15)) then (some false) else ((attestorref07_All.f k a0 l1).bind fun t301 => (if t301 = true then ((attestorref07_Proper.f a0 a3_0 a3_1).bind fun t302 => (if t302 = true then ((attestorref07_All.f k a0 l4).bind fun t303 => (if t303 = true then ((attestorref07_Climb.f k a0 a2 a3_0 a3_1 l4).bind fun bt304 => (if (shl .i64 1 (l4.length : Int)) = 0 then (none) else (if 0 ≤ (wrap64 (Int.tdiv a2 (shl .i64 1 (l4.length : Int)))) then (if (wrap64 (Int.tdiv a2 (shl .i64 1 (l4.length : Int)))) < (l1.length : Int) then (some (bt304.1 == ((rd_T36 l1 (wrap64 (Int.tdiv a2 (shl .i64 1 (l4.length : Int))))).f0) && (bt304.2 == ((rd_T36 l1 (wrap64 (Int.tdiv a2 (shl .i64 1 (l4.length : Int))))).f1)))) else (none)) else (none)))) else (some false))) else (some false))) else (some false)))) else (none)) = some r := by first | (rw [hji15] at H; exact H) | (simp only [hji15] at H ⊢; exact H)
     (try rw [hji15] at c11b0)
     (try rw [hji15] at A6)
     (try rw [hji15] at A7)
     have hji15w : (IntKind.i64.wrap (t299 + (l4.length : Int))) = ji15 := (i64_w _).trans hji15
     by_cases c16 : 0 ≤ (ji15)
     ·rw [if_pos c16] at H
      have c16b0 := eq_true c16
      have c16b1 : decide (0 ≤ (ji15)) = true := decide_eq_true c16
      clear c16
      obtain ⟨ji17, hji17⟩ : ∃ j_ : Int, (shl .i64 1 (ji15)) = j_ := ⟨_, rfl⟩
      replace H : (if a2 ≥ (ji17) then (some false) else ((attestorref07_All.f k a0 l1).bind fun t301 => (if t301 = true then ((attestorref07_Proper.f a0 a3_0 a3_1).bind fun t302 => (if t302 = true then ((attestorref07_All.f k a0 l4).bind fun t303 => (if t303 = true then ((attestorref07_Climb.f k a0 a2 a3_0 a3_1 l4).bind fun bt304 => (if (shl .i64 1 (l4.length : Int)) = 0 then (none) else (if 0 ≤ (wrap64 (Int.tdiv a2 (shl .i64 1 (l4.length : Int)))) then (if (wrap64 (Int.tdiv a2 (shl .i64 1 (l4.length : Int)))) < (l1.length : Int) then (some (bt304.1 == ((rd_T36 l1 (wrap64 (Int.tdiv a2 (shl .i64 1 (l4.length : Int))))).f0) && (bt304.2 == ((rd_T36 l1 (wrap64 (Int.tdiv a2 (shl .i64 1 (l4.length : Int))))).f1)))) else (none)) else (none)))) else (some false))) else (some false))) else (some false)))) = some r := by first | (rw [hji17] at H; exact H) | (simp only [hji17] at H ⊢; exact H)
      (try rw [hji17] at A6)
      (try rw [hji17] at A7)
      have hji17_ : (IntKind.i64.wrap (1 * 2 ^ min (ji15).toNat 64)) = ji17 := hji17
      have hji17z : (ji15) ≤ 64 → (IntKind.i64.wrap (1 * 2 ^ (ji15).toNat)) = ji17 := shl_small hji17
      have hji17u : (IntKind.i64.wrap (2 ^ min (ji15).toNat 64)) = ji17 := by have h_ := hji17_; rw [Int.one_mul] at h_; exact h_
      have hji17v : (ji15) ≤ 64 → (IntKind.i64.wrap (2 ^ (ji15).toNat)) = ji17 := fun hle_ => by have h_ := hji17z hle_; rw [Int.one_mul] at h_; exact h_
      have hji17y : (wrap64 (1 * 2 ^ min (ji15).toNat 64)) = ji17 := (i64_w _).symm.trans hji17_
      have hji17x : (ji15) ≤ 64 → (wrap64 (1 * 2 ^ (ji15).toNat)) = ji17 := fun h_ => (i64_w _).symm.trans (hji17z h_)
      by_cases c18 : a2 ≥ (ji17)
      ·rw [if_pos c18] at H
       have c18b0 : decide ((ji17) ≤ a2) = true := decide_eq_true c18
       clear c18
       obtain rfl := Option.some.inj H
       go_enter Tryd.func27, Tryd.ntmps27
       go_wp2_with (first | ((with_reducible refine gate_dst (N := 8) rfl ?_); refine box_event ?hg (N := 8) ?hd (cs := #[.int .u64 a3_0, .int .u64 a3_1]) (t := 36) ?hr ?_; (case hd => rfl); (case hg => rfl); (case hr => first | (go_simp; done) | (go_simp; rfl)); intro g298 hg w19 hbox hb; have n0_ := Aside0.mk (below_step (by repeat (first | (with_reducible first | exact HB.out | apply below_alloc | apply pw_below_drewN | apply below_drew1) | exact HB.out)) hb); have n1_ := Aside0.mk (hbox); have n2_ := Aside0.mk ((by rw [hg]; exact (below_size (by repeat (first | (with_reducible first | exact HB.out | apply below_alloc | apply pw_below_drewN | apply below_drew1) | exact HB.out))) : w.heap.size ≤ g298)); have n3_ := Aside0.mk ((by rw [hg]; exact (below_size (by repeat (first | (with_reducible first | exact HB.out | apply below_alloc | apply pw_below_drewN | apply below_drew1) | exact HB.out))) : w.heap.size ≤ g298)); clear HB; have HB := n0_; have B298 := n1_; have GW298 := n2_; have GE298 := n3_; clear n0_ n1_ n2_ n3_; clear hb hbox hg) | ((with_reducible refine gate_callee (f := 41) rfl ?_); refine goesL_ (some 15) rfl rfl Tryd.func41 (by kernel_rfl) rfl #[.int .i64 (l1.length : Int)] rfl (by (try simp only [List.map_toArray, List.map_cons, List.map_nil]); first | done | rfl | (go_simp; done)) ?_; (with_reducible refine (attestorref07_Log.calls k (l1.length : Int) t299 _ A6.out).mono ?_); rintro e w' ⟨rfl, ⟨nd, rfl⟩⟩; refine ⟨_, rfl, ?_⟩) | ((with_reducible refine gate_callee (f := 42) rfl ?_); refine goesL_ (some 19) rfl rfl Tryd.func42 (by kernel_rfl) rfl #[.int .i64 a0] rfl (by (try simp only [List.map_toArray, List.map_cons, List.map_nil]); first | done | rfl | (go_simp; done)) ?_; (with_reducible refine (attestorref01_Valid.calls a0 true _ A7.out).mono ?_); rintro e w' ⟨rfl, ⟨nd, rfl⟩⟩; refine ⟨_, rfl, ?_⟩))
       go_ret
       exact ⟨by first | rfl | (simp [errW_none, errW_some] <;> rfl) | (simp only [← hji15, ← hji17]; first | rfl | (simp [errW_none, errW_some] <;> rfl)) | (simp [*, errW_none, errW_some] <;> rfl), by repeat (first | (with_reducible first | exact HB.out | apply below_alloc | apply pw_below_drewN | apply below_drew1 | refine below_set ?_ GE298.out) | exact HB.out)⟩
      ·rw [if_neg c18] at H
       have c18b0 : decide ((ji17) ≤ a2) = false := decide_eq_false c18
       clear c18
       replace H := Option.bind_eq_some_iff.mp H
       obtain ⟨t301, A200, H⟩ := H
       have A20 := Aside0.mk A200
       clear A200
       by_cases c21 : t301 = true
       ·subst c21
        have H1 : ((attestorref07_Proper.f a0 a3_0 a3_1).bind fun t302 => (if t302 = true then ((attestorref07_All.f k a0 l4).bind fun t303 => (if t303 = true then ((attestorref07_Climb.f k a0 a2 a3_0 a3_1 l4).bind fun bt304 => (if (shl .i64 1 (l4.length : Int)) = 0 then (none) else (if 0 ≤ (wrap64 (Int.tdiv a2 (shl .i64 1 (l4.length : Int)))) then (if (wrap64 (Int.tdiv a2 (shl .i64 1 (l4.length : Int)))) < (l1.length : Int) then (some (bt304.1 == ((rd_T36 l1 (wrap64 (Int.tdiv a2 (shl .i64 1 (l4.length : Int))))).f0) && (bt304.2 == ((rd_T36 l1 (wrap64 (Int.tdiv a2 (shl .i64 1 (l4.length : Int))))).f1)))) else (none)) else (none)))) else (some false))) else (some false))) = some r := by rw [if_pos rfl] at H; exact H
        clear H
        have H := H1
        clear H1
        replace H := Option.bind_eq_some_iff.mp H
        obtain ⟨t302, A220, H⟩ := H
        have A22 := Aside0.mk A220
        clear A220
        by_cases c23 : t302 = true
        ·subst c23
         have H1 : ((attestorref07_All.f k a0 l4).bind fun t303 => (if t303 = true then ((attestorref07_Climb.f k a0 a2 a3_0 a3_1 l4).bind fun bt304 => (if (shl .i64 1 (l4.length : Int)) = 0 then (none) else (if 0 ≤ (wrap64 (Int.tdiv a2 (shl .i64 1 (l4.length : Int)))) then (if (wrap64 (Int.tdiv a2 (shl .i64 1 (l4.length : Int)))) < (l1.length : Int) then (some (bt304.1 == ((rd_T36 l1 (wrap64 (Int.tdiv a2 (shl .i64 1 (l4.length : Int))))).f0) && (bt304.2 == ((rd_T36 l1 (wrap64 (Int.tdiv a2 (shl .i64 1 (l4.length : Int))))).f1)))) else (none)) else (none)))) else (some false))) = some r := by rw [if_pos rfl] at H; exact H
         clear H
         have H := H1
         clear H1
         replace H := Option.bind_eq_some_iff.mp H
         obtain ⟨t303, A240, H⟩ := H
         have A24 := Aside0.mk A240
         clear A240
         by_cases c25 : t303 = true
         ·subst c25
          have H1 : ((attestorref07_Climb.f k a0 a2 a3_0 a3_1 l4).bind fun bt304 => (if (shl .i64 1 (l4.length : Int)) = 0 then (none) else (if 0 ≤ (wrap64 (Int.tdiv a2 (shl .i64 1 (l4.length : Int)))) then (if (wrap64 (Int.tdiv a2 (shl .i64 1 (l4.length : Int)))) < (l1.length : Int) then (some (bt304.1 == ((rd_T36 l1 (wrap64 (Int.tdiv a2 (shl .i64 1 (l4.length : Int))))).f0) && (bt304.2 == ((rd_T36 l1 (wrap64 (Int.tdiv a2 (shl .i64 1 (l4.length : Int))))).f1)))) else (none)) else (none)))) = some r := by rw [if_pos rfl] at H; exact H
          clear H
          have H := H1
          clear H1
          replace H := Option.bind_eq_some_iff.mp H
          obtain ⟨⟨t304, t305⟩, A260, H⟩ := H
          replace H : (if (shl .i64 1 (l4.length : Int)) = 0 then (none) else (if 0 ≤ (wrap64 (Int.tdiv a2 (shl .i64 1 (l4.length : Int)))) then (if (wrap64 (Int.tdiv a2 (shl .i64 1 (l4.length : Int)))) < (l1.length : Int) then (some (t304 == ((rd_T36 l1 (wrap64 (Int.tdiv a2 (shl .i64 1 (l4.length : Int))))).f0) && (t305 == ((rd_T36 l1 (wrap64 (Int.tdiv a2 (shl .i64 1 (l4.length : Int))))).f1)))) else (none)) else (none))) = some r := H
          have A26 := Aside0.mk A260
          clear A260
          obtain ⟨ji27, hji27⟩ : ∃ j_ : Int, (shl .i64 1 (l4.length : Int)) = j_ := ⟨_, rfl⟩
          replace H : (if (ji27) = 0 then (none) else (if 0 ≤ (wrap64 (Int.tdiv a2 (ji27))) then (if (wrap64 (Int.tdiv a2 (ji27))) < (l1.length : Int) then (some (t304 == ((rd_T36 l1 (wrap64 (Int.tdiv a2 (ji27)))).f0) && (t305 == ((rd_T36 l1 (wrap64 (Int.tdiv a2 (ji27)))).f1)))) else (none)) else (none))) = some r := by first | (rw [hji27] at H; exact H) | (simp only [hji27] at H ⊢; exact H)
          (try rw [hji27] at A6)
          (try rw [hji27] at A7)
          (try rw [hji27] at A20)
          (try rw [hji27] at A22)
          (try rw [hji27] at A24)
          (try rw [hji27] at A26)
          have hji27_ : (IntKind.i64.wrap (1 * 2 ^ min (l4.length : Int).toNat 64)) = ji27 := hji27
          have hji27z : (l4.length : Int) ≤ 64 → (IntKind.i64.wrap (1 * 2 ^ (l4.length : Int).toNat)) = ji27 := shl_small hji27
          have hji27p : (IntKind.i64.wrap (1 * 2 ^ min l4.length 64)) = ji27 := hji27_
          have hji27q : (l4.length : Int) ≤ 64 → (IntKind.i64.wrap (1 * 2 ^ l4.length)) = ji27 := hji27z
          have hji27r : (IntKind.i64.wrap (2 ^ min l4.length 64)) = ji27 := by have h_ := hji27p; rw [Int.one_mul] at h_; exact h_
          have hji27s : (l4.length : Int) ≤ 64 → (IntKind.i64.wrap (2 ^ l4.length)) = ji27 := fun hle_ => by have h_ := hji27q hle_; rw [Int.one_mul] at h_; exact h_
          have hji27u : (IntKind.i64.wrap (2 ^ min (l4.length : Int).toNat 64)) = ji27 := by have h_ := hji27_; rw [Int.one_mul] at h_; exact h_
          have hji27v : (l4.length : Int) ≤ 64 → (IntKind.i64.wrap (2 ^ (l4.length : Int).toNat)) = ji27 := fun hle_ => by have h_ := hji27z hle_; rw [Int.one_mul] at h_; exact h_
          have hji27y : (wrap64 (1 * 2 ^ min (l4.length : Int).toNat 64)) = ji27 := (i64_w _).symm.trans hji27_
          have hji27x : (l4.length : Int) ≤ 64 → (wrap64 (1 * 2 ^ (l4.length : Int).toNat)) = ji27 := fun h_ => (i64_w _).symm.trans (hji27z h_)
          by_cases c28 : (ji27) = 0
          ·rw [if_pos c28] at H
           exact absurd H (by simp)
          ·rw [if_neg c28] at H
           have c28b0 : ((ji27) == 0) = false := beq_eq_false_iff_ne.mpr c28
           have c28b1 : ((ji27) != 0) = true := bne_iff_ne.mpr c28
           obtain ⟨ji29, hji29⟩ : ∃ j_ : Int, (wrap64 (Int.tdiv a2 (ji27))) = j_ := ⟨_, rfl⟩
           replace H : (if 0 ≤ (ji29) then (if (ji29) < (l1.length : Int) then (some (t304 == ((rd_T36 l1 (ji29)).f0) && (t305 == ((rd_T36 l1 (ji29)).f1)))) else (none)) else (none)) = some r := by first | (rw [hji29] at H; exact H) | (simp only [hji29] at H ⊢; exact H)
           (try rw [hji29] at A6)
           (try rw [hji29] at A7)
           (try rw [hji29] at A20)
           (try rw [hji29] at A22)
           (try rw [hji29] at A24)
           (try rw [hji29] at A26)
           have hji29w : (IntKind.i64.wrap (Int.tdiv a2 (ji27))) = ji29 := (i64_w _).trans hji29
           by_cases c30 : 0 ≤ (ji29)
           ·rw [if_pos c30] at H
            have c30b0 : decide (0 ≤ (ji29)) = true := decide_eq_true c30
            clear c30
            by_cases c31 : (ji29) < (l1.length : Int)
            ·rw [if_pos c31] at H
             have c31b0 : decide ((ji29) < (l1.length : Int)) = true := decide_eq_true c31
             clear c31
             obtain rfl := Option.some.inj H
             go_enter Tryd.func27, Tryd.ntmps27
             try go_wp2_with (first | ((with_reducible refine gate_dst (N := 8) rfl ?_); refine box_event ?hg (N := 8) ?hd (cs := #[.int .u64 a3_0, .int .u64 a3_1]) (t := 36) ?hr ?_; (case hd => rfl); (case hg => rfl); (case hr => first | (go_simp; done) | (go_simp; rfl)); intro g298 hg w32 hbox hb; have n0_ := Aside0.mk (below_step (by repeat (first | (with_reducible first | exact HB.out | apply below_alloc | apply pw_below_drewN | apply below_drew1) | exact HB.out)) hb); have n1_ := Aside0.mk (hbox); have n2_ := Aside0.mk ((by rw [hg]; exact (below_size (by repeat (first | (with_reducible first | exact HB.out | apply below_alloc | apply pw_below_drewN | apply below_drew1) | exact HB.out))) : w.heap.size ≤ g298)); have n3_ := Aside0.mk ((by rw [hg]; exact (below_size (by repeat (first | (with_reducible first | exact HB.out | apply below_alloc | apply pw_below_drewN | apply below_drew1) | exact HB.out))) : w.heap.size ≤ g298)); clear HB; have HB := n0_; have B298 := n1_; have GW298 := n2_; have GE298 := n3_; clear n0_ n1_ n2_ n3_; clear hb hbox hg) | ((with_reducible refine gate_callee (f := 41) rfl ?_); refine goesL_ (some 15) rfl rfl Tryd.func41 (by kernel_rfl) rfl #[.int .i64 (l1.length : Int)] rfl (by (try simp only [List.map_toArray, List.map_cons, List.map_nil]); first | done | rfl | (go_simp; done)) ?_; (with_reducible refine (attestorref07_Log.calls k (l1.length : Int) t299 _ A6.out).mono ?_); rintro e w' ⟨rfl, ⟨nd, rfl⟩⟩; refine ⟨_, rfl, ?_⟩) | ((with_reducible refine gate_callee (f := 42) rfl ?_); refine goesL_ (some 19) rfl rfl Tryd.func42 (by kernel_rfl) rfl #[.int .i64 a0] rfl (by (try simp only [List.map_toArray, List.map_cons, List.map_nil]); first | done | rfl | (go_simp; done)) ?_; (with_reducible refine (attestorref01_Valid.calls a0 true _ A7.out).mono ?_); rintro e w' ⟨rfl, ⟨nd, rfl⟩⟩; refine ⟨_, rfl, ?_⟩) | (go_at_call 43; (with_reducible refine (attestorref07_All.calls k a0 _ _ l1 true _ ?side1 ?side2 A20.out).mono ?_); (case side1 => repeat (first | exact (Kd.C_below HR1.out (by repeat (first | (with_reducible first | exact HB.out | apply below_alloc | apply pw_below_drewN | apply below_drew1 | refine below_set ?_ GE298.out) | exact HB.out))) | (with_reducible refine Kd.C_alloc ?_ _) | (with_reducible refine Kd.C_drewN ?_ _) | (with_reducible refine Kd.C_drew ?_))); (case side2 => exact HC1.out); rintro e w33 ⟨rfl, hb⟩; have n0_ := Aside0.mk (blk_below (g := g298) (o := .cells #[.int .u64 a3_0, .int .u64 a3_1] 36 (0, 0)) (by exact B298.out) hb); have n1_ := Aside0.mk (below_step (by repeat (first | (with_reducible first | exact HB.out | apply below_alloc | apply pw_below_drewN | apply below_drew1 | refine below_set ?_ GE298.out) | exact HB.out)) hb); clear B298; clear HB; have B298 := n0_; have HB := n1_; clear n0_ n1_; (try clear hb); (try clear hb2); (try clear hk); (try clear hi); have hcz34_0 : w33.cell? ⟨g298, 0, none⟩ = some (.int .u64 a3_0) := bq_ B298 0; have hcz34_1 : w33.cell? ⟨g298, 1, none⟩ = some (.int .u64 a3_1) := bq_ B298 1; have hfz34_0 := blk_frozen B298.out 0; have hfz34_1 := blk_frozen B298.out 1) | (go_at_call 49; (with_reducible refine (attestorref07_Proper.calls a0 a3_0 a3_1 true _ A22.out).mono ?_); rintro e w35 ⟨rfl, hb⟩; have n0_ := Aside0.mk (blk_below (g := g298) (o := .cells #[.int .u64 a3_0, .int .u64 a3_1] 36 (0, 0)) (by exact B298.out) hb); have n1_ := Aside0.mk (below_step (by repeat (first | (with_reducible first | exact HB.out | apply below_alloc | apply pw_below_drewN | apply below_drew1 | refine below_set ?_ GE298.out) | exact HB.out)) hb); clear B298; clear HB; have B298 := n0_; have HB := n1_; clear n0_ n1_; (try clear hb); (try clear hb2); (try clear hk); (try clear hi)) | (go_at_call 43; (with_reducible refine (attestorref07_All.calls k a0 _ _ l4 true _ ?side1 ?side2 A24.out).mono ?_); (case side1 => repeat (first | exact (Kd.C_below HR4.out HB.out) | (with_reducible refine Kd.C_alloc ?_ _) | (with_reducible refine Kd.C_drewN ?_ _) | (with_reducible refine Kd.C_drew ?_))); (case side2 => exact HC4.out); rintro e w36 ⟨rfl, hb⟩; have n0_ := Aside0.mk (blk_below (g := g298) (o := .cells #[.int .u64 a3_0, .int .u64 a3_1] 36 (0, 0)) (by exact B298.out) hb); have n1_ := Aside0.mk (below_step (by repeat (first | (with_reducible first | exact HB.out | apply below_alloc | apply pw_below_drewN | apply below_drew1 | refine below_set ?_ GE298.out) | exact HB.out)) hb); clear B298; clear HB; have B298 := n0_; have HB := n1_; clear n0_ n1_; (try clear hb); (try clear hb2); (try clear hk); (try clear hi)))
             have n0_ := Aside0.mk (blk_drew B298.out)
             have n1_ := Aside0.mk (below_drew1 HB.out)
             clear B298
             clear HB
             have B298 := n0_
             have HB := n1_
             clear n0_ n1_
             have p306 : 0 ≤ ((ji29) : Int) := of_decide_eq_true (by first | (with_reducible assumption) | assumption)
             have q306 : (ji29) < (l1.length : Int) := of_decide_eq_true (by first | (with_reducible assumption) | assumption)
             obtain ⟨ad306, e306, hx306_0, hx306_1⟩ := at_T36 HR1.out (ji29) p306 q306
             have hw306_1 := hx306_1
             have hw306_0 := hx306_0
             cases e306
             replace hx306_0 := (HB.out.cell (World.block_lt_of_cell? w _ hx306_0)).trans hx306_0
             replace hx306_1 := (HB.out.cell (World.block_lt_of_cell? w _ hx306_1)).trans hx306_1
             replace p306 := eq_true p306
             replace q306 := eq_true q306
             refine start_ (n := 14) (S := fun w' => w'.cell? ⟨g298, 0, none⟩ = some (.int .u64 a3_0) ∧ w'.cell? ⟨g298, 1, none⟩ = some (.int .u64 a3_1) ∧ w'.cell? (ad306.add (((ji29)).toNat * 2)) = some (.int .u64 ((rd_T36 l1 (ji29)).f0)) ∧ w'.cell? ⟨(ad306.add (((ji29)).toNat * 2)).block, (ad306.add (((ji29)).toNat * 2)).off + 1, none⟩ = some (.int .u64 ((rd_T36 l1 (ji29)).f1))) (ds := []) z27_0_ (by kernel_rfl) rfl rfl ⟨bq_ B298 0, bq_ B298 1, ((HB.out.cell (World.block_lt_of_cell? w _ hw306_0)).trans hw306_0), ((HB.out.cell (World.block_lt_of_cell? w _ hw306_1)).trans hw306_1)⟩ (fun hL => ?_); refine with_tabW attestorref07_Check.tab4 attestorref07_Check.bits4 (fun T_ W_ => ?_)
             generalize w36.drew = w37 at B298 HB hx306_0 hx306_1 hL ⊢
             refine pure_ (i := 0) (N := some 61) (v := ?_) (a' := ?_) z27_1_ rfl rfl (an_ T_) (fun _ _ _ h => h) (Or.inl ⟨by rfl, ?_⟩) ?_ ?_
             rotate_left; · intro w'; go_simp; with_reducible rfl
             rotate_left; · simp only [Act.put, sa_, sb_, sc_, i64_w, i32_w]; rfl
             refine pure_ (i := 1) (N := some 62) (v := ?_) (a' := ?_) z27_2_ rfl rfl (an_ T_) (fun _ _ _ h => h) (Or.inl ⟨by rfl, ?_⟩) ?_ ?_
             rotate_left; · intro w'; go_simp; with_reducible rfl
             rotate_left; · simp only [Act.put, sa_, sb_, sc_, i64_w, i32_w]; rfl
             refine pure_ (i := 3) (N := some 64) (v := ?_) (a' := ?_) z27_3_ rfl rfl (an_ T_) (fun _ _ _ h => h) (Or.inl ⟨by rfl, ?_⟩) ?_ ?_
             rotate_left; · intro w'; go_simp; with_reducible rfl
             rotate_left; · simp only [Act.put, sa_, sb_, sc_, i64_w, i32_w]; rfl
             refine pure_ (i := 5) (N := some 66) (v := ?_) (a' := ?_) z27_4_ rfl rfl (an_ T_) (fun _ _ _ h => h) (Or.inl ⟨by rfl, ?_⟩) ?_ ?_
             rotate_left; · intro w'; go_simp; with_reducible rfl
             rotate_left; · simp only [Act.put, sa_, sb_, sc_, i64_w, i32_w]; rfl
             refine pure_ (i := 6) (N := some 67) (v := ?_) (a' := ?_) z27_5_ rfl rfl (an_ T_) (fun _ _ _ h => h) (Or.inl ⟨by rfl, ?_⟩) ?_ ?_
             rotate_left; · intro w'; go_simp; with_reducible rfl
             rotate_left; · simp only [Act.put, sa_, sb_, sc_, i64_w, i32_w]; rfl
             refine pure_ (i := 7) (N := some 68) (v := ?_) (a' := ?_) z27_6_ rfl rfl (an_ T_) (fun _ _ _ h => h) (Or.inl ⟨by rfl, ?_⟩) ?_ ?_
             rotate_left; · intro w'; go_simp; with_reducible rfl
             rotate_left; · simp only [Act.put, sa_, sb_, sc_, i64_w, i32_w]; rfl
             refine pure_ (i := 8) (N := some 69) (v := ?_) (a' := ?_) z27_7_ rfl rfl (an_ T_) (fun _ _ _ h => h) (Or.inl ⟨by rfl, ?_⟩) ?_ ?_
             rotate_left; · intro w'; go_simp; with_reducible rfl
             rotate_left; · simp only [Act.put, sa_, sb_, sc_, i64_w, i32_w]; rfl
             refine pure_ (i := 9) (N := some 70) (v := ?_) (a' := ?_) z27_8_ rfl rfl (an_ T_) (fun _ _ _ h => h) (Or.inl ⟨by rfl, ?_⟩) ?_ ?_
             rotate_left; · intro w'; go_simp; with_reducible rfl
             rotate_left; · simp only [Act.put, sa_, sb_, sc_, i64_w, i32_w]; rfl
             refine pure_ (i := 10) (N := some 71) (v := ?_) (a' := ?_) z27_9_ rfl rfl (an_ T_) (fun _ _ _ h => h) (Or.inl ⟨by rfl, ?_⟩) ?_ ?_
             rotate_left; · intro w'; go_simp; with_reducible rfl
             rotate_left; · simp only [Act.put, sa_, sb_, sc_, i64_w, i32_w]; rfl
             refine take_ (i := 2) (N := some 63) (v := ?_) (a' := ?_) z27_10_ rfl rfl (tk_ T_ W_) (fun _ _ _ h => h) (Or.inl ⟨by rfl, ?_⟩) hL ?_ ?_
             rotate_left
             ·rintro w' ⟨s0, s1, s2, s3⟩
              go_simp
              with_reducible rfl
             rotate_left
             ·simp only [Act.put, sa_, sb_, sc_, i64_w, i32_w]
              rfl
             refine take_ (i := 11) (N := some 72) (v := ?_) (a' := ?_) z27_11_ rfl rfl (tk_ T_ W_) (fun _ _ _ h => h) (Or.inl ⟨by rfl, ?_⟩) hL ?_ ?_
             rotate_left
             ·rintro w' ⟨s0, s1, s2, s3⟩
              go_simp
              with_reducible rfl
             rotate_left
             ·simp only [Act.put, sa_, sb_, sc_, i64_w, i32_w]
              rfl
             refine one_ (i := 4) (N := some 65) z27_12_ rfl rfl (on_ T_) (by decide) (fun K hK => ?_)
             refine goes_ Tryd.func25 (by kernel_rfl) rfl #[.int .i64 a0, .int .i64 a2, .agg #[.int .u64 a3_0, .int .u64 a3_1], .slice A4 l4.length c4] (by rfl) rfl rfl (by (try simp only [List.map_toArray, List.map_cons, List.map_nil]); first | done | rfl | (go_simp; done)) ?_
             with_reducible refine (attestorref07_Climb.calls k a0 a2 a3_0 a3_1 _ _ l4 t304 t305 _ ?side1 ?side2 A26.out).mono ?_
             (case side1 => repeat (first | exact (Kd.C_below HR4.out HB.out) | (with_reducible refine Kd.C_alloc ?_ _) | (with_reducible refine Kd.C_drewN ?_ _) | (with_reducible refine Kd.C_drew ?_)))
             (case side2 => exact HC4.out)
             rintro e w38 ⟨rfl, hb⟩
             refine ⟨_, rfl, ?_⟩
             have n0_ := Aside0.mk (blk_below (g := g298) (o := .cells #[.int .u64 a3_0, .int .u64 a3_1] 36 (0, 0)) (by exact B298.out) hb)
             have n1_ := Aside0.mk (below_step (by repeat (first | (with_reducible first | exact HB.out | apply below_alloc | apply pw_below_drewN | apply below_drew1 | refine below_set ?_ GE298.out) | exact HB.out)) hb)
             clear B298
             clear HB
             have B298 := n0_
             have HB := n1_
             clear n0_ n1_
             (try clear hb)
             (try clear hb2)
             (try clear hk)
             (try clear hi)
             refine hK.out _ _ ⟨bq_ B298 0, bq_ B298 1, ((HB.out.cell (World.block_lt_of_cell? w _ hw306_0)).trans hw306_0), ((HB.out.cell (World.block_lt_of_cell? w _ hw306_1)).trans hw306_1)⟩ (fun hL => ?_)
             clear hK K
             refine norm_ (a' := ?_) ?_ ?_
             rotate_left
             ·show Act.put _ (some 65) _ = _
              simp only [Act.put, sa_, sb_, sc_, i64_w, i32_w]
              rfl
             refine pure_ (i := 12) (N := some 73) (v := ?_) (a' := ?_) z27_13_ rfl rfl (an_ T_) (fun _ _ _ h => h) (Or.inl ⟨by rfl, ?_⟩) ?_ ?_
             rotate_left; · intro w'; go_simp; with_reducible rfl
             rotate_left; · simp only [Act.put, sa_, sb_, sc_, i64_w, i32_w]; rfl
             refine pure_ (i := 13) (N := some 10) (v := ?_) (a' := ?_) z27_14_ rfl rfl (an_ T_) (fun _ _ _ h => h) (Or.inl ⟨by rfl, ?_⟩) ?_ ?_
             rotate_left; · intro w'; go_simp; with_reducible rfl
             rotate_left; · simp only [Act.put, sa_, sb_, sc_, i64_w, i32_w]; rfl
             refine done_ (done_of T_.out (by kernel_rfl)) ?_
             try go_wp2
             go_ret
             exact ⟨by first | rfl | (simp [errW_none, errW_some] <;> rfl) | (simp only [← hji15, ← hji17, ← hji27, ← hji29]; first | rfl | (simp [errW_none, errW_some] <;> rfl)) | (simp [*, errW_none, errW_some] <;> rfl), by repeat (first | (with_reducible first | exact HB.out | apply below_alloc | apply pw_below_drewN | apply below_drew1 | refine below_set ?_ GE298.out) | exact HB.out)⟩
            ·rw [if_neg c31] at H
             exact absurd H (by simp)
           ·rw [if_neg c30] at H
            exact absurd H (by simp)
         ·replace c25 := Bool.eq_false_iff.mpr c25
          subst c25
          have H1 : (some false) = some r := by rw [if_neg (show ¬ (false = true) by decide)] at H; exact H
          clear H
          have H := H1
          clear H1
          obtain rfl := Option.some.inj H
          go_enter Tryd.func27, Tryd.ntmps27
          go_wp2_with (first | ((with_reducible refine gate_dst (N := 8) rfl ?_); refine box_event ?hg (N := 8) ?hd (cs := #[.int .u64 a3_0, .int .u64 a3_1]) (t := 36) ?hr ?_; (case hd => rfl); (case hg => rfl); (case hr => first | (go_simp; done) | (go_simp; rfl)); intro g298 hg w39 hbox hb; have n0_ := Aside0.mk (below_step (by repeat (first | (with_reducible first | exact HB.out | apply below_alloc | apply pw_below_drewN | apply below_drew1) | exact HB.out)) hb); have n1_ := Aside0.mk (hbox); have n2_ := Aside0.mk ((by rw [hg]; exact (below_size (by repeat (first | (with_reducible first | exact HB.out | apply below_alloc | apply pw_below_drewN | apply below_drew1) | exact HB.out))) : w.heap.size ≤ g298)); have n3_ := Aside0.mk ((by rw [hg]; exact (below_size (by repeat (first | (with_reducible first | exact HB.out | apply below_alloc | apply pw_below_drewN | apply below_drew1) | exact HB.out))) : w.heap.size ≤ g298)); clear HB; have HB := n0_; have B298 := n1_; have GW298 := n2_; have GE298 := n3_; clear n0_ n1_ n2_ n3_; clear hb hbox hg) | ((with_reducible refine gate_callee (f := 41) rfl ?_); refine goesL_ (some 15) rfl rfl Tryd.func41 (by kernel_rfl) rfl #[.int .i64 (l1.length : Int)] rfl (by (try simp only [List.map_toArray, List.map_cons, List.map_nil]); first | done | rfl | (go_simp; done)) ?_; (with_reducible refine (attestorref07_Log.calls k (l1.length : Int) t299 _ A6.out).mono ?_); rintro e w' ⟨rfl, ⟨nd, rfl⟩⟩; refine ⟨_, rfl, ?_⟩) | ((with_reducible refine gate_callee (f := 42) rfl ?_); refine goesL_ (some 19) rfl rfl Tryd.func42 (by kernel_rfl) rfl #[.int .i64 a0] rfl (by (try simp only [List.map_toArray, List.map_cons, List.map_nil]); first | done | rfl | (go_simp; done)) ?_; (with_reducible refine (attestorref01_Valid.calls a0 true _ A7.out).mono ?_); rintro e w' ⟨rfl, ⟨nd, rfl⟩⟩; refine ⟨_, rfl, ?_⟩) | (go_at_call 43; (with_reducible refine (attestorref07_All.calls k a0 _ _ l1 true _ ?side1 ?side2 A20.out).mono ?_); (case side1 => repeat (first | exact (Kd.C_below HR1.out (by repeat (first | (with_reducible first | exact HB.out | apply below_alloc | apply pw_below_drewN | apply below_drew1 | refine below_set ?_ GE298.out) | exact HB.out))) | (with_reducible refine Kd.C_alloc ?_ _) | (with_reducible refine Kd.C_drewN ?_ _) | (with_reducible refine Kd.C_drew ?_))); (case side2 => exact HC1.out); rintro e w40 ⟨rfl, hb⟩; have n0_ := Aside0.mk (blk_below (g := g298) (o := .cells #[.int .u64 a3_0, .int .u64 a3_1] 36 (0, 0)) (by exact B298.out) hb); have n1_ := Aside0.mk (below_step (by repeat (first | (with_reducible first | exact HB.out | apply below_alloc | apply pw_below_drewN | apply below_drew1 | refine below_set ?_ GE298.out) | exact HB.out)) hb); clear B298; clear HB; have B298 := n0_; have HB := n1_; clear n0_ n1_; (try clear hb); (try clear hb2); (try clear hk); (try clear hi); have hcz41_0 : w40.cell? ⟨g298, 0, none⟩ = some (.int .u64 a3_0) := bq_ B298 0; have hcz41_1 : w40.cell? ⟨g298, 1, none⟩ = some (.int .u64 a3_1) := bq_ B298 1; have hfz41_0 := blk_frozen B298.out 0; have hfz41_1 := blk_frozen B298.out 1) | (go_at_call 49; (with_reducible refine (attestorref07_Proper.calls a0 a3_0 a3_1 true _ A22.out).mono ?_); rintro e w42 ⟨rfl, hb⟩; have n0_ := Aside0.mk (blk_below (g := g298) (o := .cells #[.int .u64 a3_0, .int .u64 a3_1] 36 (0, 0)) (by exact B298.out) hb); have n1_ := Aside0.mk (below_step (by repeat (first | (with_reducible first | exact HB.out | apply below_alloc | apply pw_below_drewN | apply below_drew1 | refine below_set ?_ GE298.out) | exact HB.out)) hb); clear B298; clear HB; have B298 := n0_; have HB := n1_; clear n0_ n1_; (try clear hb); (try clear hb2); (try clear hk); (try clear hi)) | (go_at_call 43; (with_reducible refine (attestorref07_All.calls k a0 _ _ l4 false _ ?side1 ?side2 A24.out).mono ?_); (case side1 => repeat (first | exact (Kd.C_below HR4.out HB.out) | (with_reducible refine Kd.C_alloc ?_ _) | (with_reducible refine Kd.C_drewN ?_ _) | (with_reducible refine Kd.C_drew ?_))); (case side2 => exact HC4.out); rintro e w43 ⟨rfl, hb⟩; have n0_ := Aside0.mk (blk_below (g := g298) (o := .cells #[.int .u64 a3_0, .int .u64 a3_1] 36 (0, 0)) (by exact B298.out) hb); have n1_ := Aside0.mk (below_step (by repeat (first | (with_reducible first | exact HB.out | apply below_alloc | apply pw_below_drewN | apply below_drew1 | refine below_set ?_ GE298.out) | exact HB.out)) hb); clear B298; clear HB; have B298 := n0_; have HB := n1_; clear n0_ n1_; (try clear hb); (try clear hb2); (try clear hk); (try clear hi)))
          go_ret
          exact ⟨by first | rfl | (simp [errW_none, errW_some] <;> rfl) | (simp only [← hji15, ← hji17]; first | rfl | (simp [errW_none, errW_some] <;> rfl)) | (simp [*, errW_none, errW_some] <;> rfl), by repeat (first | (with_reducible first | exact HB.out | apply below_alloc | apply pw_below_drewN | apply below_drew1 | refine below_set ?_ GE298.out) | exact HB.out)⟩
        ·replace c23 := Bool.eq_false_iff.mpr c23
         subst c23
         have H1 : (some false) = some r := by rw [if_neg (show ¬ (false = true) by decide)] at H; exact H
         clear H
         have H := H1
         clear H1
         obtain rfl := Option.some.inj H
         go_enter Tryd.func27, Tryd.ntmps27
         go_wp2_with (first | ((with_reducible refine gate_dst (N := 8) rfl ?_); refine box_event ?hg (N := 8) ?hd (cs := #[.int .u64 a3_0, .int .u64 a3_1]) (t := 36) ?hr ?_; (case hd => rfl); (case hg => rfl); (case hr => first | (go_simp; done) | (go_simp; rfl)); intro g298 hg w44 hbox hb; have n0_ := Aside0.mk (below_step (by repeat (first | (with_reducible first | exact HB.out | apply below_alloc | apply pw_below_drewN | apply below_drew1) | exact HB.out)) hb); have n1_ := Aside0.mk (hbox); have n2_ := Aside0.mk ((by rw [hg]; exact (below_size (by repeat (first | (with_reducible first | exact HB.out | apply below_alloc | apply pw_below_drewN | apply below_drew1) | exact HB.out))) : w.heap.size ≤ g298)); have n3_ := Aside0.mk ((by rw [hg]; exact (below_size (by repeat (first | (with_reducible first | exact HB.out | apply below_alloc | apply pw_below_drewN | apply below_drew1) | exact HB.out))) : w.heap.size ≤ g298)); clear HB; have HB := n0_; have B298 := n1_; have GW298 := n2_; have GE298 := n3_; clear n0_ n1_ n2_ n3_; clear hb hbox hg) | ((with_reducible refine gate_callee (f := 41) rfl ?_); refine goesL_ (some 15) rfl rfl Tryd.func41 (by kernel_rfl) rfl #[.int .i64 (l1.length : Int)] rfl (by (try simp only [List.map_toArray, List.map_cons, List.map_nil]); first | done | rfl | (go_simp; done)) ?_; (with_reducible refine (attestorref07_Log.calls k (l1.length : Int) t299 _ A6.out).mono ?_); rintro e w' ⟨rfl, ⟨nd, rfl⟩⟩; refine ⟨_, rfl, ?_⟩) | ((with_reducible refine gate_callee (f := 42) rfl ?_); refine goesL_ (some 19) rfl rfl Tryd.func42 (by kernel_rfl) rfl #[.int .i64 a0] rfl (by (try simp only [List.map_toArray, List.map_cons, List.map_nil]); first | done | rfl | (go_simp; done)) ?_; (with_reducible refine (attestorref01_Valid.calls a0 true _ A7.out).mono ?_); rintro e w' ⟨rfl, ⟨nd, rfl⟩⟩; refine ⟨_, rfl, ?_⟩) | (go_at_call 43; (with_reducible refine (attestorref07_All.calls k a0 _ _ l1 true _ ?side1 ?side2 A20.out).mono ?_); (case side1 => repeat (first | exact (Kd.C_below HR1.out (by repeat (first | (with_reducible first | exact HB.out | apply below_alloc | apply pw_below_drewN | apply below_drew1 | refine below_set ?_ GE298.out) | exact HB.out))) | (with_reducible refine Kd.C_alloc ?_ _) | (with_reducible refine Kd.C_drewN ?_ _) | (with_reducible refine Kd.C_drew ?_))); (case side2 => exact HC1.out); rintro e w45 ⟨rfl, hb⟩; have n0_ := Aside0.mk (blk_below (g := g298) (o := .cells #[.int .u64 a3_0, .int .u64 a3_1] 36 (0, 0)) (by exact B298.out) hb); have n1_ := Aside0.mk (below_step (by repeat (first | (with_reducible first | exact HB.out | apply below_alloc | apply pw_below_drewN | apply below_drew1 | refine below_set ?_ GE298.out) | exact HB.out)) hb); clear B298; clear HB; have B298 := n0_; have HB := n1_; clear n0_ n1_; (try clear hb); (try clear hb2); (try clear hk); (try clear hi); have hcz46_0 : w45.cell? ⟨g298, 0, none⟩ = some (.int .u64 a3_0) := bq_ B298 0; have hcz46_1 : w45.cell? ⟨g298, 1, none⟩ = some (.int .u64 a3_1) := bq_ B298 1; have hfz46_0 := blk_frozen B298.out 0; have hfz46_1 := blk_frozen B298.out 1) | (go_at_call 49; (with_reducible refine (attestorref07_Proper.calls a0 a3_0 a3_1 false _ A22.out).mono ?_); rintro e w47 ⟨rfl, hb⟩; have n0_ := Aside0.mk (blk_below (g := g298) (o := .cells #[.int .u64 a3_0, .int .u64 a3_1] 36 (0, 0)) (by exact B298.out) hb); have n1_ := Aside0.mk (below_step (by repeat (first | (with_reducible first | exact HB.out | apply below_alloc | apply pw_below_drewN | apply below_drew1 | refine below_set ?_ GE298.out) | exact HB.out)) hb); clear B298; clear HB; have B298 := n0_; have HB := n1_; clear n0_ n1_; (try clear hb); (try clear hb2); (try clear hk); (try clear hi)))
         go_ret
         exact ⟨by first | rfl | (simp [errW_none, errW_some] <;> rfl) | (simp only [← hji15, ← hji17]; first | rfl | (simp [errW_none, errW_some] <;> rfl)) | (simp [*, errW_none, errW_some] <;> rfl), by repeat (first | (with_reducible first | exact HB.out | apply below_alloc | apply pw_below_drewN | apply below_drew1 | refine below_set ?_ GE298.out) | exact HB.out)⟩
       ·replace c21 := Bool.eq_false_iff.mpr c21
        subst c21
        have H1 : (some false) = some r := by rw [if_neg (show ¬ (false = true) by decide)] at H; exact H
        clear H
        have H := H1
        clear H1
        obtain rfl := Option.some.inj H
        go_enter Tryd.func27, Tryd.ntmps27
        go_wp2_with (first | ((with_reducible refine gate_dst (N := 8) rfl ?_); refine box_event ?hg (N := 8) ?hd (cs := #[.int .u64 a3_0, .int .u64 a3_1]) (t := 36) ?hr ?_; (case hd => rfl); (case hg => rfl); (case hr => first | (go_simp; done) | (go_simp; rfl)); intro g298 hg w48 hbox hb; have n0_ := Aside0.mk (below_step (by repeat (first | (with_reducible first | exact HB.out | apply below_alloc | apply pw_below_drewN | apply below_drew1) | exact HB.out)) hb); have n1_ := Aside0.mk (hbox); have n2_ := Aside0.mk ((by rw [hg]; exact (below_size (by repeat (first | (with_reducible first | exact HB.out | apply below_alloc | apply pw_below_drewN | apply below_drew1) | exact HB.out))) : w.heap.size ≤ g298)); have n3_ := Aside0.mk ((by rw [hg]; exact (below_size (by repeat (first | (with_reducible first | exact HB.out | apply below_alloc | apply pw_below_drewN | apply below_drew1) | exact HB.out))) : w.heap.size ≤ g298)); clear HB; have HB := n0_; have B298 := n1_; have GW298 := n2_; have GE298 := n3_; clear n0_ n1_ n2_ n3_; clear hb hbox hg) | ((with_reducible refine gate_callee (f := 41) rfl ?_); refine goesL_ (some 15) rfl rfl Tryd.func41 (by kernel_rfl) rfl #[.int .i64 (l1.length : Int)] rfl (by (try simp only [List.map_toArray, List.map_cons, List.map_nil]); first | done | rfl | (go_simp; done)) ?_; (with_reducible refine (attestorref07_Log.calls k (l1.length : Int) t299 _ A6.out).mono ?_); rintro e w' ⟨rfl, ⟨nd, rfl⟩⟩; refine ⟨_, rfl, ?_⟩) | ((with_reducible refine gate_callee (f := 42) rfl ?_); refine goesL_ (some 19) rfl rfl Tryd.func42 (by kernel_rfl) rfl #[.int .i64 a0] rfl (by (try simp only [List.map_toArray, List.map_cons, List.map_nil]); first | done | rfl | (go_simp; done)) ?_; (with_reducible refine (attestorref01_Valid.calls a0 true _ A7.out).mono ?_); rintro e w' ⟨rfl, ⟨nd, rfl⟩⟩; refine ⟨_, rfl, ?_⟩) | (go_at_call 43; (with_reducible refine (attestorref07_All.calls k a0 _ _ l1 false _ ?side1 ?side2 A20.out).mono ?_); (case side1 => repeat (first | exact (Kd.C_below HR1.out (by repeat (first | (with_reducible first | exact HB.out | apply below_alloc | apply pw_below_drewN | apply below_drew1 | refine below_set ?_ GE298.out) | exact HB.out))) | (with_reducible refine Kd.C_alloc ?_ _) | (with_reducible refine Kd.C_drewN ?_ _) | (with_reducible refine Kd.C_drew ?_))); (case side2 => exact HC1.out); rintro e w49 ⟨rfl, hb⟩; have n0_ := Aside0.mk (blk_below (g := g298) (o := .cells #[.int .u64 a3_0, .int .u64 a3_1] 36 (0, 0)) (by exact B298.out) hb); have n1_ := Aside0.mk (below_step (by repeat (first | (with_reducible first | exact HB.out | apply below_alloc | apply pw_below_drewN | apply below_drew1 | refine below_set ?_ GE298.out) | exact HB.out)) hb); clear B298; clear HB; have B298 := n0_; have HB := n1_; clear n0_ n1_; (try clear hb); (try clear hb2); (try clear hk); (try clear hi)))
        go_ret
        exact ⟨by first | rfl | (simp [errW_none, errW_some] <;> rfl) | (simp only [← hji15, ← hji17]; first | rfl | (simp [errW_none, errW_some] <;> rfl)) | (simp [*, errW_none, errW_some] <;> rfl), by repeat (first | (with_reducible first | exact HB.out | apply below_alloc | apply pw_below_drewN | apply below_drew1 | refine below_set ?_ GE298.out) | exact HB.out)⟩
     ·rw [if_neg c16] at H
      exact absurd H (by simp)
 ·replace c8 := Bool.eq_false_iff.mpr c8
  subst c8
  have H1 : (some false) = some r := by rw [if_neg (show ¬ (false = true) by decide)] at H; exact H
  clear H
  have H := H1
  clear H1
  obtain rfl := Option.some.inj H
  go_enter Tryd.func27, Tryd.ntmps27
  go_wp2_with (first | ((with_reducible refine gate_dst (N := 8) rfl ?_); refine box_event ?hg (N := 8) ?hd (cs := #[.int .u64 a3_0, .int .u64 a3_1]) (t := 36) ?hr ?_; (case hd => rfl); (case hg => rfl); (case hr => first | (go_simp; done) | (go_simp; rfl)); intro g298 hg w50 hbox hb; have n0_ := Aside0.mk (below_step (by repeat (first | (with_reducible first | exact HB.out | apply below_alloc | apply pw_below_drewN | apply below_drew1) | exact HB.out)) hb); have n1_ := Aside0.mk (hbox); have n2_ := Aside0.mk ((by rw [hg]; exact (below_size (by repeat (first | (with_reducible first | exact HB.out | apply below_alloc | apply pw_below_drewN | apply below_drew1) | exact HB.out))) : w.heap.size ≤ g298)); have n3_ := Aside0.mk ((by rw [hg]; exact (below_size (by repeat (first | (with_reducible first | exact HB.out | apply below_alloc | apply pw_below_drewN | apply below_drew1) | exact HB.out))) : w.heap.size ≤ g298)); clear HB; have HB := n0_; have B298 := n1_; have GW298 := n2_; have GE298 := n3_; clear n0_ n1_ n2_ n3_; clear hb hbox hg) | ((with_reducible refine gate_callee (f := 41) rfl ?_); refine goesL_ (some 15) rfl rfl Tryd.func41 (by kernel_rfl) rfl #[.int .i64 (l1.length : Int)] rfl (by (try simp only [List.map_toArray, List.map_cons, List.map_nil]); first | done | rfl | (go_simp; done)) ?_; (with_reducible refine (attestorref07_Log.calls k (l1.length : Int) t299 _ A6.out).mono ?_); rintro e w' ⟨rfl, ⟨nd, rfl⟩⟩; refine ⟨_, rfl, ?_⟩) | ((with_reducible refine gate_callee (f := 42) rfl ?_); refine goesL_ (some 19) rfl rfl Tryd.func42 (by kernel_rfl) rfl #[.int .i64 a0] rfl (by (try simp only [List.map_toArray, List.map_cons, List.map_nil]); first | done | rfl | (go_simp; done)) ?_; (with_reducible refine (attestorref01_Valid.calls a0 false _ A7.out).mono ?_); rintro e w' ⟨rfl, ⟨nd, rfl⟩⟩; refine ⟨_, rfl, ?_⟩))
  go_ret
  exact ⟨by first | rfl | (simp [errW_none, errW_some] <;> rfl) | (simp [*, errW_none, errW_some] <;> rfl), by repeat (first | (with_reducible first | exact HB.out | apply below_alloc | apply pw_below_drewN | apply below_drew1 | refine below_set ?_ GE298.out) | exact HB.out)⟩

end Go.Proofs.YtpnpmeogffodgaaDoor.Q
end
section
namespace Go.Proofs.YtpnpmeogffodgaaDoor.Q
open Go.RowKit Go.Proofs.YtpnpmeogffodgaaDoorW.PrintWords Go.Proofs.YtpnpmeogffodgaaDoorW.PrintLast Go.Proofs.YtpnpmeogffodgaaDoorW.PrintMore
attribute [local go_sem] max2_int min2_int max_two min_two max_three min_three max_four min_four run_store_fnV run_store_fnc run_store_nfn   -- for this text's walks alone
set_option linter.unusedVariables false
set_option linter.unusedSimpArgs false

attribute [local go_sem high] eqA36
abbrev z5_0_ : Array Bool := #[false, false, false, false, false, false, false, false, false, false, false, false, false, false, false, false, false, false, false, false, false, false, false, false, false, false]
abbrev z5_1_ : Array Bool := #[true, false, false, false, false, false, false, false, false, false, false, false, false, false, false, false, false, false, false, false, false, false, false, false, false, false]
abbrev z5_2_ : Array Bool := #[true, true, false, false, false, false, false, false, false, false, false, false, false, false, false, false, false, false, false, false, false, false, false, false, false, false]
abbrev z5_3_ : Array Bool := #[true, true, false, true, false, false, false, false, false, false, false, false, false, false, false, false, false, false, false, false, false, false, false, false, false, false]
abbrev z5_4_ : Array Bool := #[true, true, false, true, false, true, false, false, false, false, false, false, false, false, false, false, false, false, false, false, false, false, false, false, false, false]
abbrev z5_5_ : Array Bool := #[true, true, false, true, false, true, true, false, false, false, false, false, false, false, false, false, false, false, false, false, false, false, false, false, false, false]
abbrev z5_6_ : Array Bool := #[true, true, false, true, false, true, true, false, true, false, false, false, false, false, false, false, false, false, false, false, false, false, false, false, false, false]
abbrev z5_7_ : Array Bool := #[true, true, true, true, false, true, true, false, true, false, false, false, false, false, false, false, false, false, false, false, false, false, false, false, false, false]
abbrev z5_8_ : Array Bool := #[true, true, true, true, false, true, true, true, true, false, false, false, false, false, false, false, false, false, false, false, false, false, false, false, false, false]
abbrev z5_9_ : Array Bool := #[true, true, true, true, true, true, true, true, true, false, false, false, false, false, false, false, false, false, false, false, false, false, false, false, false, false]
abbrev z5_10_ : Array Bool := #[true, true, true, true, true, true, true, true, true, true, false, false, false, false, false, false, false, false, false, false, false, false, false, false, false, false]
abbrev z5_11_ : Array Bool := #[true, true, true, true, true, true, true, true, true, true, true, false, false, false, false, false, false, false, false, false, false, false, false, false, false, false]
abbrev z5_12_ : Array Bool := #[true, true, true, true, true, true, true, true, true, true, true, true, false, false, false, false, false, false, false, false, false, false, false, false, false, false]
abbrev z5_13_ : Array Bool := #[true, true, true, true, true, true, true, true, true, true, true, true, true, false, false, false, false, false, false, false, false, false, false, false, false, false]
abbrev z5_14_ : Array Bool := #[true, true, true, true, true, true, true, true, true, true, true, true, true, true, false, false, false, false, false, false, false, false, false, false, false, false]
abbrev z5_15_ : Array Bool := #[true, true, true, true, true, true, true, true, true, true, true, true, true, true, true, false, false, false, false, false, false, false, false, false, false, false]
abbrev z5_16_ : Array Bool := #[true, true, true, true, true, true, true, true, true, true, true, true, true, true, true, false, true, false, false, false, false, false, false, false, false, false]
abbrev z5_17_ : Array Bool := #[true, true, true, true, true, true, true, true, true, true, true, true, true, true, true, false, true, false, true, false, false, false, false, false, false, false]
abbrev z5_18_ : Array Bool := #[true, true, true, true, true, true, true, true, true, true, true, true, true, true, true, false, true, false, true, true, false, false, false, false, false, false]
abbrev z5_19_ : Array Bool := #[true, true, true, true, true, true, true, true, true, true, true, true, true, true, true, false, true, false, true, true, true, false, false, false, false, false]
abbrev z5_20_ : Array Bool := #[true, true, true, true, true, true, true, true, true, true, true, true, true, true, true, false, true, false, true, true, true, false, true, false, false, false]
abbrev z5_21_ : Array Bool := #[true, true, true, true, true, true, true, true, true, true, true, true, true, true, true, true, true, false, true, true, true, false, true, false, false, false]
abbrev z5_22_ : Array Bool := #[true, true, true, true, true, true, true, true, true, true, true, true, true, true, true, true, true, false, true, true, true, true, true, false, false, false]
abbrev z5_23_ : Array Bool := #[true, true, true, true, true, true, true, true, true, true, true, true, true, true, true, true, true, true, true, true, true, true, true, false, false, false]
abbrev z5_24_ : Array Bool := #[true, true, true, true, true, true, true, true, true, true, true, true, true, true, true, true, true, true, true, true, true, true, true, true, false, false]
abbrev z5_25_ : Array Bool := #[true, true, true, true, true, true, true, true, true, true, true, true, true, true, true, true, true, true, true, true, true, true, true, true, true, false]
abbrev z5_26_ : Array Bool := #[true, true, true, true, true, true, true, true, true, true, true, true, true, true, true, true, true, true, true, true, true, true, true, true, true, true]
abbrev z5_27_ : Array Bool := #[false, false, false, false, false, false, false, false, false, false, false, false, false, false, false, false, false]
abbrev z5_28_ : Array Bool := #[true, false, false, false, false, false, false, false, false, false, false, false, false, false, false, false, false]
abbrev z5_29_ : Array Bool := #[true, true, false, false, false, false, false, false, false, false, false, false, false, false, false, false, false]
abbrev z5_30_ : Array Bool := #[true, true, true, false, false, false, false, false, false, false, false, false, false, false, false, false, false]
abbrev z5_31_ : Array Bool := #[true, true, true, false, true, false, false, false, false, false, false, false, false, false, false, false, false]
abbrev z5_32_ : Array Bool := #[true, true, true, false, true, false, true, false, false, false, false, false, false, false, false, false, false]
abbrev z5_33_ : Array Bool := #[true, true, true, false, true, false, true, true, false, false, false, false, false, false, false, false, false]
abbrev z5_34_ : Array Bool := #[true, true, true, false, true, false, true, true, true, false, false, false, false, false, false, false, false]
abbrev z5_35_ : Array Bool := #[true, true, true, false, true, false, true, true, true, false, true, false, false, false, false, false, false]
abbrev z5_36_ : Array Bool := #[true, true, true, true, true, false, true, true, true, false, true, false, false, false, false, false, false]
abbrev z5_37_ : Array Bool := #[true, true, true, true, true, false, true, true, true, true, true, false, false, false, false, false, false]
abbrev z5_38_ : Array Bool := #[true, true, true, true, true, true, true, true, true, true, true, false, false, false, false, false, false]
abbrev z5_39_ : Array Bool := #[true, true, true, true, true, true, true, true, true, true, true, true, false, false, false, false, false]
abbrev z5_40_ : Array Bool := #[true, true, true, true, true, true, true, true, true, true, true, true, true, false, false, false, false]
abbrev z5_41_ : Array Bool := #[true, true, true, true, true, true, true, true, true, true, true, true, true, true, false, false, false]
abbrev z5_42_ : Array Bool := #[true, true, true, true, true, true, true, true, true, true, true, true, true, true, true, false, false]
abbrev z5_43_ : Array Bool := #[true, true, true, true, true, true, true, true, true, true, true, true, true, true, true, true, false]
abbrev z5_44_ : Array Bool := #[true, true, true, true, true, true, true, true, true, true, true, true, true, true, true, true, true]
/-! ### attestorlaw07_TreeChecks: function 5 -/
def attestorlaw07_TreeChecks.j0 : Nat → Int → Int → List (S36) → Bool → Int → Int → Option (Bool)
  | 0, _, _, _, _, _, _ => none
  | k + 1, x0, x2, x4, x41, x308000, x308001 => if x41 = true then (none) else ((attestorref07_Climb.f k x0 x2 x308000 x308001 x4).bind fun bt320 => ((some (([(⟨bt320.1, bt320.2⟩ : S36)] : List (S36)) : List (S36))).bind fun y322 => ((tree_Check.f x0 y322 x2 x308000 x308001 x4).bind fun t325 => ((attestorref07_Check.f k x0 y322 x2 x308000 x308001 x4).bind fun t326 => (if (t325 == t326) = true then ((attestorlaw07_lives.f k).bind fun t327 => (some t327)) else (none))))))
def attestorlaw07_TreeChecks.f (k : Nat) (a0 : Int) (l1 : List (S36)) (a2 : Int) (a3_0 : Int) (a3_1 : Int) (l4 : List (S36)) : Option (Bool) := (attestorlaw07_cut.f l1 70).bind fun t308 => ((attestorlaw07_cut.f l4 20).bind fun t311 => ((tree_Climb.f a0 a2 a3_0 a3_1 t311).bind fun bt314 => ((attestorref07_Climb.f k a0 a2 a3_0 a3_1 t311).bind fun bt316 => (if (!(bt314.1 == bt316.1) || (!(bt314.2 == bt316.2))) = true then (none) else ((tree_Check.f a0 t308 a2 a3_0 a3_1 t311).bind fun t318 => ((attestorref07_Check.f k a0 t308 a2 a3_0 a3_1 t311).bind fun t319 => (attestorlaw07_TreeChecks.j0 k a0 a2 t311 (t318 != t319) a3_0 a3_1)))))))
theorem attestorlaw07_TreeChecks.mono_l : ∀ k, (∀ y0 y1 y2 y3 y4 y5, LeO (attestorlaw07_TreeChecks.j0 k y0 y1 y2 y3 y4 y5) (attestorlaw07_TreeChecks.j0 (k + 1) y0 y1 y2 y3 y4 y5))
  | 0 => fun _ _ _ _ _ _ r h => by simp [attestorlaw07_TreeChecks.j0] at h
  | k + 1 => by
    have ih0 := attestorlaw07_TreeChecks.mono_l k
    · intro y0 y1 y2 y3 y4 y5
      unfold attestorlaw07_TreeChecks.j0
      repeat' first
      | (with_reducible exact ih0 _ _ _ _ _ _)
      | (with_reducible exact attestorlaw07_lives.mono _)
      | (with_reducible exact attestorref07_Check.mono _ _ _ _ _ _ _)
      | (with_reducible exact attestorref07_Climb.mono _ _ _ _ _ _)
      | (with_reducible exact LeO.refl _)
      | (with_reducible exact LeO.none _)
      | (with_reducible refine LeO.ite ?_ ?_)
      | (with_reducible refine LeO.bind ?_ (fun _ => ?_))
      | exact ih0 _ _ _ _ _ _
      | exact attestorlaw07_lives.mono _
      | exact attestorref07_Check.mono _ _ _ _ _ _ _
      | exact attestorref07_Climb.mono _ _ _ _ _ _
      | exact LeO.none _
      | refine LeO.ite ?_ ?_
      | refine LeO.bind ?_ (fun _ => ?_)
theorem attestorlaw07_TreeChecks.mono : ∀ a0 a1 a2 a3 a4 a5 k, LeO (attestorlaw07_TreeChecks.f k a0 a1 a2 a3 a4 a5) (attestorlaw07_TreeChecks.f (k + 1) a0 a1 a2 a3 a4 a5) := by
  intro a0 a1 a2 a3 a4 a5 k
  have ih0 := attestorlaw07_TreeChecks.mono_l k
  unfold attestorlaw07_TreeChecks.f
  repeat' first
      | (with_reducible exact ih0 _ _ _ _ _ _)
      | (with_reducible exact attestorlaw07_lives.mono _)
      | (with_reducible exact attestorref07_Check.mono _ _ _ _ _ _ _)
      | (with_reducible exact attestorref07_Climb.mono _ _ _ _ _ _)
      | (with_reducible exact LeO.refl _)
      | (with_reducible exact LeO.none _)
      | (with_reducible refine LeO.ite ?_ ?_)
      | (with_reducible refine LeO.bind ?_ (fun _ => ?_))
      | exact ih0 _ _ _ _ _ _
      | exact attestorlaw07_lives.mono _
      | exact attestorref07_Check.mono _ _ _ _ _ _ _
      | exact attestorref07_Climb.mono _ _ _ _ _ _
      | exact LeO.none _
      | refine LeO.ite ?_ ?_
      | refine LeO.bind ?_ (fun _ => ?_)
def attestorlaw07_TreeChecks.T2 : Bool × List (List Nat × List Nat) := (true, [([], []), ([], []), ([], []), ([], []), ([0, 1, 2, 3], [0, 1, 2, 3]), ([], []), ([], []), ([], []), ([], []), ([5, 6, 7, 8, 4], [5, 6, 7, 8]), ([4, 9], [4, 9]), ([10, 9], [10]), ([11], [11]), ([11], [11]), ([11], [11]), ([11], [11]), ([11], [11]), ([12, 13, 14, 15, 16, 11, 11], [11, 12, 13, 14, 15, 16]), ([11], [11]), ([11], [11]), ([11], [11]), ([11], [11]), ([11], [11]), ([18, 19, 20, 21, 22, 17, 11], [11, 18, 19, 20, 21, 22]), ([17, 23, 11], [11, 17, 23]), ([11, 24], [11, 24])])
def attestorlaw07_TreeChecks.B2 : List Nat := [0, 0, 0, 0, 15, 0, 0, 0, 0, 511, 1023, 2047, 4095, 4095, 4095, 4095, 4095, 131071, 4095, 4095, 4095, 4095, 4095, 8388607, 16777215, 33554431]
theorem attestorlaw07_TreeChecks.tab2 : rtab .any (opsOf Tryd.f5 2) = attestorlaw07_TreeChecks.T2 := by kernel_rfl
theorem attestorlaw07_TreeChecks.bits2 : waitsOk attestorlaw07_TreeChecks.T2.2 attestorlaw07_TreeChecks.B2 = true := by kernel_rfl
def attestorlaw07_TreeChecks.T5 : Bool × List (List Nat × List Nat) := (true, [([], []), ([], []), ([], []), ([], []), ([], []), ([0, 1, 2, 3, 4], [0, 1, 2, 3, 4]), ([], []), ([], []), ([], []), ([], []), ([], []), ([6, 7, 8, 9, 10, 5], [6, 7, 8, 9, 10]), ([5, 11], [5, 11]), ([12, 11], [12]), ([13, 13], [13]), ([13, 14], [13, 14]), ([15, 14, 0, 1, 2, 3, 4, 5, 6, 7, 8, 9, 10, 11, 12, 13, 14, 15], [15])])
def attestorlaw07_TreeChecks.B5 : List Nat := [0, 0, 0, 0, 0, 31, 0, 0, 0, 0, 0, 2047, 4095, 8191, 16383, 32767, 65535]
theorem attestorlaw07_TreeChecks.tab5 : rtab .any (opsOf Tryd.f5 5) = attestorlaw07_TreeChecks.T5 := by kernel_rfl
theorem attestorlaw07_TreeChecks.bits5 : waitsOk attestorlaw07_TreeChecks.T5.2 attestorlaw07_TreeChecks.B5 = true := by kernel_rfl
set_option maxHeartbeats 8000000 in
set_option maxRecDepth 100000 in
theorem attestorlaw07_TreeChecks.calls (k : Nat) (a0 : Int) (A1 : Option Addr) (c1 : Nat) (l1 : List (S36)) (a2 : Int) (a3_0 : Int) (a3_1 : Int) (A4 : Option Addr) (c4 : Nat) (l4 : List (S36)) (r : Bool) (w : World) (hr1 : Kd.C k36 w A1 l1.length l1) (hc1 : l1.length ≤ c1) (hr4 : Kd.C k36 w A4 l4.length l4) (hc4 : l4.length ≤ c4) (hrG : GL w) (h : attestorlaw07_TreeChecks.f k a0 l1 a2 a3_0 a3_1 l4 = some r) :
  Calls Tryd.prog 5 #[.int .i64 a0, .slice A1 l1.length c1, .int .i64 a2, .agg #[.int .u64 a3_0, .int .u64 a3_1], .slice A4 l4.length c4] w fun e w' => e = .returned (.bool r) ∧ Below w.heap.size w w' := by
 have hu36 := Tryd.underlying36
 have HRG := Aside0.mk hrG
 clear hrG
 have HR1 := Aside0.mk hr1
 have HC1 := Aside0.mk hc1
 clear hr1 hc1
 have HR4 := Aside0.mk hr4
 have HC4 := Aside0.mk hc4
 clear hr4 hc4
 have HB := Aside0.mk (Below.refl w.heap.size w)
 have H : ((attestorlaw07_cut.f l1 70).bind fun t308 => ((attestorlaw07_cut.f l4 20).bind fun t311 => ((tree_Climb.f a0 a2 a3_0 a3_1 t311).bind fun bt314 => ((attestorref07_Climb.f k a0 a2 a3_0 a3_1 t311).bind fun bt316 => (if (!(bt314.1 == bt316.1) || (!(bt314.2 == bt316.2))) = true then (none) else ((tree_Check.f a0 t308 a2 a3_0 a3_1 t311).bind fun t318 => ((attestorref07_Check.f k a0 t308 a2 a3_0 a3_1 t311).bind fun t319 => (attestorlaw07_TreeChecks.j0 k a0 a2 t311 (t318 != t319) a3_0 a3_1)))))))) = some r := h
 clear h
 replace H := Option.bind_eq_some_iff.mp H
 obtain ⟨t308, A60, H⟩ := H
 have A6 := Aside0.mk A60
 clear A60
 replace H := Option.bind_eq_some_iff.mp H
 obtain ⟨t311, A70, H⟩ := H
 have A7 := Aside0.mk A70
 clear A70
 have HC8 := Aside0.mk H
 clear H
 go_enter Tryd.func5, Tryd.ntmps5
 go_upto_region 2 with (first | ((with_reducible refine gate_dst (N := 8) rfl ?_); refine box_event ?hg (N := 8) ?hd (cs := #[.int .u64 a3_0, .int .u64 a3_1]) (t := 36) ?hr ?_; (case hd => rfl); (case hg => rfl); (case hr => first | (go_simp; done) | (go_simp; rfl)); intro g307 hg w9 hbox hb; have n0_ := Aside0.mk (below_step (by repeat (first | (with_reducible first | exact HB.out | apply below_alloc | apply pw_below_drewN | apply below_drew1) | exact HB.out)) hb); have n1_ := Aside0.mk (hbox); have n2_ := Aside0.mk ((by rw [hg]; exact (below_size (by repeat (first | (with_reducible first | exact HB.out | apply below_alloc | apply pw_below_drewN | apply below_drew1) | exact HB.out))) : w.heap.size ≤ g307)); have n3_ := Aside0.mk ((by rw [hg]; exact (below_size (by repeat (first | (with_reducible first | exact HB.out | apply below_alloc | apply pw_below_drewN | apply below_drew1) | exact HB.out))) : w.heap.size ≤ g307)); clear HB; have HB := n0_; have B307 := n1_; have GW307 := n2_; have GE307 := n3_; clear n0_ n1_ n2_ n3_; clear hb hbox hg) | ((with_reducible refine gate_callee (f := 12) rfl ?_); refine goesL_ (some 13) rfl rfl Tryd.func12 (by kernel_rfl) rfl #[.slice A1 l1.length c1, .int .i64 70] rfl (by (try simp only [List.map_toArray, List.map_cons, List.map_nil]); first | done | rfl | (go_simp; done)) ?_; (with_reducible refine (attestorlaw07_cut.calls _ _ l1 70 t308 _ ?side1 ?side2 A6.out).mono ?_); (case side1 => repeat (first | exact (Kd.C_below HR1.out HB.out) | (with_reducible refine Kd.C_alloc ?_ _) | (with_reducible refine Kd.C_drewN ?_ _) | (with_reducible refine Kd.C_drew ?_))); (case side2 => exact HC1.out); rintro e w10 ⟨v309, rfl, ho0, hb⟩; refine ⟨_, rfl, ?_⟩; have n0_ := Aside0.mk (Kd.R_lower (Kd.R_newB ho0 (g := g307) (o := .cells #[.int .u64 a3_0, .int .u64 a3_1] 36 (0, 0)) (by exact B307.out)) (below_size (by repeat (first | (with_reducible first | exact HB.out | apply below_alloc | apply pw_below_drewN | apply below_drew1 | refine below_set ?_ GE307.out) | exact HB.out)))); have n1_ := Aside0.mk (blk_below (g := g307) (o := .cells #[.int .u64 a3_0, .int .u64 a3_1] 36 (0, 0)) (by exact B307.out) hb); have n2_ := Aside0.mk (below_step (by repeat (first | (with_reducible first | exact HB.out | apply below_alloc | apply pw_below_drewN | apply below_drew1 | refine below_set ?_ GE307.out) | exact HB.out)) hb); clear B307; clear HB; have HO310 := n0_; have B307 := n1_; have HB := n2_; clear n0_ n1_ n2_; (try clear hb); (try clear hb2); (try clear hk); (try clear hi); (try clear ho0)) | ((with_reducible refine gate_callee (f := 12) rfl ?_); refine goesL_ (some 15) rfl rfl Tryd.func12 (by kernel_rfl) rfl #[.slice A4 l4.length c4, .int .i64 20] rfl (by (try simp only [List.map_toArray, List.map_cons, List.map_nil]); first | done | rfl | (go_simp; done)) ?_; (with_reducible refine (attestorlaw07_cut.calls _ _ l4 20 t311 _ ?side1 ?side2 A7.out).mono ?_); (case side1 => repeat (first | exact (Kd.C_below HR4.out HB.out) | (with_reducible refine Kd.C_alloc ?_ _) | (with_reducible refine Kd.C_drewN ?_ _) | (with_reducible refine Kd.C_drew ?_))); (case side2 => exact HC4.out); rintro e w11 ⟨v312, rfl, ho0, hb⟩; refine ⟨_, rfl, ?_⟩; have n0_ := Aside0.mk (Kd.R_elder' (by (with_reducible repeat (first | apply Kd.R_alloc | apply Kd.R_drewN | apply Kd.R_drew)); exact HO310.out) (Kd.R_base ho0) hb); have n1_ := Aside0.mk (Kd.R_lower (Kd.R_newB (Kd.R_new' ho0 (Kd.R_lt (by (with_reducible repeat (first | apply Kd.R_alloc | apply Kd.R_drewN | apply Kd.R_drew)); exact HO310.out))) (g := g307) (o := .cells #[.int .u64 a3_0, .int .u64 a3_1] 36 (0, 0)) (by exact B307.out)) (below_size (by repeat (first | (with_reducible first | exact HB.out | apply below_alloc | apply pw_below_drewN | apply below_drew1 | refine below_set ?_ GE307.out) | exact HB.out)))); have n2_ := Aside0.mk (blk_below (g := g307) (o := .cells #[.int .u64 a3_0, .int .u64 a3_1] 36 (0, 0)) (by exact B307.out) hb); have n3_ := Aside0.mk (below_step (by repeat (first | (with_reducible first | exact HB.out | apply below_alloc | apply pw_below_drewN | apply below_drew1 | refine below_set ?_ GE307.out) | exact HB.out)) hb); clear HO310; clear B307; clear HB; have HO310 := n0_; have HO313 := n1_; have B307 := n2_; have HB := n3_; clear n0_ n1_ n2_ n3_; (try clear hb); (try clear hb2); (try clear hk); (try clear hi); (try clear ho0)))
 (try simp only [Act.put, sa_, sb_, sc_])
 go_cut [41] (fun v41 wc => ∃ (kq : Nat) (x41_7 : Bool), v41 = .bool x41_7 ∧ Aside0 (attestorlaw07_TreeChecks.j0 kq a0 a2 t311 x41_7 a3_0 a3_1 = some r) ∧ Aside0 (kq ≤ k) ∧ Aside0 (Kd.R k36 36 wc w.heap.size (fun k_ => k_ ≠ g307) v312 t311) ∧ Aside0 (wc.heap[g307]? = some (.cells #[.int .u64 a3_0, .int .u64 a3_1] 36 (0, 0))) ∧ Aside0 (Below w.heap.size w wc))
 case first =>
  have H := HC8.out
  clear HC8
  replace H := Option.bind_eq_some_iff.mp H
  obtain ⟨⟨t314, t315⟩, A120, H⟩ := H
  replace H : ((attestorref07_Climb.f k a0 a2 a3_0 a3_1 t311).bind fun bt316 => (if (!(t314 == bt316.1) || (!(t315 == bt316.2))) = true then (none) else ((tree_Check.f a0 t308 a2 a3_0 a3_1 t311).bind fun t318 => ((attestorref07_Check.f k a0 t308 a2 a3_0 a3_1 t311).bind fun t319 => (attestorlaw07_TreeChecks.j0 k a0 a2 t311 (t318 != t319) a3_0 a3_1))))) = some r := H
  have A12 := Aside0.mk A120
  clear A120
  replace H := Option.bind_eq_some_iff.mp H
  obtain ⟨⟨t316, t317⟩, A130, H⟩ := H
  replace H : (if (!(t314 == t316) || (!(t315 == t317))) = true then (none) else ((tree_Check.f a0 t308 a2 a3_0 a3_1 t311).bind fun t318 => ((attestorref07_Check.f k a0 t308 a2 a3_0 a3_1 t311).bind fun t319 => (attestorlaw07_TreeChecks.j0 k a0 a2 t311 (t318 != t319) a3_0 a3_1)))) = some r := H
  have A13 := Aside0.mk A130
  clear A130
  by_cases c14 : (!(t314 == t316) || (!(t315 == t317))) = true
  ·rw [if_pos c14] at H
   exact absurd H (by simp)
  ·rw [if_neg c14] at H
   have c14b0 : (!(t314 == t316) || (!(t315 == t317))) = false := by simpa using c14
   clear c14
   (first | rw [c14b0] | (simp only [i64_w, i32_w]; rw [c14b0]) | skip)
   replace H := Option.bind_eq_some_iff.mp H
   obtain ⟨t318, A150, H⟩ := H
   have A15 := Aside0.mk A150
   clear A150
   replace H := Option.bind_eq_some_iff.mp H
   obtain ⟨t319, A160, H⟩ := H
   have A16 := Aside0.mk A160
   clear A160
   have H' := Aside0.mk H
   clear H
   try go_wp2
   have n0_ := Aside0.mk (Kd.R_drew HO310.out)
   have n1_ := Aside0.mk (Kd.R_drew HO313.out)
   have n2_ := Aside0.mk (blk_drew B307.out)
   have n3_ := Aside0.mk (below_drew1 HB.out)
   clear HO310
   clear HO313
   clear B307
   clear HB
   have HO310 := n0_
   have HO313 := n1_
   have B307 := n2_
   have HB := n3_
   clear n0_ n1_ n2_ n3_
   obtain ⟨Ao18, co18, eo18⟩ := Kd.R_slice HO313.out
   (first | subst eo18 | (injection eo18 with f1_ f2_ f3_; have f4_ := f1_.symm; have f5_ := f3_.symm; clear f1_ f2_ f3_; subst f4_; subst f5_))
   refine start_ (n := 26) (S := fun w' => w'.cell? ⟨g307, 0, none⟩ = some (.int .u64 a3_0) ∧ w'.cell? ⟨g307, 1, none⟩ = some (.int .u64 a3_1)) (ds := []) z5_0_ (by kernel_rfl) rfl rfl ⟨bq_ B307 0, bq_ B307 1⟩ (fun hL => ?_); refine with_tabW attestorlaw07_TreeChecks.tab2 attestorlaw07_TreeChecks.bits2 (fun T_ W_ => ?_)
   generalize w11.drew = w17 at HO310 HO313 B307 HB hL ⊢
   refine pure_ (i := 0) (N := some 16) (v := ?_) (a' := ?_) z5_1_ rfl rfl (an_ T_) (fun _ _ _ h => h) (Or.inl ⟨by rfl, ?_⟩) ?_ ?_
   rotate_left; · intro w'; go_simp; with_reducible rfl
   rotate_left; · simp only [Act.put, sa_, sb_, sc_, i64_w, i32_w]; rfl
   refine pure_ (i := 1) (N := some 17) (v := ?_) (a' := ?_) z5_2_ rfl rfl (an_ T_) (fun _ _ _ h => h) (Or.inl ⟨by rfl, ?_⟩) ?_ ?_
   rotate_left; · intro w'; go_simp; with_reducible rfl
   rotate_left; · simp only [Act.put, sa_, sb_, sc_, i64_w, i32_w]; rfl
   refine pure_ (i := 3) (N := some 19) (v := ?_) (a' := ?_) z5_3_ rfl rfl (an_ T_) (fun _ _ _ h => h) (Or.inl ⟨by rfl, ?_⟩) ?_ ?_
   rotate_left; · intro w'; go_simp; with_reducible rfl
   rotate_left; · simp only [Act.put, sa_, sb_, sc_, i64_w, i32_w]; rfl
   refine pure_ (i := 5) (N := some 21) (v := ?_) (a' := ?_) z5_4_ rfl rfl (an_ T_) (fun _ _ _ h => h) (Or.inl ⟨by rfl, ?_⟩) ?_ ?_
   rotate_left; · intro w'; go_simp; with_reducible rfl
   rotate_left; · simp only [Act.put, sa_, sb_, sc_, i64_w, i32_w]; rfl
   refine pure_ (i := 6) (N := some 22) (v := ?_) (a' := ?_) z5_5_ rfl rfl (an_ T_) (fun _ _ _ h => h) (Or.inl ⟨by rfl, ?_⟩) ?_ ?_
   rotate_left; · intro w'; go_simp; with_reducible rfl
   rotate_left; · simp only [Act.put, sa_, sb_, sc_, i64_w, i32_w]; rfl
   refine pure_ (i := 8) (N := some 24) (v := ?_) (a' := ?_) z5_6_ rfl rfl (an_ T_) (fun _ _ _ h => h) (Or.inl ⟨by rfl, ?_⟩) ?_ ?_
   rotate_left; · intro w'; go_simp; with_reducible rfl
   rotate_left; · simp only [Act.put, sa_, sb_, sc_, i64_w, i32_w]; rfl
   refine take_ (i := 2) (N := some 18) (v := ?_) (a' := ?_) z5_7_ rfl rfl (tk_ T_ W_) (fun _ _ _ h => h) (Or.inl ⟨by rfl, ?_⟩) hL ?_ ?_
   rotate_left
   ·rintro w' ⟨s0, s1⟩
    go_simp
    with_reducible rfl
   rotate_left
   ·simp only [Act.put, sa_, sb_, sc_, i64_w, i32_w]
    rfl
   refine take_ (i := 7) (N := some 23) (v := ?_) (a' := ?_) z5_8_ rfl rfl (tk_ T_ W_) (fun _ _ _ h => h) (Or.inl ⟨by rfl, ?_⟩) hL ?_ ?_
   rotate_left
   ·rintro w' ⟨s0, s1⟩
    go_simp
    with_reducible rfl
   rotate_left
   ·simp only [Act.put, sa_, sb_, sc_, i64_w, i32_w]
    rfl
   refine one_ (i := 4) (N := some 20) z5_9_ rfl rfl (on_ T_) (by decide) (fun K hK => ?_)
   refine goes_ Tryd.func24 (by kernel_rfl) rfl #[.int .i64 a0, .int .i64 a2, .agg #[.int .u64 a3_0, .int .u64 a3_1], .slice Ao18 t311.length co18] (by rfl) rfl rfl (by (try simp only [List.map_toArray, List.map_cons, List.map_nil]); first | done | rfl | (go_simp; done)) ?_
   with_reducible refine (tree_Climb.calls a0 a2 a3_0 a3_1 _ _ t311 t314 t315 _ ?side1 ?side2 ?side3 A12.out).mono ?_
   (case side1 => repeat (first | exact (Kd.R_reads' HO313.out).2.2 | (with_reducible refine Kd.C_alloc ?_ _) | (with_reducible refine Kd.C_drewN ?_ _) | (with_reducible refine Kd.C_drew ?_)))
   (case side2 => exact (Kd.R_reads' HO313.out).2.1)
   (case side3 => repeat (first | exact (GL.below HRG.out HB.out) | (with_reducible refine GL.alloc ?_ _) | (with_reducible refine GL.drewN ?_ _) | (with_reducible refine GL.drew ?_)))
   rintro e w19 ⟨rfl, hb⟩
   refine ⟨_, rfl, ?_⟩
   have n0_ := Aside0.mk (Kd.R_below (by (with_reducible repeat (first | apply Kd.R_alloc | apply Kd.R_drewN | apply Kd.R_drew)); exact HO310.out) hb)
   have n1_ := Aside0.mk (Kd.R_below (by (with_reducible repeat (first | apply Kd.R_alloc | apply Kd.R_drewN | apply Kd.R_drew)); exact HO313.out) hb)
   have n2_ := Aside0.mk (blk_below (g := g307) (o := .cells #[.int .u64 a3_0, .int .u64 a3_1] 36 (0, 0)) (by exact B307.out) hb)
   have n3_ := Aside0.mk (below_step (by repeat (first | (with_reducible first | exact HB.out | apply below_alloc | apply pw_below_drewN | apply below_drew1 | refine below_set ?_ GE307.out) | exact HB.out)) hb)
   clear HO310
   clear HO313
   clear B307
   clear HB
   have HO310 := n0_
   have HO313 := n1_
   have B307 := n2_
   have HB := n3_
   clear n0_ n1_ n2_ n3_
   (try clear hb)
   (try clear hb2)
   (try clear hk)
   (try clear hi)
   refine hK.out _ _ ⟨bq_ B307 0, bq_ B307 1⟩ (fun hL => ?_)
   clear hK K
   refine norm_ (a' := ?_) ?_ ?_
   rotate_left
   ·show Act.put _ (some 20) _ = _
    simp only [Act.put, sa_, sb_, sc_, i64_w, i32_w]
    rfl
   refine one_ (i := 9) (N := some 25) z5_10_ rfl rfl (on_ T_) (by decide) (fun K hK => ?_)
   refine goes_ Tryd.func25 (by kernel_rfl) rfl #[.int .i64 a0, .int .i64 a2, .agg #[.int .u64 a3_0, .int .u64 a3_1], .slice Ao18 t311.length co18] (by rfl) rfl rfl (by (try simp only [List.map_toArray, List.map_cons, List.map_nil]); first | done | rfl | (go_simp; done)) ?_
   with_reducible refine (attestorref07_Climb.calls k a0 a2 a3_0 a3_1 _ _ t311 t316 t317 _ ?side1 ?side2 A13.out).mono ?_
   (case side1 => repeat (first | exact (Kd.R_reads' HO313.out).2.2 | (with_reducible refine Kd.C_alloc ?_ _) | (with_reducible refine Kd.C_drewN ?_ _) | (with_reducible refine Kd.C_drew ?_)))
   (case side2 => exact (Kd.R_reads' HO313.out).2.1)
   rintro e w20 ⟨rfl, hb⟩
   refine ⟨_, rfl, ?_⟩
   have n0_ := Aside0.mk (Kd.R_below (by (with_reducible repeat (first | apply Kd.R_alloc | apply Kd.R_drewN | apply Kd.R_drew)); exact HO310.out) hb)
   have n1_ := Aside0.mk (Kd.R_below (by (with_reducible repeat (first | apply Kd.R_alloc | apply Kd.R_drewN | apply Kd.R_drew)); exact HO313.out) hb)
   have n2_ := Aside0.mk (blk_below (g := g307) (o := .cells #[.int .u64 a3_0, .int .u64 a3_1] 36 (0, 0)) (by exact B307.out) hb)
   have n3_ := Aside0.mk (below_step (by repeat (first | (with_reducible first | exact HB.out | apply below_alloc | apply pw_below_drewN | apply below_drew1 | refine below_set ?_ GE307.out) | exact HB.out)) hb)
   clear HO310
   clear HO313
   clear B307
   clear HB
   have HO310 := n0_
   have HO313 := n1_
   have B307 := n2_
   have HB := n3_
   clear n0_ n1_ n2_ n3_
   (try clear hb)
   (try clear hb2)
   (try clear hk)
   (try clear hi)
   obtain ⟨Ao21, co21, eo21⟩ := Kd.R_slice HO310.out
   (first | subst eo21 | (injection eo21 with f1_ f2_ f3_; have f4_ := f1_.symm; have f5_ := f3_.symm; clear f1_ f2_ f3_; subst f4_; subst f5_))
   refine hK.out _ _ ⟨bq_ B307 0, bq_ B307 1⟩ (fun hL => ?_)
   clear hK K
   refine norm_ (a' := ?_) ?_ ?_
   rotate_left
   ·show Act.put _ (some 25) _ = _
    simp only [Act.put, sa_, sb_, sc_, i64_w, i32_w]
    rfl
   refine pure_ (i := 10) (N := some 26) (v := ?_) (a' := ?_) z5_11_ rfl rfl (an_ T_) (fun _ _ _ h => h) (Or.inl ⟨by rfl, ?_⟩) ?_ ?_
   rotate_left; · intro w'; go_simp; with_reducible rfl
   rotate_left; · simp only [Act.put, sa_, sb_, sc_, i64_w, i32_w]; rfl
   refine pure_ (i := 11) (N := some 27) (v := ?_) (a' := ?_) z5_12_ rfl rfl (an_ T_) (fun _ _ _ h => h) (Or.inl ⟨by rfl, ?_⟩) ?_ ?_
   rotate_left; · intro w'; go_simp; with_reducible rfl
   rotate_left; · simp only [Act.put, sa_, sb_, sc_, i64_w, i32_w]; rfl
   refine pure_ (i := 12) (N := some 28) (v := ?_) (a' := ?_) z5_13_ rfl rfl (an_ T_) (fun _ _ _ h => h) (Or.inl ⟨by rfl, ?_⟩) ?_ ?_
   rotate_left; · intro w'; go_simp; with_reducible rfl
   rotate_left; · simp only [Act.put, sa_, sb_, sc_, i64_w, i32_w]; rfl
   refine pure_ (i := 13) (N := some 29) (v := ?_) (a' := ?_) z5_14_ rfl rfl (an_ T_) (fun _ _ _ h => h) (Or.inl ⟨by rfl, ?_⟩) ?_ ?_
   rotate_left; · intro w'; go_simp; with_reducible rfl
   rotate_left; · simp only [Act.put, sa_, sb_, sc_, i64_w, i32_w]; rfl
   refine pure_ (i := 14) (N := some 30) (v := ?_) (a' := ?_) z5_15_ rfl rfl (an_ T_) (fun _ _ _ h => h) (Or.inl ⟨by rfl, ?_⟩) ?_ ?_
   rotate_left; · intro w'; go_simp; with_reducible rfl
   rotate_left; · simp only [Act.put, sa_, sb_, sc_, i64_w, i32_w]; rfl
   refine pure_ (i := 16) (N := some 32) (v := ?_) (a' := ?_) z5_16_ rfl rfl (an_ T_) (fun _ _ _ h => h) (Or.inl ⟨by rfl, ?_⟩) ?_ ?_
   rotate_left; · intro w'; go_simp; with_reducible rfl
   rotate_left; · simp only [Act.put, sa_, sb_, sc_, i64_w, i32_w]; rfl
   refine pure_ (i := 18) (N := some 34) (v := ?_) (a' := ?_) z5_17_ rfl rfl (an_ T_) (fun _ _ _ h => h) (Or.inl ⟨by rfl, ?_⟩) ?_ ?_
   rotate_left; · intro w'; go_simp; with_reducible rfl
   rotate_left; · simp only [Act.put, sa_, sb_, sc_, i64_w, i32_w]; rfl
   refine pure_ (i := 19) (N := some 35) (v := ?_) (a' := ?_) z5_18_ rfl rfl (an_ T_) (fun _ _ _ h => h) (Or.inl ⟨by rfl, ?_⟩) ?_ ?_
   rotate_left; · intro w'; go_simp; with_reducible rfl
   rotate_left; · simp only [Act.put, sa_, sb_, sc_, i64_w, i32_w]; rfl
   refine pure_ (i := 20) (N := some 36) (v := ?_) (a' := ?_) z5_19_ rfl rfl (an_ T_) (fun _ _ _ h => h) (Or.inl ⟨by rfl, ?_⟩) ?_ ?_
   rotate_left; · intro w'; go_simp; with_reducible rfl
   rotate_left; · simp only [Act.put, sa_, sb_, sc_, i64_w, i32_w]; rfl
   refine pure_ (i := 22) (N := some 38) (v := ?_) (a' := ?_) z5_20_ rfl rfl (an_ T_) (fun _ _ _ h => h) (Or.inl ⟨by rfl, ?_⟩) ?_ ?_
   rotate_left; · intro w'; go_simp; with_reducible rfl
   rotate_left; · simp only [Act.put, sa_, sb_, sc_, i64_w, i32_w]; rfl
   refine take_ (i := 15) (N := some 31) (v := ?_) (a' := ?_) z5_21_ rfl rfl (tk_ T_ W_) (fun _ _ _ h => h) (Or.inl ⟨by rfl, ?_⟩) hL ?_ ?_
   rotate_left
   ·rintro w' ⟨s0, s1⟩
    go_simp
    with_reducible rfl
   rotate_left
   ·simp only [Act.put, sa_, sb_, sc_, i64_w, i32_w]
    rfl
   refine take_ (i := 21) (N := some 37) (v := ?_) (a' := ?_) z5_22_ rfl rfl (tk_ T_ W_) (fun _ _ _ h => h) (Or.inl ⟨by rfl, ?_⟩) hL ?_ ?_
   rotate_left
   ·rintro w' ⟨s0, s1⟩
    go_simp
    with_reducible rfl
   rotate_left
   ·simp only [Act.put, sa_, sb_, sc_, i64_w, i32_w]
    rfl
   refine one_ (i := 17) (N := some 33) z5_23_ rfl rfl (on_ T_) (by decide) (fun K hK => ?_)
   refine goes_ Tryd.func26 (by kernel_rfl) rfl #[.int .i64 a0, .slice Ao21 t308.length co21, .int .i64 a2, .agg #[.int .u64 a3_0, .int .u64 a3_1], .slice Ao18 t311.length co18] (by rfl) rfl rfl (by (try simp only [List.map_toArray, List.map_cons, List.map_nil]); first | done | rfl | (go_simp; done)) ?_
   with_reducible refine (tree_Check.calls a0 _ _ t308 a2 a3_0 a3_1 _ _ t311 t318 _ ?side1 ?side2 ?side3 ?side4 ?side5 A15.out).mono ?_
   (case side1 => repeat (first | exact (Kd.R_reads' HO310.out).2.2 | (with_reducible refine Kd.C_alloc ?_ _) | (with_reducible refine Kd.C_drewN ?_ _) | (with_reducible refine Kd.C_drew ?_)))
   (case side2 => exact (Kd.R_reads' HO310.out).2.1)
   (case side3 => repeat (first | exact (Kd.R_reads' HO313.out).2.2 | (with_reducible refine Kd.C_alloc ?_ _) | (with_reducible refine Kd.C_drewN ?_ _) | (with_reducible refine Kd.C_drew ?_)))
   (case side4 => exact (Kd.R_reads' HO313.out).2.1)
   (case side5 => repeat (first | exact (GL.below HRG.out HB.out) | (with_reducible refine GL.alloc ?_ _) | (with_reducible refine GL.drewN ?_ _) | (with_reducible refine GL.drew ?_)))
   rintro e w22 ⟨rfl, hb⟩
   refine ⟨_, rfl, ?_⟩
   have n0_ := Aside0.mk (Kd.R_below (by (with_reducible repeat (first | apply Kd.R_alloc | apply Kd.R_drewN | apply Kd.R_drew)); exact HO310.out) hb)
   have n1_ := Aside0.mk (Kd.R_below (by (with_reducible repeat (first | apply Kd.R_alloc | apply Kd.R_drewN | apply Kd.R_drew)); exact HO313.out) hb)
   have n2_ := Aside0.mk (blk_below (g := g307) (o := .cells #[.int .u64 a3_0, .int .u64 a3_1] 36 (0, 0)) (by exact B307.out) hb)
   have n3_ := Aside0.mk (below_step (by repeat (first | (with_reducible first | exact HB.out | apply below_alloc | apply pw_below_drewN | apply below_drew1 | refine below_set ?_ GE307.out) | exact HB.out)) hb)
   clear HO310
   clear HO313
   clear B307
   clear HB
   have HO310 := n0_
   have HO313 := n1_
   have B307 := n2_
   have HB := n3_
   clear n0_ n1_ n2_ n3_
   (try clear hb)
   (try clear hb2)
   (try clear hk)
   (try clear hi)
   refine hK.out _ _ ⟨bq_ B307 0, bq_ B307 1⟩ (fun hL => ?_)
   clear hK K
   refine norm_ (a' := ?_) ?_ ?_
   rotate_left
   ·show Act.put _ (some 33) _ = _
    simp only [Act.put, sa_, sb_, sc_, i64_w, i32_w]
    rfl
   refine one_ (i := 23) (N := some 39) z5_24_ rfl rfl (on_ T_) (by decide) (fun K hK => ?_)
   refine goes_ Tryd.func27 (by kernel_rfl) rfl #[.int .i64 a0, .slice Ao21 t308.length co21, .int .i64 a2, .agg #[.int .u64 a3_0, .int .u64 a3_1], .slice Ao18 t311.length co18] (by rfl) rfl rfl (by (try simp only [List.map_toArray, List.map_cons, List.map_nil]); first | done | rfl | (go_simp; done)) ?_
   with_reducible refine (attestorref07_Check.calls k a0 _ _ t308 a2 a3_0 a3_1 _ _ t311 t319 _ ?side1 ?side2 ?side3 ?side4 A16.out).mono ?_
   (case side1 => repeat (first | exact (Kd.R_reads' HO310.out).2.2 | (with_reducible refine Kd.C_alloc ?_ _) | (with_reducible refine Kd.C_drewN ?_ _) | (with_reducible refine Kd.C_drew ?_)))
   (case side2 => exact (Kd.R_reads' HO310.out).2.1)
   (case side3 => repeat (first | exact (Kd.R_reads' HO313.out).2.2 | (with_reducible refine Kd.C_alloc ?_ _) | (with_reducible refine Kd.C_drewN ?_ _) | (with_reducible refine Kd.C_drew ?_)))
   (case side4 => exact (Kd.R_reads' HO313.out).2.1)
   rintro e w23 ⟨rfl, hb⟩
   refine ⟨_, rfl, ?_⟩
   have n0_ := Aside0.mk (Kd.R_below (by (with_reducible repeat (first | apply Kd.R_alloc | apply Kd.R_drewN | apply Kd.R_drew)); exact HO310.out) hb)
   have n1_ := Aside0.mk (Kd.R_below (by (with_reducible repeat (first | apply Kd.R_alloc | apply Kd.R_drewN | apply Kd.R_drew)); exact HO313.out) hb)
   have n2_ := Aside0.mk (blk_below (g := g307) (o := .cells #[.int .u64 a3_0, .int .u64 a3_1] 36 (0, 0)) (by exact B307.out) hb)
   have n3_ := Aside0.mk (below_step (by repeat (first | (with_reducible first | exact HB.out | apply below_alloc | apply pw_below_drewN | apply below_drew1 | refine below_set ?_ GE307.out) | exact HB.out)) hb)
   clear HO310
   clear HO313
   clear B307
   clear HB
   have HO310 := n0_
   have HO313 := n1_
   have B307 := n2_
   have HB := n3_
   clear n0_ n1_ n2_ n3_
   (try clear hb)
   (try clear hb2)
   (try clear hk)
   (try clear hi)
   refine hK.out _ _ ⟨bq_ B307 0, bq_ B307 1⟩ (fun hL => ?_)
   clear hK K
   refine norm_ (a' := ?_) ?_ ?_
   rotate_left
   ·show Act.put _ (some 39) _ = _
    simp only [Act.put, sa_, sb_, sc_, i64_w, i32_w]
    rfl
   refine pure_ (i := 24) (N := some 40) (v := ?_) (a' := ?_) z5_25_ rfl rfl (an_ T_) (fun _ _ _ h => h) (Or.inl ⟨by rfl, ?_⟩) ?_ ?_
   rotate_left; · intro w'; go_simp; with_reducible rfl
   rotate_left; · simp only [Act.put, sa_, sb_, sc_, i64_w, i32_w]; rfl
   refine pure_ (i := 25) (N := some 41) (v := ?_) (a' := ?_) z5_26_ rfl rfl (an_ T_) (fun _ _ _ h => h) (Or.inl ⟨by rfl, ?_⟩) ?_ ?_
   rotate_left; · intro w'; go_simp; with_reducible rfl
   rotate_left; · simp only [Act.put, sa_, sb_, sc_, i64_w, i32_w]; rfl
   refine done_ (done_of T_.out (by kernel_rfl)) ?_
   try go_wp2
   go_meet
   case rel => exact ⟨_, ((t318 != t319)), (by first | rfl | (simp; done) | (simp [*]; done) | (simp; rfl) | (simp; decide +kernel)), H', ⟨by first | omega | exact Nat.le_refl _⟩, ⟨by (with_reducible repeat (first | apply Kd.R_alloc | apply Kd.R_drewN | apply Kd.R_drew)); exact Kd.R_mono HO313.out (fun _ hk => hk.2)⟩, ⟨by exact B307.out⟩, ⟨by repeat (first | (with_reducible first | exact HB.out | apply below_alloc | apply pw_below_drewN | apply below_drew1 | refine below_set ?_ GE307.out) | exact HB.out)⟩⟩
 case rest =>
  clear HC8
  try clear c1
  try clear c2
  try clear p2
  try clear c4
  try clear c5
  try clear c12
  try clear c14
  try clear c14b0
  obtain ⟨kq, x41_7, rfl, HA, HJ7, HO_4, B307, HB⟩ := hcut
  cases kq with
  | zero => exact absurd HA.out (by simp [attestorlaw07_TreeChecks.j0])
  | succ kj7 =>
   have H := HA.out
   clear HA
   simp only [attestorlaw07_TreeChecks.j0] at H
   by_cases c24 : x41_7 = true
   ·subst c24
    have H1 : (none) = some r := by rw [if_pos rfl] at H; exact H
    clear H
    have H := H1
    clear H1
    exact absurd H (by simp)
   ·replace c24 := Bool.eq_false_iff.mpr c24
    subst c24
    have H1 : ((attestorref07_Climb.f kj7 a0 a2 a3_0 a3_1 t311).bind fun bt320 => ((some (([(⟨bt320.1, bt320.2⟩ : S36)] : List (S36)) : List (S36))).bind fun y322 => ((tree_Check.f a0 y322 a2 a3_0 a3_1 t311).bind fun t325 => ((attestorref07_Check.f kj7 a0 y322 a2 a3_0 a3_1 t311).bind fun t326 => (if (t325 == t326) = true then ((attestorlaw07_lives.f kj7).bind fun t327 => (some t327)) else (none)))))) = some r := by rw [if_neg (show ¬ (false = true) by decide)] at H; exact H
    clear H
    have H := H1
    clear H1
    replace H := Option.bind_eq_some_iff.mp H
    obtain ⟨⟨t320, t321⟩, A250, H⟩ := H
    replace H : ((some (([(⟨t320, t321⟩ : S36)] : List (S36)) : List (S36))).bind fun y322 => ((tree_Check.f a0 y322 a2 a3_0 a3_1 t311).bind fun t325 => ((attestorref07_Check.f kj7 a0 y322 a2 a3_0 a3_1 t311).bind fun t326 => (if (t325 == t326) = true then ((attestorlaw07_lives.f kj7).bind fun t327 => (some t327)) else (none))))) = some r := H
    have A25 := Aside0.mk A250
    clear A250
    obtain ⟨y322, hy322⟩ : ∃ y_ : List (S36), y_ = (([(⟨t320, t321⟩ : S36)] : List (S36))) := ⟨_, rfl⟩
    replace H : ((tree_Check.f a0 y322 a2 a3_0 a3_1 t311).bind fun t325 => ((attestorref07_Check.f kj7 a0 y322 a2 a3_0 a3_1 t311).bind fun t326 => (if (t325 == t326) = true then ((attestorlaw07_lives.f kj7).bind fun t327 => (some t327)) else (none)))) = some r := by first | (rw [hy322]; with_reducible exact H) | (have H2_ := (Option.bind_some _ _).symm.trans H; rw [hy322]; with_reducible exact H2_) | (have H2_ := (Option.bind_some _ _).symm.trans H; with_reducible exact H2_) | with_reducible exact H | (rw [hy322]; exact H) | exact H
    have Ny322 := Aside0.mk hy322
    clear hy322
    replace H := Option.bind_eq_some_iff.mp H
    obtain ⟨t325, A260, H⟩ := H
    have A26 := Aside0.mk A260
    clear A260
    replace H := Option.bind_eq_some_iff.mp H
    obtain ⟨t326, A270, H⟩ := H
    have A27 := Aside0.mk A270
    clear A270
    by_cases c28 : (t325 == t326) = true
    ·rw [if_pos c28] at H
     have c28b0 : (t325 == t326) = true := c28
     (try (have c28b1 : decide (t325 = t326) = true := by simpa using c28))
     (try (have c28b2 : (t325 == t326) = true := by simpa using c28))
     clear c28
     replace H := Option.bind_eq_some_iff.mp H
     obtain ⟨t327, A290, H⟩ := H
     have A29 := Aside0.mk A290
     clear A290
     obtain rfl := Option.some.inj H
     have hcz30_0 : wc.cell? ⟨g307, 0, none⟩ = some (.int .u64 a3_0) := bq_ B307 0
     have hcz30_1 : wc.cell? ⟨g307, 1, none⟩ = some (.int .u64 a3_1) := bq_ B307 1
     have hfz30_0 := blk_frozen B307.out 0
     have hfz30_1 := blk_frozen B307.out 1
     obtain ⟨Ao31, co31, eo31⟩ := Kd.R_slice HO_4.out
     subst eo31
     try go_wp2_with (first | ((with_reducible refine gate_callee (f := 25) rfl ?_); refine goesL_ (some 46) rfl rfl Tryd.func25 (by kernel_rfl) rfl #[.int .i64 a0, .int .i64 a2, .agg #[.int .u64 a3_0, .int .u64 a3_1], .slice Ao31 t311.length co31] rfl (by (try simp only [List.map_toArray, List.map_cons, List.map_nil]); first | done | rfl | (go_simp; done)) ?_; (with_reducible refine (attestorref07_Climb.calls kj7 a0 a2 a3_0 a3_1 _ _ t311 t320 t321 _ ?side1 ?side2 A25.out).mono ?_); (case side1 => repeat (first | exact (Kd.R_reads' HO_4.out).2.2 | (with_reducible refine Kd.C_alloc ?_ _) | (with_reducible refine Kd.C_drewN ?_ _) | (with_reducible refine Kd.C_drew ?_))); (case side2 => exact (Kd.R_reads' HO_4.out).2.1); rintro e w32 ⟨rfl, hb⟩; refine ⟨_, rfl, ?_⟩; have n0_ := Aside0.mk (Kd.R_below (by (with_reducible repeat (first | apply Kd.R_alloc | apply Kd.R_drewN | apply Kd.R_drew)); exact HO_4.out) hb); have n1_ := Aside0.mk (blk_below (g := g307) (o := .cells #[.int .u64 a3_0, .int .u64 a3_1] 36 (0, 0)) (by exact B307.out) hb); have n2_ := Aside0.mk (below_step (by repeat (first | (with_reducible first | exact HB.out | apply below_alloc | apply pw_below_drewN | apply below_drew1 | refine below_set ?_ GE307.out) | exact HB.out)) hb); clear HO_4; clear B307; clear HB; have HO_4 := n0_; have B307 := n1_; have HB := n2_; clear n0_ n1_ n2_; (try clear hb); (try clear hb2); (try clear hk); (try clear hi)) | ((with_reducible refine gate_dst (N := 47) rfl ?_); refine Kd.R_lit k36 _ 36 ?hg (N := 47) ?hd (xs := ([(⟨t320, t321⟩ : S36)] : List (S36))) (inner := [.int .u64 t320, .int .u64 t321]) (ok := fun _ => True) (okp := fun _ => True) ?hr ?hp (fun _ hk => hk) trivial (Below.refl _ _) (Nat.le_refl _) (by simp) ?_; (case hd => rfl); (case hg => rfl); (case hr => first | (go_simp; done) | (go_simp; rfl)); (case hp => exact (Reps.c2 (show Kd.M k36 _ _ _ (⟨t320, t321⟩ : S36) [.int .u64 t320, .int .u64 t321] from (k36_mkM _ _ _ (⟨t320, t321⟩ : S36) )) (Reps.none _ _))); intro v323 w33 ho34 hb hg_ hnew_; clear hg_ hnew_; (first | rw [← Ny322.out] at ho34 | (simp only [Int.reduceToNat] at ho34; rw [← Ny322.out] at ho34)); have n0_ := Aside0.mk (Kd.R_elder' (by (with_reducible repeat (first | apply Kd.R_alloc | apply Kd.R_drewN | apply Kd.R_drew)); exact HO_4.out) (Kd.R_base ho34) hb); have n1_ := Aside0.mk (Kd.R_lower (Kd.R_newB (Kd.R_new' ho34 (Kd.R_lt (by (with_reducible repeat (first | apply Kd.R_alloc | apply Kd.R_drewN | apply Kd.R_drew)); exact HO_4.out))) (g := g307) (o := .cells #[.int .u64 a3_0, .int .u64 a3_1] 36 (0, 0)) (by exact B307.out)) (below_size (by repeat (first | (with_reducible first | exact HB.out | apply below_alloc | apply pw_below_drewN | apply below_drew1 | refine below_set ?_ GE307.out) | exact HB.out)))); have n2_ := Aside0.mk (blk_below (g := g307) (o := .cells #[.int .u64 a3_0, .int .u64 a3_1] 36 (0, 0)) (by exact B307.out) hb); have n3_ := Aside0.mk (below_step (by repeat (first | (with_reducible first | exact HB.out | apply below_alloc | apply pw_below_drewN | apply below_drew1 | refine below_set ?_ GE307.out) | exact HB.out)) hb); clear HO_4; clear B307; clear HB; have HO_4 := n0_; have HO324 := n1_; have B307 := n2_; have HB := n3_; clear n0_ n1_ n2_ n3_; clear hb ho34))
     have n0_ := Aside0.mk (Kd.R_drew HO_4.out)
     have n1_ := Aside0.mk (Kd.R_drew HO324.out)
     have n2_ := Aside0.mk (blk_drew B307.out)
     have n3_ := Aside0.mk (below_drew1 HB.out)
     clear HO_4
     clear HO324
     clear B307
     clear HB
     have HO_4 := n0_
     have HO324 := n1_
     have B307 := n2_
     have HB := n3_
     clear n0_ n1_ n2_ n3_
     obtain ⟨Ao36, co36, eo36⟩ := Kd.R_slice HO324.out
     (first | subst eo36 | (injection eo36 with f1_ f2_ f3_; have f4_ := f1_.symm; have f5_ := f3_.symm; clear f1_ f2_ f3_; subst f4_; subst f5_))
     refine start_ (n := 17) (S := fun w' => w'.cell? ⟨g307, 0, none⟩ = some (.int .u64 a3_0) ∧ w'.cell? ⟨g307, 1, none⟩ = some (.int .u64 a3_1)) (ds := []) z5_27_ (by kernel_rfl) rfl rfl ⟨bq_ B307 0, bq_ B307 1⟩ (fun hL => ?_); refine with_tabW attestorlaw07_TreeChecks.tab5 attestorlaw07_TreeChecks.bits5 (fun T_ W_ => ?_)
     generalize w33.drew = w35 at HO_4 HO324 B307 HB hL ⊢
     refine pure_ (i := 0) (N := some 48) (v := ?_) (a' := ?_) z5_28_ rfl rfl (an_ T_) (fun _ _ _ h => h) (Or.inl ⟨by rfl, ?_⟩) ?_ ?_
     rotate_left; · intro w'; go_simp; with_reducible rfl
     rotate_left; · simp only [Act.put, sa_, sb_, sc_, i64_w, i32_w]; rfl
     refine pure_ (i := 1) (N := some 49) (v := ?_) (a' := ?_) z5_29_ rfl rfl (an_ T_) (fun _ _ _ h => h) (Or.inl ⟨by rfl, ?_⟩) ?_ ?_
     rotate_left; · intro w'; go_simp; with_reducible rfl
     rotate_left; · simp only [Act.put, sa_, sb_, sc_, i64_w, i32_w]; rfl
     refine pure_ (i := 2) (N := some 50) (v := ?_) (a' := ?_) z5_30_ rfl rfl (an_ T_) (fun _ _ _ h => h) (Or.inl ⟨by rfl, ?_⟩) ?_ ?_
     rotate_left; · intro w'; go_simp; with_reducible rfl
     rotate_left; · simp only [Act.put, sa_, sb_, sc_, i64_w, i32_w]; rfl
     refine pure_ (i := 4) (N := some 52) (v := ?_) (a' := ?_) z5_31_ rfl rfl (an_ T_) (fun _ _ _ h => h) (Or.inl ⟨by rfl, ?_⟩) ?_ ?_
     rotate_left; · intro w'; go_simp; with_reducible rfl
     rotate_left; · simp only [Act.put, sa_, sb_, sc_, i64_w, i32_w]; rfl
     refine pure_ (i := 6) (N := some 54) (v := ?_) (a' := ?_) z5_32_ rfl rfl (an_ T_) (fun _ _ _ h => h) (Or.inl ⟨by rfl, ?_⟩) ?_ ?_
     rotate_left; · intro w'; go_simp; with_reducible rfl
     rotate_left; · simp only [Act.put, sa_, sb_, sc_, i64_w, i32_w]; rfl
     refine pure_ (i := 7) (N := some 55) (v := ?_) (a' := ?_) z5_33_ rfl rfl (an_ T_) (fun _ _ _ h => h) (Or.inl ⟨by rfl, ?_⟩) ?_ ?_
     rotate_left; · intro w'; go_simp; with_reducible rfl
     rotate_left; · simp only [Act.put, sa_, sb_, sc_, i64_w, i32_w]; rfl
     refine pure_ (i := 8) (N := some 56) (v := ?_) (a' := ?_) z5_34_ rfl rfl (an_ T_) (fun _ _ _ h => h) (Or.inl ⟨by rfl, ?_⟩) ?_ ?_
     rotate_left; · intro w'; go_simp; with_reducible rfl
     rotate_left; · simp only [Act.put, sa_, sb_, sc_, i64_w, i32_w]; rfl
     refine pure_ (i := 10) (N := some 58) (v := ?_) (a' := ?_) z5_35_ rfl rfl (an_ T_) (fun _ _ _ h => h) (Or.inl ⟨by rfl, ?_⟩) ?_ ?_
     rotate_left; · intro w'; go_simp; with_reducible rfl
     rotate_left; · simp only [Act.put, sa_, sb_, sc_, i64_w, i32_w]; rfl
     refine take_ (i := 3) (N := some 51) (v := ?_) (a' := ?_) z5_36_ rfl rfl (tk_ T_ W_) (fun _ _ _ h => h) (Or.inl ⟨by rfl, ?_⟩) hL ?_ ?_
     rotate_left
     ·rintro w' ⟨s0, s1⟩
      go_simp
      with_reducible rfl
     rotate_left
     ·simp only [Act.put, sa_, sb_, sc_, i64_w, i32_w]
      rfl
     refine take_ (i := 9) (N := some 57) (v := ?_) (a' := ?_) z5_37_ rfl rfl (tk_ T_ W_) (fun _ _ _ h => h) (Or.inl ⟨by rfl, ?_⟩) hL ?_ ?_
     rotate_left
     ·rintro w' ⟨s0, s1⟩
      go_simp
      with_reducible rfl
     rotate_left
     ·simp only [Act.put, sa_, sb_, sc_, i64_w, i32_w]
      rfl
     refine one_ (i := 5) (N := some 53) z5_38_ rfl rfl (on_ T_) (by decide) (fun K hK => ?_)
     refine goes_ Tryd.func26 (by kernel_rfl) rfl #[.int .i64 a0, .slice Ao36 y322.length co36, .int .i64 a2, .agg #[.int .u64 a3_0, .int .u64 a3_1], .slice Ao31 t311.length co31] (by rfl) rfl rfl (by (try simp only [List.map_toArray, List.map_cons, List.map_nil]); first | done | rfl | (go_simp; done)) ?_
     with_reducible refine (tree_Check.calls a0 _ _ y322 a2 a3_0 a3_1 _ _ t311 t325 _ ?side1 ?side2 ?side3 ?side4 ?side5 A26.out).mono ?_
     (case side1 => repeat (first | exact (Kd.R_reads' HO324.out).2.2 | (with_reducible refine Kd.C_alloc ?_ _) | (with_reducible refine Kd.C_drewN ?_ _) | (with_reducible refine Kd.C_drew ?_)))
     (case side2 => exact (Kd.R_reads' HO324.out).2.1)
     (case side3 => repeat (first | exact (Kd.R_reads' HO_4.out).2.2 | (with_reducible refine Kd.C_alloc ?_ _) | (with_reducible refine Kd.C_drewN ?_ _) | (with_reducible refine Kd.C_drew ?_)))
     (case side4 => exact (Kd.R_reads' HO_4.out).2.1)
     (case side5 => repeat (first | exact (GL.below HRG.out HB.out) | (with_reducible refine GL.alloc ?_ _) | (with_reducible refine GL.drewN ?_ _) | (with_reducible refine GL.drew ?_)))
     rintro e w37 ⟨rfl, hb⟩
     refine ⟨_, rfl, ?_⟩
     have n0_ := Aside0.mk (Kd.R_below (by (with_reducible repeat (first | apply Kd.R_alloc | apply Kd.R_drewN | apply Kd.R_drew)); exact HO_4.out) hb)
     have n1_ := Aside0.mk (Kd.R_below (by (with_reducible repeat (first | apply Kd.R_alloc | apply Kd.R_drewN | apply Kd.R_drew)); exact HO324.out) hb)
     have n2_ := Aside0.mk (blk_below (g := g307) (o := .cells #[.int .u64 a3_0, .int .u64 a3_1] 36 (0, 0)) (by exact B307.out) hb)
     have n3_ := Aside0.mk (below_step (by repeat (first | (with_reducible first | exact HB.out | apply below_alloc | apply pw_below_drewN | apply below_drew1 | refine below_set ?_ GE307.out) | exact HB.out)) hb)
     clear HO_4
     clear HO324
     clear B307
     clear HB
     have HO_4 := n0_
     have HO324 := n1_
     have B307 := n2_
     have HB := n3_
     clear n0_ n1_ n2_ n3_
     (try clear hb)
     (try clear hb2)
     (try clear hk)
     (try clear hi)
     refine hK.out _ _ ⟨bq_ B307 0, bq_ B307 1⟩ (fun hL => ?_)
     clear hK K
     refine norm_ (a' := ?_) ?_ ?_
     rotate_left
     ·show Act.put _ (some 53) _ = _
      simp only [Act.put, sa_, sb_, sc_, i64_w, i32_w]
      rfl
     refine one_ (i := 11) (N := some 59) z5_39_ rfl rfl (on_ T_) (by decide) (fun K hK => ?_)
     refine goes_ Tryd.func27 (by kernel_rfl) rfl #[.int .i64 a0, .slice Ao36 y322.length co36, .int .i64 a2, .agg #[.int .u64 a3_0, .int .u64 a3_1], .slice Ao31 t311.length co31] (by rfl) rfl rfl (by (try simp only [List.map_toArray, List.map_cons, List.map_nil]); first | done | rfl | (go_simp; done)) ?_
     with_reducible refine (attestorref07_Check.calls kj7 a0 _ _ y322 a2 a3_0 a3_1 _ _ t311 t326 _ ?side1 ?side2 ?side3 ?side4 A27.out).mono ?_
     (case side1 => repeat (first | exact (Kd.R_reads' HO324.out).2.2 | (with_reducible refine Kd.C_alloc ?_ _) | (with_reducible refine Kd.C_drewN ?_ _) | (with_reducible refine Kd.C_drew ?_)))
     (case side2 => exact (Kd.R_reads' HO324.out).2.1)
     (case side3 => repeat (first | exact (Kd.R_reads' HO_4.out).2.2 | (with_reducible refine Kd.C_alloc ?_ _) | (with_reducible refine Kd.C_drewN ?_ _) | (with_reducible refine Kd.C_drew ?_)))
     (case side4 => exact (Kd.R_reads' HO_4.out).2.1)
     rintro e w38 ⟨rfl, hb⟩
     refine ⟨_, rfl, ?_⟩
     have n0_ := Aside0.mk (Kd.R_below (by (with_reducible repeat (first | apply Kd.R_alloc | apply Kd.R_drewN | apply Kd.R_drew)); exact HO_4.out) hb)
     have n1_ := Aside0.mk (Kd.R_below (by (with_reducible repeat (first | apply Kd.R_alloc | apply Kd.R_drewN | apply Kd.R_drew)); exact HO324.out) hb)
     have n2_ := Aside0.mk (blk_below (g := g307) (o := .cells #[.int .u64 a3_0, .int .u64 a3_1] 36 (0, 0)) (by exact B307.out) hb)
     have n3_ := Aside0.mk (below_step (by repeat (first | (with_reducible first | exact HB.out | apply below_alloc | apply pw_below_drewN | apply below_drew1 | refine below_set ?_ GE307.out) | exact HB.out)) hb)
     clear HO_4
     clear HO324
     clear B307
     clear HB
     have HO_4 := n0_
     have HO324 := n1_
     have B307 := n2_
     have HB := n3_
     clear n0_ n1_ n2_ n3_
     (try clear hb)
     (try clear hb2)
     (try clear hk)
     (try clear hi)
     refine hK.out _ _ ⟨bq_ B307 0, bq_ B307 1⟩ (fun hL => ?_)
     clear hK K
     refine norm_ (a' := ?_) ?_ ?_
     rotate_left
     ·show Act.put _ (some 59) _ = _
      simp only [Act.put, sa_, sb_, sc_, i64_w, i32_w]
      rfl
     refine pure_ (i := 12) (N := some 60) (v := ?_) (a' := ?_) z5_40_ rfl rfl (an_ T_) (fun _ _ _ h => h) (Or.inl ⟨by rfl, ?_⟩) ?_ ?_
     rotate_left; · intro w'; go_simp; with_reducible rfl
     rotate_left; · simp only [Act.put, sa_, sb_, sc_, i64_w, i32_w]; rfl
     refine pure_ (i := 13) (N := some 61) (v := ?_) (a' := ?_) z5_41_ rfl rfl (an_ T_) (fun _ _ _ h => h) (Or.inl ⟨by rfl, ?_⟩) ?_ ?_
     rotate_left; · intro w'; go_simp; with_reducible rfl
     rotate_left; · simp only [Act.put, sa_, sb_, sc_, i64_w, i32_w]; rfl
     refine one_ (i := 14) (N := some 62) z5_42_ rfl rfl (on_ T_) (by decide) (fun K hK => ?_)
     refine goes_ Tryd.func21 (by kernel_rfl) rfl #[] (by rfl) rfl rfl (by (try simp only [List.map_toArray, List.map_cons, List.map_nil]); first | done | rfl | (go_simp; done)) ?_
     with_reducible refine (attestorlaw07_lives.calls kj7  t327 _ ?side1 A29.out).mono ?_
     (case side1 => repeat (first | exact (GL.below HRG.out HB.out) | (with_reducible refine GL.alloc ?_ _) | (with_reducible refine GL.drewN ?_ _) | (with_reducible refine GL.drew ?_)))
     rintro e w39 ⟨rfl, hb⟩
     refine ⟨_, rfl, ?_⟩
     have n0_ := Aside0.mk (Kd.R_below (by (with_reducible repeat (first | apply Kd.R_alloc | apply Kd.R_drewN | apply Kd.R_drew)); exact HO_4.out) hb)
     have n1_ := Aside0.mk (Kd.R_below (by (with_reducible repeat (first | apply Kd.R_alloc | apply Kd.R_drewN | apply Kd.R_drew)); exact HO324.out) hb)
     have n2_ := Aside0.mk (blk_below (g := g307) (o := .cells #[.int .u64 a3_0, .int .u64 a3_1] 36 (0, 0)) (by exact B307.out) hb)
     have n3_ := Aside0.mk (below_step (by repeat (first | (with_reducible first | exact HB.out | apply below_alloc | apply pw_below_drewN | apply below_drew1 | refine below_set ?_ GE307.out) | exact HB.out)) hb)
     clear HO_4
     clear HO324
     clear B307
     clear HB
     have HO_4 := n0_
     have HO324 := n1_
     have B307 := n2_
     have HB := n3_
     clear n0_ n1_ n2_ n3_
     (try clear hb)
     (try clear hb2)
     (try clear hk)
     (try clear hi)
     refine hK.out _ _ ⟨bq_ B307 0, bq_ B307 1⟩ (fun hL => ?_)
     clear hK K
     refine norm_ (a' := ?_) ?_ ?_
     rotate_left
     ·show Act.put _ (some 62) _ = _
      simp only [Act.put, sa_, sb_, sc_, i64_w, i32_w]
      rfl
     refine pure_ (i := 15) (N := some 63) (v := ?_) (a' := ?_) z5_43_ rfl rfl (an_ T_) (fun _ _ _ h => h) (Or.inl ⟨by rfl, ?_⟩) ?_ ?_
     rotate_left; · intro w'; go_simp; with_reducible rfl
     rotate_left; · simp only [Act.put, sa_, sb_, sc_, i64_w, i32_w]; rfl
     refine pure_ (i := 16) (N := some 10) (v := ?_) (a' := ?_) z5_44_ rfl rfl (an_ T_) (fun _ _ _ h => h) (Or.inl ⟨by rfl, ?_⟩) ?_ ?_
     rotate_left; · intro w'; go_simp; with_reducible rfl
     rotate_left; · simp only [Act.put, sa_, sb_, sc_, i64_w, i32_w]; rfl
     refine done_ (done_of T_.out (by kernel_rfl)) ?_
     try go_wp2
     go_ret
     exact ⟨by first | rfl | (simp [errW_none, errW_some] <;> rfl) | (simp [*, errW_none, errW_some] <;> rfl), by repeat (first | (with_reducible first | exact HB.out | apply below_alloc | apply pw_below_drewN | apply below_drew1 | refine below_set ?_ GE307.out) | exact HB.out)⟩
    ·rw [if_neg c28] at H
     exact absurd H (by simp)

end Go.Proofs.YtpnpmeogffodgaaDoor.Q
end
