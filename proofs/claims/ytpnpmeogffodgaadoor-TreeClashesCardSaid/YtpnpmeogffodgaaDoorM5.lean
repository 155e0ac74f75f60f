/- Several texts in one, in build order. What they prove, each by its own first remark:
Written by our own copy of a printing program (a twelfth state) out of the translation. Not trusted: Lean checks it.
Of PTreeA what this claim needs.
From the rows' facts on arguments to what the plain laws ask.
Of PChecks what this claim needs.
Of the kit's printed words (HMem) those that this claim's texts need.
attestorref07.Clash by hand: what it computes, and its contract. -/
import Derived.Test.YtpnpmeogffodgaaDoorM2
import Derived.Test.YtpnpmeogffodgaaDoorM3
import Derived.Test.YtpnpmeogffodgaaDoorM4
section
namespace Go.Proofs.YtpnpmeogffodgaaDoor.Q
open Go.RowKit Go.Proofs.YtpnpmeogffodgaaDoorW.PrintWords Go.Proofs.YtpnpmeogffodgaaDoorW.PrintLast Go.Proofs.YtpnpmeogffodgaaDoorW.PrintMore
attribute [local go_sem] max2_int min2_int max_two min_two max_three min_three max_four min_four run_store_fnV run_store_fnc run_store_nfn   -- for this text's walks alone
set_option linter.unusedVariables false
set_option linter.unusedSimpArgs false

abbrev z25_0_ := zb 9 0
abbrev z25_1_ := zb 9 1
abbrev z25_2_ := zb 9 5
abbrev z25_3_ := zb 9 13
abbrev z25_4_ := zb 9 29
abbrev z25_5_ := zb 9 31
abbrev z25_6_ := zb 9 63
abbrev z25_7_ := zb 9 255
abbrev z25_8_ := zb 9 127
abbrev z25_9_ := zb 9 191
abbrev z25_10_ := zb 9 511
/-! ### attestorref07_Climb: function 25 -/
mutual
def attestorref07_Climb.j0 : Nat → Int → Int → List (S36) → Bool → Int → Int → Option (Int × Int)
  | 0, _, _, _, _, _, _ => none
  | k + 1, x0, x1, x3, cG, bv, bw => if cG = true then (some (0, 0)) else (attestorref07_Climb.l0 k x0 x1 x3 0 bv bw)
def attestorref07_Climb.l0 : Nat → Int → Int → List (S36) → Int → Int → Int → Option (Int × Int)
  | 0, _, _, _, _, _, _ => none
  | k + 1, x0, x1, x3, bn, bh, bi => if bn < (x3.length : Int) then (if 0 ≤ bn then ((attestorref07_pair.f x1 bh bi ((rd_T36 x3 bn).f0) ((rd_T36 x3 bn).f1)).bind fun ba => ((attestorref06_Node.f k x0 ba.1 ba.2.1 ba.2.2.1 ba.2.2.2).bind fun aV => (attestorref07_Climb.l0 k x0 (wrap64 (Int.tdiv x1 2)) x3 (wrap64 (bn + 1)) aV.1 aV.2))) else (none)) else (some (bh, bi))
end
def attestorref07_Climb.f (k : Nat) (a0 : Int) (a1 : Int) (al : Int) (ao : Int) (l3 : List (S36)) : Option (Int × Int) := (attestorref01_Valid.f a0).bind fun bd => (if bd = true then (if a1 < 0 then (attestorref07_Climb.j0 k a0 a1 l3 true al ao) else (if (l3.length : Int) > 18 then (attestorref07_Climb.j0 k a0 a1 l3 true al ao) else ((attestorref07_Proper.f a0 al ao).bind fun aT => (if aT = true then ((attestorref07_All.f k a0 l3).bind fun aI => (attestorref07_Climb.j0 k a0 a1 l3 (!aI) al ao)) else (attestorref07_Climb.j0 k a0 a1 l3 true al ao))))) else (attestorref07_Climb.j0 k a0 a1 l3 true al ao))
theorem attestorref07_Climb.mono_l : ∀ k, (∀ y0 y1 y2 y3 y4 y5, LeO (attestorref07_Climb.j0 k y0 y1 y2 y3 y4 y5) (attestorref07_Climb.j0 (k + 1) y0 y1 y2 y3 y4 y5)) ∧ (∀ y0 y1 y2 y3 y4 y5, LeO (attestorref07_Climb.l0 k y0 y1 y2 y3 y4 y5) (attestorref07_Climb.l0 (k + 1) y0 y1 y2 y3 y4 y5))
  | 0 => ⟨fun _ _ _ _ _ _ r h => by simp [attestorref07_Climb.j0] at h, fun _ _ _ _ _ _ r h => by simp [attestorref07_Climb.l0] at h⟩
  | k + 1 => by
    obtain ⟨ih0, ih1⟩ := attestorref07_Climb.mono_l k
    refine ⟨?_, ?_⟩
    · intro y0 y1 y2 y3 y4 y5
      unfold attestorref07_Climb.j0
      repeat' first
      | (with_reducible exact ih0 _ _ _ _ _ _)
      | (with_reducible exact ih1 _ _ _ _ _ _)
      | (with_reducible exact attestorref06_Node.mono _ _ _ _ _ _)
      | (with_reducible exact attestorref07_All.mono _ _ _)
      | (with_reducible exact LeO.refl _)
      | (with_reducible exact LeO.none _)
      | (with_reducible refine LeO.ite ?_ ?_)
      | (with_reducible refine LeO.bind ?_ (fun _ => ?_))
      | exact ih0 _ _ _ _ _ _
      | exact ih1 _ _ _ _ _ _
      | exact attestorref06_Node.mono _ _ _ _ _ _
      | exact attestorref07_All.mono _ _ _
      | exact LeO.none _
      | refine LeO.ite ?_ ?_
      | refine LeO.bind ?_ (fun _ => ?_)
    · intro y0 y1 y2 y3 y4 y5
      unfold attestorref07_Climb.l0
      repeat' first
      | (with_reducible exact ih0 _ _ _ _ _ _)
      | (with_reducible exact ih1 _ _ _ _ _ _)
      | (with_reducible exact attestorref06_Node.mono _ _ _ _ _ _)
      | (with_reducible exact attestorref07_All.mono _ _ _)
      | (with_reducible exact LeO.refl _)
      | (with_reducible exact LeO.none _)
      | (with_reducible refine LeO.ite ?_ ?_)
      | (with_reducible refine LeO.bind ?_ (fun _ => ?_))
      | exact ih0 _ _ _ _ _ _
      | exact ih1 _ _ _ _ _ _
      | exact attestorref06_Node.mono _ _ _ _ _ _
      | exact attestorref07_All.mono _ _ _
      | exact LeO.none _
      | refine LeO.ite ?_ ?_
      | refine LeO.bind ?_ (fun _ => ?_)
theorem attestorref07_Climb.mono : ∀ a0 a1 a2 a3 a4 k, LeO (attestorref07_Climb.f k a0 a1 a2 a3 a4) (attestorref07_Climb.f (k + 1) a0 a1 a2 a3 a4) := by
  intro a0 a1 a2 a3 a4 k
  obtain ⟨ih0, ih1⟩ := attestorref07_Climb.mono_l k
  unfold attestorref07_Climb.f
  repeat' first
      | (with_reducible exact ih0 _ _ _ _ _ _)
      | (with_reducible exact ih1 _ _ _ _ _ _)
      | (with_reducible exact attestorref06_Node.mono _ _ _ _ _ _)
      | (with_reducible exact attestorref07_All.mono _ _ _)
      | (with_reducible exact LeO.refl _)
      | (with_reducible exact LeO.none _)
      | (with_reducible refine LeO.ite ?_ ?_)
      | (with_reducible refine LeO.bind ?_ (fun _ => ?_))
      | exact ih0 _ _ _ _ _ _
      | exact ih1 _ _ _ _ _ _
      | exact attestorref06_Node.mono _ _ _ _ _ _
      | exact attestorref07_All.mono _ _ _
      | exact LeO.none _
      | refine LeO.ite ?_ ?_
      | refine LeO.bind ?_ (fun _ => ?_)
def attestorref07_Climb.T7 : Bool × List (List Nat × List Nat) := (true, [([], []), ([], []), ([], []), ([], []), ([2, 3], [2, 3]), ([4], [4]), ([0, 1, 5], [0, 1, 5]), ([], []), ([7, 6, 6, 0, 1, 2, 3, 4, 5, 6, 7], [6, 7])])
def attestorref07_Climb.B7 : List Nat := [0, 0, 0, 0, 12, 28, 63, 0, 255]
theorem attestorref07_Climb.tab7 : rtab .any (opsOf Tryd.f25 7) = attestorref07_Climb.T7 := by kernel_rfl
theorem attestorref07_Climb.bits7 : waitsOk attestorref07_Climb.T7.2 attestorref07_Climb.B7 = true := by kernel_rfl
set_option maxHeartbeats 8000000 in
set_option maxRecDepth 100000 in
theorem attestorref07_Climb.calls (k : Nat) (a0 : Int) (a1 : Int) (al : Int) (ao : Int) (A3 : Option Addr) (c3 : Nat) (l3 : List (S36)) (r1 : Int) (r2 : Int) (w : World) (bD : Kd.C k36 w A3 l3.length l3) (bE : l3.length ≤ c3) (h : attestorref07_Climb.f k a0 a1 al ao l3 = some (r1, r2)) :
  Calls Tryd.prog 25 #[.int .i64 a0, .int .i64 a1, .agg #[.int .u64 al, .int .u64 ao], .slice A3 l3.length c3] w fun e w' => e = .returned (.agg #[.int .u64 r1, .int .u64 r2]) ∧ Below w.heap.size w w' := by
 have hu36 := Tryd.underlying36
 have hu48 := Tryd.underlying48
 have bF := aj bD
 have cH := aj bE
 clear bD bE
 have HB := aj (Below.refl w.heap.size w)
 have H : ((attestorref01_Valid.f a0).bind fun bd => (if bd = true then (if a1 < 0 then (attestorref07_Climb.j0 k a0 a1 l3 true al ao) else (if (l3.length : Int) > 18 then (attestorref07_Climb.j0 k a0 a1 l3 true al ao) else ((attestorref07_Proper.f a0 al ao).bind fun aT => (if aT = true then ((attestorref07_All.f k a0 l3).bind fun aI => (attestorref07_Climb.j0 k a0 a1 l3 (!aI) al ao)) else (attestorref07_Climb.j0 k a0 a1 l3 true al ao))))) else (attestorref07_Climb.j0 k a0 a1 l3 true al ao))) = some (r1, r2) := h
 clear h
 have bx := aj H
 clear H
 go_enter Tryd.func25, Tryd.ntmps25
 go_upto_region 1 with (first | ((with_reducible refine gate_dst (N := 6) rfl ?_); (try (refine gate_guard (by rfl) ?_; dsimp only)); refine box_event ?hg (N := 6) ?hd (cs := #[.int .u64 al, .int .u64 ao]) (t := 36) ?hr ?_; (case hd => rfl); (case hg => rfl); (case hr => first | (go_simp; done) | (go_simp; rfl)); intro ar hg w6 hbox hb; have av := aj (below_step HB.out hb); have aw := aj (hbox); have aF := aj ((by rw [hg]; exact (below_size HB.out) : w.heap.size ≤ ar)); clear HB; have HB := av; have aa := aw; have aW := aF; clear av aw aF; clear hb hbox hg) | ((with_reducible refine gate_dst (N := 8) rfl ?_); (try (refine gate_guard (by rfl) ?_; dsimp only)); refine box_event ?hg (N := 8) ?hd (cs := #[.int .u64 0, .int .u64 0]) (t := 36) ?hr ?_; (case hd => rfl); (case hg => rfl); (case hr => first | (go_simp; done) | (go_simp; rfl)); intro au hg w7 hbox hb; have av := aj (blk_below aa.out hb); have aw := aj (below_step HB.out hb); have ax := aj (hbox); have aO := aj ((by rw [hg]; exact (below_size HB.out) : w.heap.size ≤ au)); have aP := aj ((by rw [hg]; exact Nat.ne_of_lt (blk_lt aa.out) : ar ≠ au)); have aQ := aj ((by rw [hg]; exact Nat.ne_of_gt (blk_lt aa.out) : au ≠ ar)); clear aa; clear HB; have aa := av; have HB := aw; have ab := ax; have aX := aO; have aY := aP; have aZ := aQ; clear av aw ax aO aP aQ; clear hb hbox hg))
 (try simp only [Act.put, sa_, sb_, sc_])
 go_cut [35] (fun cI wc => ∃ (kq : Nat) (bb : Bool), cI = .bool bb ∧ Aside0 (attestorref07_Climb.j0 kq a0 a1 l3 bb al ao = some (r1, r2)) ∧ Aside0 (kq ≤ k) ∧ Aside0 (wc.heap[ar]? = some (.cells #[.int .u64 al, .int .u64 ao] 36 (0, 0))) ∧ Aside0 (wc.heap[au]? = some (.cells #[.int .u64 0, .int .u64 0] 36 (0, 0))) ∧ Aside0 (Below w.heap.size w wc))
 case first =>
  have H := bx.out
  clear bx
  replace H := Option.bind_eq_some_iff.mp H
  obtain ⟨bd, bG, H⟩ := H
  have A8 := aj bG
  clear bG
  by_cases c9 : bd = true
  ·subst c9
   have H1 : (if a1 < 0 then (attestorref07_Climb.j0 k a0 a1 l3 true al ao) else (if (l3.length : Int) > 18 then (attestorref07_Climb.j0 k a0 a1 l3 true al ao) else ((attestorref07_Proper.f a0 al ao).bind fun aT => (if aT = true then ((attestorref07_All.f k a0 l3).bind fun aI => (attestorref07_Climb.j0 k a0 a1 l3 (!aI) al ao)) else (attestorref07_Climb.j0 k a0 a1 l3 true al ao))))) = some (r1, r2) := by rw [if_pos rfl] at H; exact H
   clear H
   have H := H1
   clear H1
   by_cases c10 : a1 < 0
   ·rw [if_pos c10] at H
    have c10b0 : decide (a1 < 0) = true := decide_eq_true c10
    clear c10
    (first | rw [c10b0] | (simp only [i64_w, i32_w]; rw [c10b0]) | skip)
    have H' := aj H
    clear H
    go_wp2_with (first | ((with_reducible refine gate_callee (f := 42) rfl ?_); refine goesL_ (some 13) rfl rfl Tryd.func42 (by kernel_rfl) rfl #[.int .i64 a0] rfl (by (try simp only [List.map_toArray, List.map_cons, List.map_nil]); first | done | rfl | (go_simp; done)) ?_; (with_reducible refine (attestorref01_Valid.calls a0 true _ A8.out).mono ?_); rintro e w' ⟨rfl, ⟨nd, rfl⟩⟩; refine ⟨_, rfl, ?_⟩))
    go_meet
    case rel => exact ⟨_, (true), (by first | rfl | simp), H', ⟨by first | omega | exact Nat.le_refl _⟩, ⟨by exact aa.out⟩, ⟨by exact ab.out⟩, ⟨(by first | exact HB.out | exact below_drew1 HB.out | exact pw_below_drewN HB.out _)⟩⟩
   ·rw [if_neg c10] at H
    have c10b0 : decide (a1 < 0) = false := decide_eq_false c10
    clear c10
    (first | rw [c10b0] | (simp only [i64_w, i32_w]; rw [c10b0]) | skip)
    by_cases bj : (l3.length : Int) > 18
    ·rw [if_pos bj] at H
     have c11b0 : decide (18 < (l3.length : Int)) = true := decide_eq_true bj
     have c11b1 : decide (18 < l3.length) = true := decide_eq_true (by omega)
     clear bj
     have H' := aj H
     clear H
     go_wp2_with (first | ((with_reducible refine gate_callee (f := 42) rfl ?_); refine goesL_ (some 13) rfl rfl Tryd.func42 (by kernel_rfl) rfl #[.int .i64 a0] rfl (by (try simp only [List.map_toArray, List.map_cons, List.map_nil]); first | done | rfl | (go_simp; done)) ?_; (with_reducible refine (attestorref01_Valid.calls a0 true _ A8.out).mono ?_); rintro e w' ⟨rfl, ⟨nd, rfl⟩⟩; refine ⟨_, rfl, ?_⟩))
     go_meet
     case rel => exact ⟨_, (true), (by first | rfl | simp), H', ⟨by first | omega | exact Nat.le_refl _⟩, ⟨by exact aa.out⟩, ⟨by exact ab.out⟩, ⟨(by first | exact HB.out | exact below_drew1 HB.out | exact pw_below_drewN HB.out _)⟩⟩
    ·rw [if_neg bj] at H
     have c11b0 : decide (18 < (l3.length : Int)) = false := decide_eq_false bj
     have c11b1 : decide (18 < l3.length) = false := decide_eq_false (by omega)
     clear bj
     replace H := Option.bind_eq_some_iff.mp H
     obtain ⟨aT, bz, H⟩ := H
     have bH := aj bz
     clear bz
     by_cases br : aT = true
     ·subst br
      have H1 : ((attestorref07_All.f k a0 l3).bind fun aI => (attestorref07_Climb.j0 k a0 a1 l3 (!aI) al ao)) = some (r1, r2) := by rw [if_pos rfl] at H; exact H
      clear H
      have H := H1
      clear H1
      replace H := Option.bind_eq_some_iff.mp H
      obtain ⟨aI, bA, H⟩ := H
      have cJ := aj bA
      clear bA
      have H' := aj H
      clear H
      go_wp2_with (first | ((with_reducible refine gate_callee (f := 42) rfl ?_); refine goesL_ (some 13) rfl rfl Tryd.func42 (by kernel_rfl) rfl #[.int .i64 a0] rfl (by (try simp only [List.map_toArray, List.map_cons, List.map_nil]); first | done | rfl | (go_simp; done)) ?_; (with_reducible refine (attestorref01_Valid.calls a0 true _ A8.out).mono ?_); rintro e w' ⟨rfl, ⟨nd, rfl⟩⟩; refine ⟨_, rfl, ?_⟩; have cO := aY.out; have cP := aZ.out; have bO : w7.cell? ⟨ar, 0, none⟩ = some (.int .u64 al) := bq_ aa 0; have bP : w7.cell? ⟨ar, 1, none⟩ = some (.int .u64 ao) := bq_ aa 1; have bQ := blk_frozen aa.out 0; have bR := blk_frozen aa.out 1) | (go_at_call 49; (with_reducible refine (attestorref07_Proper.calls a0 al ao true _ bH.out).mono ?_); rintro e c0 ⟨rfl, hb⟩; have av := aj (blk_below (by exact aa.out) hb); have aw := aj (blk_below (by exact ab.out) hb); have ax := aj (below_step (by first | exact HB.out | exact below_drew1 HB.out | exact pw_below_drewN HB.out _) hb); clear aa; clear ab; clear HB; have aa := av; have ab := aw; have HB := ax; clear av aw ax; (try clear hb); (try clear hb2); (try clear hk); (try clear hi)) | (go_at_call 43; (with_reducible refine (attestorref07_All.calls k a0 _ _ l3 aI _ ?side1 ?side2 cJ.out).mono ?_); (case side1 => exact (Kd.C_below bF.out HB.out)); (case side2 => exact cH.out); rintro e da ⟨rfl, hb⟩; have av := aj (blk_below (by exact aa.out) hb); have aw := aj (blk_below (by exact ab.out) hb); have ax := aj (below_step (by first | exact HB.out | exact below_drew1 HB.out | exact pw_below_drewN HB.out _) hb); clear aa; clear ab; clear HB; have aa := av; have ab := aw; have HB := ax; clear av aw ax; (try clear hb); (try clear hb2); (try clear hk); (try clear hi)))
      go_meet
      case rel => exact ⟨_, (!aI), (by first | rfl | simp), H', ⟨by first | omega | exact Nat.le_refl _⟩, ⟨by exact aa.out⟩, ⟨by exact ab.out⟩, ⟨HB.out⟩⟩
     ·replace br := Bool.eq_false_iff.mpr br
      subst br
      have H1 : (attestorref07_Climb.j0 k a0 a1 l3 true al ao) = some (r1, r2) := by rw [if_neg (show ¬ (false = true) by decide)] at H; exact H
      clear H
      have H := H1
      clear H1
      have H' := aj H
      clear H
      go_wp2_with (first | ((with_reducible refine gate_callee (f := 42) rfl ?_); refine goesL_ (some 13) rfl rfl Tryd.func42 (by kernel_rfl) rfl #[.int .i64 a0] rfl (by (try simp only [List.map_toArray, List.map_cons, List.map_nil]); first | done | rfl | (go_simp; done)) ?_; (with_reducible refine (attestorref01_Valid.calls a0 true _ A8.out).mono ?_); rintro e w' ⟨rfl, ⟨nd, rfl⟩⟩; refine ⟨_, rfl, ?_⟩; have cQ := aY.out; have cR := aZ.out; have bS : w7.cell? ⟨ar, 0, none⟩ = some (.int .u64 al) := bq_ aa 0; have bT : w7.cell? ⟨ar, 1, none⟩ = some (.int .u64 ao) := bq_ aa 1; have bU := blk_frozen aa.out 0; have bV := blk_frozen aa.out 1) | (go_at_call 49; (with_reducible refine (attestorref07_Proper.calls a0 al ao false _ bH.out).mono ?_); rintro e db ⟨rfl, hb⟩; have av := aj (blk_below (by exact aa.out) hb); have aw := aj (blk_below (by exact ab.out) hb); have ax := aj (below_step (by first | exact HB.out | exact below_drew1 HB.out | exact pw_below_drewN HB.out _) hb); clear aa; clear ab; clear HB; have aa := av; have ab := aw; have HB := ax; clear av aw ax; (try clear hb); (try clear hb2); (try clear hk); (try clear hi)))
      go_meet
      case rel => exact ⟨_, (true), (by first | rfl | simp), H', ⟨by first | omega | exact Nat.le_refl _⟩, ⟨by exact aa.out⟩, ⟨by exact ab.out⟩, ⟨HB.out⟩⟩
  ·replace c9 := Bool.eq_false_iff.mpr c9
   subst c9
   have H1 : (attestorref07_Climb.j0 k a0 a1 l3 true al ao) = some (r1, r2) := by rw [if_neg (show ¬ (false = true) by decide)] at H; exact H
   clear H
   have H := H1
   clear H1
   have H' := aj H
   clear H
   go_wp2_with (first | ((with_reducible refine gate_callee (f := 42) rfl ?_); refine goesL_ (some 13) rfl rfl Tryd.func42 (by kernel_rfl) rfl #[.int .i64 a0] rfl (by (try simp only [List.map_toArray, List.map_cons, List.map_nil]); first | done | rfl | (go_simp; done)) ?_; (with_reducible refine (attestorref01_Valid.calls a0 false _ A8.out).mono ?_); rintro e w' ⟨rfl, ⟨nd, rfl⟩⟩; refine ⟨_, rfl, ?_⟩))
   go_meet
   case rel => exact ⟨_, (true), (by first | rfl | simp), H', ⟨by first | omega | exact Nat.le_refl _⟩, ⟨by exact aa.out⟩, ⟨by exact ab.out⟩, ⟨(by first | exact HB.out | exact below_drew1 HB.out | exact pw_below_drewN HB.out _)⟩⟩
 case rest =>
  clear bx
  obtain ⟨kq, bb, rfl, HA, bI, aa, ab, HB⟩ := hcut
  cases kq with
  | zero => exact absurd HA.out (by simp [attestorref07_Climb.j0])
  | succ kj4 =>
   have H := HA.out
   clear HA
   simp only [attestorref07_Climb.j0] at H
   by_cases bs : bb = true
   ·subst bs
    have H1 : (some (0, 0)) = some (r1, r2) := by rw [if_pos rfl] at H; exact H
    clear H
    have H := H1
    clear H1
    simp only [Option.some.injEq, Prod.mk.injEq] at H
    obtain ⟨rfl, rfl⟩ := H
    have bW : wc.cell? ⟨au, 0, none⟩ = some (.int .u64 0) := bq_ ab 0
    have bX : wc.cell? ⟨au, 1, none⟩ = some (.int .u64 0) := bq_ ab 1
    have bY := blk_frozen ab.out 0
    have bZ := blk_frozen ab.out 1
    go_wp2
    refine bodyPost_ret (results_cell_row rfl _ _ au 36 #[.int .u64 0, .int .u64 0] (0, 0) _ rfl (by refine blk_put (cs := #[.int .u64 0, .int .u64 0]) ?_ 1 _ rfl; refine blk_put (cs := #[.int .u64 0, .int .u64 0]) ?_ 0 _ rfl; exact ab.out) Tryd.underlying36 rfl (by kernel_rfl)) rfl ?_
    exact ⟨by first | rfl | (simp [errW_none, errW_some] <;> rfl) | (simp [*, errW_none, errW_some] <;> rfl), by repeat (first | (with_reducible first | exact HB.out | apply below_alloc | apply pw_below_drewN | apply below_drew1 | refine below_set ?_ aW.out | refine below_set ?_ aX.out) | exact HB.out)⟩
   ·replace bs := Bool.eq_false_iff.mpr bs
    subst bs
    have H1 : (attestorref07_Climb.l0 kj4 a0 a1 l3 0 al ao) = some (r1, r2) := by rw [if_neg (show ¬ (false = true) by decide)] at H; exact H
    clear H
    have H := H1
    clear H1
    have H' := aj H
    clear H
    have b0 : wc.cell? ⟨ar, 0, none⟩ = some (.int .u64 al) := bq_ aa 0
    have b1 : wc.cell? ⟨ar, 1, none⟩ = some (.int .u64 ao) := bq_ aa 1
    have b2 := blk_frozen aa.out 0
    have b3 := blk_frozen aa.out 1
    go_wp2_with (first | ((with_reducible refine gate_dst (N := 9) rfl ?_); (try (refine gate_guard (by rfl) ?_; dsimp only)); refine box_event ?hg (N := 9) ?hd (cs := #[.int .u64 0, .int .u64 0]) (t := 36) ?hr ?_; (case hd => rfl); (case hg => rfl); (case hr => first | (go_simp; done) | (go_simp; rfl)); intro ap hg bJ hbox hb; have av := aj (blk_below aa.out hb); have aw := aj (blk_below ab.out hb); have ax := aj (below_step HB.out hb); have aF := aj (hbox); have aP := aj ((by rw [hg]; exact (below_size HB.out) : w.heap.size ≤ ap)); have aQ := aj ((by rw [hg]; exact Nat.ne_of_lt (blk_lt aa.out) : ar ≠ ap)); have a5 := aj ((by rw [hg]; exact Nat.ne_of_gt (blk_lt aa.out) : ap ≠ ar)); have a6 := aj ((by rw [hg]; exact Nat.ne_of_lt (blk_lt ab.out) : au ≠ ap)); have a7 := aj ((by rw [hg]; exact Nat.ne_of_gt (blk_lt ab.out) : ap ≠ au)); clear aa; clear ab; clear HB; have aa := av; have ab := aw; have HB := ax; have ad := aF; have bc := aP; have aD := aQ; have a8 := a5; have aE := a6; have a9 := a7; clear av aw ax aF aP aQ a5 a6 a7; clear hb hbox hg; have cS := a8.out; have cT := aD.out; have cU := a9.out; have cV := aE.out; have b4 : bJ.cell? ⟨ap, 0, none⟩ = some (.int .u64 0) := bq_ ad 0; have b5 : bJ.cell? ⟨ap, 1, none⟩ = some (.int .u64 0) := bq_ ad 1; have b6 := blk_frozen ad.out 0; have b7 := blk_frozen ad.out 1))
    go_loopg [1, 10] kj4 (fun kq v1 cK w' => ∃ (aJ : Int) (ae : Int) (ai : Int) (ak : Int), v1 = .int .i64 aJ ∧ cK = .int .i64 ae ∧ Aside0 (attestorref07_Climb.l0 kq a0 aJ l3 ae ai ak = some (r1, r2)) ∧ Aside0 (kq ≤ kj4) ∧ Aside0 (w'.heap[ar]? = some (.cells #[.int .u64 al, .int .u64 ao] 36 (0, 0))) ∧ Aside0 (w'.heap[au]? = some (.cells #[.int .u64 0, .int .u64 0] 36 (0, 0))) ∧ Aside0 (w'.heap[ap]? = some (.cells #[.int .u64 ai, .int .u64 ak] 36 (0, 0))) ∧ Aside0 (Below w.heap.size w w'))
    case atStart => exact ⟨(a1), (0), (al), (ao), (by first | rfl | simp), (by first | rfl | simp), H', ⟨Nat.le_refl _⟩, ⟨by refine blk_far ?_ aD.out _; refine blk_far ?_ aD.out _; exact aa.out⟩, ⟨by refine blk_far ?_ aE.out _; refine blk_far ?_ aE.out _; exact ab.out⟩, ⟨by refine blk_put (cs := #[.int .u64 al, .int .u64 0]) ?_ 1 _ rfl; refine blk_put (cs := #[.int .u64 0, .int .u64 0]) ?_ 0 _ rfl; exact ad.out⟩, ⟨by repeat (first | (with_reducible first | exact HB.out | apply below_alloc | apply pw_below_drewN | apply below_drew1 | refine below_set ?_ aW.out | refine below_set ?_ aX.out | refine below_set ?_ bc.out) | exact HB.out)⟩⟩
    case round =>
     clear H'
     obtain ⟨aJ, ae, ai, ak, rfl, rfl, HA, bK, aa, ab, ad, HB⟩ := hrel
     cases gk with
     | zero => exact absurd HA.out (by simp [attestorref07_Climb.l0])
     | succ k2 =>
      have H := HA.out
      clear HA
      simp only [attestorref07_Climb.l0] at H
      by_cases bl : ae < (l3.length : Int)
      ·rw [if_pos bl] at H
       have c31b0 : decide (ae < (l3.length : Int)) = true := decide_eq_true bl
       clear bl
       by_cases bu : 0 ≤ ae
       ·rw [if_pos bu] at H
        have c32b0 : decide (0 ≤ ae) = true := decide_eq_true bu
        clear bu
        replace H := Option.bind_eq_some_iff.mp H
        obtain ⟨⟨aK, aN, aR, aU⟩, bB, H⟩ := H
        replace H : ((attestorref06_Node.f k2 a0 aK aN aR aU).bind fun aV => (attestorref07_Climb.l0 k2 a0 (wrap64 (Int.tdiv aJ 2)) l3 (wrap64 (ae + 1)) aV.1 aV.2)) = some (r1, r2) := H
        have bL := aj bB
        clear bB
        replace H := Option.bind_eq_some_iff.mp H
        obtain ⟨⟨bm, bo⟩, bC, H⟩ := H
        replace H : (attestorref07_Climb.l0 k2 a0 (wrap64 (Int.tdiv aJ 2)) l3 (wrap64 (ae + 1)) bm bo) = some (r1, r2) := H
        have cL := aj bC
        clear bC
        have H' := aj H
        clear H
        try go_wp2
        have av := aj (blk_drew aa.out)
        have aw := aj (blk_drew ab.out)
        have ax := aj (blk_drew ad.out)
        have aF := aj (below_drew1 HB.out)
        clear aa
        clear ab
        clear ad
        clear HB
        have aa := av
        have ab := aw
        have ad := ax
        have HB := aF
        have bp : 0 ≤ (ae : Int) := of_decide_eq_true (by assumption)
        have bq : ae < (l3.length : Int) := of_decide_eq_true (by assumption)
        obtain ⟨aH, bN, aL, aM⟩ := at_T36 bF.out ae bp bq
        have af := aM
        have ag := aL
        cases bN
        replace aL := (HB.out.cell (World.block_lt_of_cell? w _ aL)).trans aL
        replace aM := (HB.out.cell (World.block_lt_of_cell? w _ aM)).trans aM
        replace bp := eq_true bp
        replace bq := eq_true bq
        refine start_ (n := 9) (S := fun w' => w'.cell? ⟨ap, 0, none⟩ = some (.int .u64 ai) ∧ w'.cell? ⟨ap, 1, none⟩ = some (.int .u64 ak) ∧ w'.cell? (aH.add ((ae).toNat * 2)) = some (.int .u64 ((rd_T36 l3 ae).f0)) ∧ w'.cell? ⟨(aH.add ((ae).toNat * 2)).block, (aH.add ((ae).toNat * 2)).off + 1, none⟩ = some (.int .u64 ((rd_T36 l3 ae).f1))) (ds := []) z25_0_ (by kernel_rfl) rfl rfl ⟨bq_ ad 0, bq_ ad 1, ((HB.out.cell (World.block_lt_of_cell? w _ ag)).trans ag), ((HB.out.cell (World.block_lt_of_cell? w _ af)).trans af)⟩ (fun hL => ?_); refine with_tabW attestorref07_Climb.tab7 attestorref07_Climb.bits7 (fun T_ W_ => ?_)
        generalize wr.drew = dc at aa ab ad HB aL aM hL ⊢
        refine pz_ 0 44 z25_1_ ?_
        refine pz_ 2 46 z25_2_ ?_
        refine pz_ 3 47 z25_3_ ?_
        refine pz_ 4 48 z25_4_ ?_
        refine tz_ 1 45 z25_5_ ?_
        refine tz_ 5 49 z25_6_ ?_
        refine join_ (σ := Nat) 1 z25_7_ (fun s_ => [(50, .agg #[.int .u64 aK, .int .u64 aN, .int .u64 aR, .int .u64 aU]), (11, .pointer (some ⟨s_, 0, none⟩))]) (fun s_ w' => (w'.cell? ⟨ap, 0, none⟩ = some (.int .u64 ai) ∧ w'.cell? ⟨ap, 1, none⟩ = some (.int .u64 ak) ∧ w'.cell? (aH.add ((ae).toNat * 2)) = some (.int .u64 ((rd_T36 l3 ae).f0)) ∧ w'.cell? ⟨(aH.add ((ae).toNat * 2)).block, (aH.add ((ae).toNat * 2)).off + 1, none⟩ = some (.int .u64 ((rd_T36 l3 ae).f1))) ∧ (w'.heap[ar]? = some (.cells #[.int .u64 al, .int .u64 ao] 36 (0, 0))) ∧ (w'.heap[au]? = some (.cells #[.int .u64 0, .int .u64 0] 36 (0, 0))) ∧ (w'.heap[ap]? = some (.cells #[.int .u64 ai, .int .u64 ak] 36 (0, 0))) ∧ (w'.heap[s_]? = some (.cells #[.int .u64 0, .int .u64 0, .int .u64 0, .int .u64 0] 48 (0, 0))) ∧ (w.heap.size ≤ s_) ∧ (w.heap.size ≤ s_) ∧ (ar ≠ s_) ∧ (s_ ≠ ar) ∧ (au ≠ s_) ∧ (s_ ≠ au) ∧ (ap ≠ s_) ∧ (s_ ≠ ap) ∧ (Below w.heap.size w w')) ?_ ?_
        rotate_left
        ·intro hCont
         refine two_ (i := 6) (j := 7) (Ni := some 50) (Nj := some 11) z25_8_ z25_9_ rfl rfl rfl rfl (two_of T_.out (by kernel_rfl)) (by decide) (by decide) (fun K hK => ?_) (fun K hK => ?_)
         ·skip
          refine goes_ Tryd.func50 (by kernel_rfl) rfl #[.int .i64 aJ, .agg #[.int .u64 ai, .int .u64 ak], .agg #[.int .u64 ((rd_T36 l3 ae).f0), .int .u64 ((rd_T36 l3 ae).f1)]] (by rfl) rfl rfl (by (try simp only [List.map_toArray, List.map_cons, List.map_nil]); first | done | rfl | (go_simp; done)) ?_
          with_reducible refine (attestorref07_pair.calls aJ ai ak ((rd_T36 l3 ae).f0) ((rd_T36 l3 ae).f1) aK aN aR aU _ bL.out).mono ?_
          rintro e cM ⟨rfl, hb⟩
          refine ⟨_, rfl, ?_⟩
          have av := aj (blk_below aa.out hb)
          have aw := aj (blk_below ab.out hb)
          have ax := aj (blk_below ad.out hb)
          have aF := aj (below_step HB.out hb)
          clear aa
          clear ab
          clear ad
          clear HB
          have aa := av
          have ab := aw
          have ad := ax
          have HB := aF
          refine hK.out _ _ ⟨bq_ ad 0, bq_ ad 1, ((HB.out.cell (World.block_lt_of_cell? w _ ag)).trans ag), ((HB.out.cell (World.block_lt_of_cell? w _ af)).trans af)⟩ (fun hL => ?_)
          clear hK K
          refine norm_ (a' := ?_) ?_ ?_
          rotate_left
          ·show Act.put _ (some 50) _ = _
           simp only [Act.put, sa_, sb_, sc_, i64_w, i32_w]
           rfl
          refine one_ (i := 7) (N := some 11) z25_7_ rfl rfl (on_ T_) (by decide) (fun K hK => ?_)
          refine box_step ?hg (N := 11) ?hd (cs := #[.int .u64 0, .int .u64 0, .int .u64 0, .int .u64 0]) (t := 48) ?hr ?_; (case hd => rfl); (case hg => rfl); (case hr => first | (go_simp; done) | (go_simp; rfl))
          intro ac hg cN hbox hb
          have av := aj (blk_below aa.out hb)
          have aw := aj (blk_below ab.out hb)
          have ax := aj (blk_below ad.out hb)
          have aF := aj (below_step HB.out hb)
          have aO := aj (hbox)
          have aP := aj ((by rw [hg]; exact (below_size HB.out) : w.heap.size ≤ ac))
          have aQ := aj ((by rw [hg]; exact (below_size HB.out) : w.heap.size ≤ ac))
          have a5 := aj ((by rw [hg]; exact Nat.ne_of_lt (blk_lt aa.out) : ar ≠ ac))
          have a6 := aj ((by rw [hg]; exact Nat.ne_of_gt (blk_lt aa.out) : ac ≠ ar))
          have a7 := aj ((by rw [hg]; exact Nat.ne_of_lt (blk_lt ab.out) : au ≠ ac))
          have be := aj ((by rw [hg]; exact Nat.ne_of_gt (blk_lt ab.out) : ac ≠ au))
          have bf := aj ((by rw [hg]; exact Nat.ne_of_lt (blk_lt ad.out) : ap ≠ ac))
          have bg := aj ((by rw [hg]; exact Nat.ne_of_gt (blk_lt ad.out) : ac ≠ ap))
          clear aa
          clear ab
          clear ad
          clear HB
          have aa := av
          have ab := aw
          have ad := ax
          have HB := aF
          have aq := aO
          have ah := aP
          have aS := aQ
          have ay := a5
          have az := a6
          have aA := a7
          have aB := be
          have am := bf
          have aC := bg
          clear hb hbox hg
          refine hK.out _ _ ⟨bq_ ad 0, bq_ ad 1, ((HB.out.cell (World.block_lt_of_cell? w _ ag)).trans ag), ((HB.out.cell (World.block_lt_of_cell? w _ af)).trans af)⟩ (fun hL => ?_)
          clear hK K
          refine norm_ (a' := ?_) ?_ ?_
          rotate_left
          ·show Act.put _ (some 11) _ = _
           simp only [Act.put, sa_, sb_, sc_, i64_w, i32_w]
           rfl
          exact norm_ (by simp only [putAll, Act.put, List.setIfInBounds_toArray, List.set_cons_zero, List.set_cons_succ]) (hCont (ac) _ ⟨hL, aa.out, ab.out, ad.out, aq.out, ah.out, aS.out, ay.out, az.out, aA.out, aB.out, am.out, aC.out, HB.out⟩)
         ·skip
          refine box_step ?hg (N := 11) ?hd (cs := #[.int .u64 0, .int .u64 0, .int .u64 0, .int .u64 0]) (t := 48) ?hr ?_; (case hd => rfl); (case hg => rfl); (case hr => first | (go_simp; done) | (go_simp; rfl))
          intro ac hg cM hbox hb
          have av := aj (blk_below aa.out hb)
          have aw := aj (blk_below ab.out hb)
          have ax := aj (blk_below ad.out hb)
          have aF := aj (below_step HB.out hb)
          have aO := aj (hbox)
          have aP := aj ((by rw [hg]; exact (below_size HB.out) : w.heap.size ≤ ac))
          have aQ := aj ((by rw [hg]; exact (below_size HB.out) : w.heap.size ≤ ac))
          have a5 := aj ((by rw [hg]; exact Nat.ne_of_lt (blk_lt aa.out) : ar ≠ ac))
          have a6 := aj ((by rw [hg]; exact Nat.ne_of_gt (blk_lt aa.out) : ac ≠ ar))
          have a7 := aj ((by rw [hg]; exact Nat.ne_of_lt (blk_lt ab.out) : au ≠ ac))
          have be := aj ((by rw [hg]; exact Nat.ne_of_gt (blk_lt ab.out) : ac ≠ au))
          have bf := aj ((by rw [hg]; exact Nat.ne_of_lt (blk_lt ad.out) : ap ≠ ac))
          have bg := aj ((by rw [hg]; exact Nat.ne_of_gt (blk_lt ad.out) : ac ≠ ap))
          clear aa
          clear ab
          clear ad
          clear HB
          have aa := av
          have ab := aw
          have ad := ax
          have HB := aF
          have aq := aO
          have ah := aP
          have aS := aQ
          have ay := a5
          have az := a6
          have aA := a7
          have aB := be
          have am := bf
          have aC := bg
          clear hb hbox hg
          refine hK.out _ _ ⟨bq_ ad 0, bq_ ad 1, ((HB.out.cell (World.block_lt_of_cell? w _ ag)).trans ag), ((HB.out.cell (World.block_lt_of_cell? w _ af)).trans af)⟩ (fun hL => ?_)
          clear hK K
          refine norm_ (a' := ?_) ?_ ?_
          rotate_left
          ·show Act.put _ (some 11) _ = _
           simp only [Act.put, sa_, sb_, sc_, i64_w, i32_w]
           rfl
          refine one_ (i := 6) (N := some 50) z25_7_ rfl rfl (on_ T_) (by decide) (fun K hK => ?_)
          refine goes_ Tryd.func50 (by kernel_rfl) rfl #[.int .i64 aJ, .agg #[.int .u64 ai, .int .u64 ak], .agg #[.int .u64 ((rd_T36 l3 ae).f0), .int .u64 ((rd_T36 l3 ae).f1)]] (by rfl) rfl rfl (by (try simp only [List.map_toArray, List.map_cons, List.map_nil]); first | done | rfl | (go_simp; done)) ?_
          with_reducible refine (attestorref07_pair.calls aJ ai ak ((rd_T36 l3 ae).f0) ((rd_T36 l3 ae).f1) aK aN aR aU _ bL.out).mono ?_
          rintro e cN ⟨rfl, hb⟩
          refine ⟨_, rfl, ?_⟩
          have av := aj (blk_below aa.out hb)
          have aw := aj (blk_below ab.out hb)
          have ax := aj (blk_below ad.out hb)
          have aF := aj (blk_below aq.out hb)
          have aO := aj (below_step HB.out hb)
          clear aa
          clear ab
          clear ad
          clear aq
          clear HB
          have aa := av
          have ab := aw
          have ad := ax
          have aq := aF
          have HB := aO
          refine hK.out _ _ ⟨bq_ ad 0, bq_ ad 1, ((HB.out.cell (World.block_lt_of_cell? w _ ag)).trans ag), ((HB.out.cell (World.block_lt_of_cell? w _ af)).trans af)⟩ (fun hL => ?_)
          clear hK K
          refine norm_ (a' := ?_) ?_ ?_
          rotate_left
          ·show Act.put _ (some 50) _ = _
           simp only [Act.put, sa_, sb_, sc_, i64_w, i32_w]
           rfl
          exact norm_ (by simp only [putAll, Act.put, List.setIfInBounds_toArray, List.set_cons_zero, List.set_cons_succ]) (hCont (ac) _ ⟨hL, aa.out, ab.out, ad.out, aq.out, ah.out, aS.out, ay.out, az.out, aA.out, aB.out, am.out, aC.out, HB.out⟩)
        rintro ac aG ⟨hS_, h0_, h1_, h2_, h3_, h4_, h5_, h6_, h7_, h8_, h9_, h10_, h11_, h12_⟩
        have av : Aside0 (aG.heap[ar]? = some (.cells #[.int .u64 al, .int .u64 ao] 36 (0, 0))) := ⟨h0_⟩
        have aw : Aside0 (aG.heap[au]? = some (.cells #[.int .u64 0, .int .u64 0] 36 (0, 0))) := ⟨h1_⟩
        have ax : Aside0 (aG.heap[ap]? = some (.cells #[.int .u64 ai, .int .u64 ak] 36 (0, 0))) := ⟨h2_⟩
        have aF : Aside0 (aG.heap[ac]? = some (.cells #[.int .u64 0, .int .u64 0, .int .u64 0, .int .u64 0] 48 (0, 0))) := ⟨h3_⟩
        have aO : Aside0 (w.heap.size ≤ ac) := ⟨h4_⟩
        have aP : Aside0 (w.heap.size ≤ ac) := ⟨h5_⟩
        have aQ : Aside0 (ar ≠ ac) := ⟨h6_⟩
        have a5 : Aside0 (ac ≠ ar) := ⟨h7_⟩
        have a6 : Aside0 (au ≠ ac) := ⟨h8_⟩
        have a7 : Aside0 (ac ≠ au) := ⟨h9_⟩
        have be : Aside0 (ap ≠ ac) := ⟨h10_⟩
        have bf : Aside0 (ac ≠ ap) := ⟨h11_⟩
        have bg : Aside0 (Below w.heap.size w aG) := ⟨h12_⟩
        clear aa
        clear ab
        clear ad
        clear HB
        clear h0_ h1_ h2_ h3_ h4_ h5_ h6_ h7_ h8_ h9_ h10_ h11_ h12_
        have aa := av
        have ab := aw
        have ad := ax
        have aq := aF
        have ah := aO
        have aS := aP
        have ay := aQ
        have az := a5
        have aA := a6
        have aB := a7
        have am := be
        have aC := bf
        have HB := bg
        have hL : aG.cell? ⟨ap, 0, none⟩ = some (.int .u64 ai) ∧ aG.cell? ⟨ap, 1, none⟩ = some (.int .u64 ak) ∧ aG.cell? (aH.add ((ae).toNat * 2)) = some (.int .u64 ((rd_T36 l3 ae).f0)) ∧ aG.cell? ⟨(aH.add ((ae).toNat * 2)).block, (aH.add ((ae).toNat * 2)).off + 1, none⟩ = some (.int .u64 ((rd_T36 l3 ae).f1)) := hS_
        refine norm_ (a' := ?_) ?_ ?_
        rotate_left
        ·simp only [putAll, Act.put, List.setIfInBounds_toArray, List.set_cons_zero, List.set_cons_succ]
         rfl
        refine one_ (i := 8) (N := none) z25_10_ rfl rfl (on_ T_) (by decide) (fun K hK => ?_)
        have hs39 : aG.cell? ⟨ac, 0, none⟩ = some (.int .u64 0) := bq_ aq 0
        have hfs39 := blk_frozen aq.out 0
        have b8 := az.out
        have b9 := aB.out
        have ca := aC.out
        have hs40 : aG.cell? ⟨ac, 1, none⟩ = some (.int .u64 0) := bq_ aq 1
        have hfs40 := blk_frozen aq.out 1
        have cb := az.out
        have cc := aB.out
        have cd := aC.out
        have hs41 : aG.cell? ⟨ac, 2, none⟩ = some (.int .u64 0) := bq_ aq 2
        have hfs41 := blk_frozen aq.out 2
        have ce := az.out
        have cf := aB.out
        have cg := aC.out
        have hs42 : aG.cell? ⟨ac, 3, none⟩ = some (.int .u64 0) := bq_ aq 3
        have hfs42 := blk_frozen aq.out 3
        have ci := az.out
        have cj := aB.out
        have ck := aC.out
        refine skip_ (w1 := ?_) (by rfl) rfl ?_ ?_
        rotate_left
        ·go_simp
         rfl
        refine hK.out _ _ ⟨((cell_far (p := ⟨ac, _, none⟩) am.out _).trans (((cell_far (p := ⟨ac, _, none⟩) am.out _).trans (((cell_far (p := ⟨ac, _, none⟩) am.out _).trans (((cell_far (p := ⟨ac, _, none⟩) am.out _).trans (hL.1)))))))), ((cell_far (p := ⟨ac, _, none⟩) am.out _).trans (((cell_far (p := ⟨ac, _, none⟩) am.out _).trans (((cell_far (p := ⟨ac, _, none⟩) am.out _).trans (((cell_far (p := ⟨ac, _, none⟩) am.out _).trans (hL.2.1)))))))), ((cell_far (p := ⟨ac, _, none⟩) (by first | exact Nat.ne_of_lt (Nat.lt_of_lt_of_le (by have := World.block_lt_of_cell? _ _ ag; first | rwa [add_block] at this | exact this) ah.out) | (rw [add_block]; exact Nat.ne_of_lt (Nat.lt_of_lt_of_le (by have := World.block_lt_of_cell? _ _ ag; first | rwa [add_block] at this | exact this) ah.out)) | (show (Addr.add _ _).block ≠ _; rw [add_block]; exact Nat.ne_of_lt (Nat.lt_of_lt_of_le (by have := World.block_lt_of_cell? _ _ ag; first | rwa [add_block] at this | exact this) ah.out)) | (dsimp only; exact Nat.ne_of_lt (Nat.lt_of_lt_of_le (by have := World.block_lt_of_cell? _ _ ag; first | rwa [add_block] at this | exact this) ah.out))) _).trans (((cell_far (p := ⟨ac, _, none⟩) (by first | exact Nat.ne_of_lt (Nat.lt_of_lt_of_le (by have := World.block_lt_of_cell? _ _ ag; first | rwa [add_block] at this | exact this) ah.out) | (rw [add_block]; exact Nat.ne_of_lt (Nat.lt_of_lt_of_le (by have := World.block_lt_of_cell? _ _ ag; first | rwa [add_block] at this | exact this) ah.out)) | (show (Addr.add _ _).block ≠ _; rw [add_block]; exact Nat.ne_of_lt (Nat.lt_of_lt_of_le (by have := World.block_lt_of_cell? _ _ ag; first | rwa [add_block] at this | exact this) ah.out)) | (dsimp only; exact Nat.ne_of_lt (Nat.lt_of_lt_of_le (by have := World.block_lt_of_cell? _ _ ag; first | rwa [add_block] at this | exact this) ah.out))) _).trans (((cell_far (p := ⟨ac, _, none⟩) (by first | exact Nat.ne_of_lt (Nat.lt_of_lt_of_le (by have := World.block_lt_of_cell? _ _ ag; first | rwa [add_block] at this | exact this) ah.out) | (rw [add_block]; exact Nat.ne_of_lt (Nat.lt_of_lt_of_le (by have := World.block_lt_of_cell? _ _ ag; first | rwa [add_block] at this | exact this) ah.out)) | (show (Addr.add _ _).block ≠ _; rw [add_block]; exact Nat.ne_of_lt (Nat.lt_of_lt_of_le (by have := World.block_lt_of_cell? _ _ ag; first | rwa [add_block] at this | exact this) ah.out)) | (dsimp only; exact Nat.ne_of_lt (Nat.lt_of_lt_of_le (by have := World.block_lt_of_cell? _ _ ag; first | rwa [add_block] at this | exact this) ah.out))) _).trans (((cell_far (p := ⟨ac, _, none⟩) (by first | exact Nat.ne_of_lt (Nat.lt_of_lt_of_le (by have := World.block_lt_of_cell? _ _ ag; first | rwa [add_block] at this | exact this) ah.out) | (rw [add_block]; exact Nat.ne_of_lt (Nat.lt_of_lt_of_le (by have := World.block_lt_of_cell? _ _ ag; first | rwa [add_block] at this | exact this) ah.out)) | (show (Addr.add _ _).block ≠ _; rw [add_block]; exact Nat.ne_of_lt (Nat.lt_of_lt_of_le (by have := World.block_lt_of_cell? _ _ ag; first | rwa [add_block] at this | exact this) ah.out)) | (dsimp only; exact Nat.ne_of_lt (Nat.lt_of_lt_of_le (by have := World.block_lt_of_cell? _ _ ag; first | rwa [add_block] at this | exact this) ah.out))) _).trans (hL.2.2.1)))))))), ((cell_far (p := ⟨ac, _, none⟩) (by first | exact Nat.ne_of_lt (Nat.lt_of_lt_of_le (by have := World.block_lt_of_cell? _ _ af; first | rwa [add_block] at this | exact this) ah.out) | (rw [add_block]; exact Nat.ne_of_lt (Nat.lt_of_lt_of_le (by have := World.block_lt_of_cell? _ _ af; first | rwa [add_block] at this | exact this) ah.out)) | (show (Addr.add _ _).block ≠ _; rw [add_block]; exact Nat.ne_of_lt (Nat.lt_of_lt_of_le (by have := World.block_lt_of_cell? _ _ af; first | rwa [add_block] at this | exact this) ah.out)) | (dsimp only; exact Nat.ne_of_lt (Nat.lt_of_lt_of_le (by have := World.block_lt_of_cell? _ _ af; first | rwa [add_block] at this | exact this) ah.out))) _).trans (((cell_far (p := ⟨ac, _, none⟩) (by first | exact Nat.ne_of_lt (Nat.lt_of_lt_of_le (by have := World.block_lt_of_cell? _ _ af; first | rwa [add_block] at this | exact this) ah.out) | (rw [add_block]; exact Nat.ne_of_lt (Nat.lt_of_lt_of_le (by have := World.block_lt_of_cell? _ _ af; first | rwa [add_block] at this | exact this) ah.out)) | (show (Addr.add _ _).block ≠ _; rw [add_block]; exact Nat.ne_of_lt (Nat.lt_of_lt_of_le (by have := World.block_lt_of_cell? _ _ af; first | rwa [add_block] at this | exact this) ah.out)) | (dsimp only; exact Nat.ne_of_lt (Nat.lt_of_lt_of_le (by have := World.block_lt_of_cell? _ _ af; first | rwa [add_block] at this | exact this) ah.out))) _).trans (((cell_far (p := ⟨ac, _, none⟩) (by first | exact Nat.ne_of_lt (Nat.lt_of_lt_of_le (by have := World.block_lt_of_cell? _ _ af; first | rwa [add_block] at this | exact this) ah.out) | (rw [add_block]; exact Nat.ne_of_lt (Nat.lt_of_lt_of_le (by have := World.block_lt_of_cell? _ _ af; first | rwa [add_block] at this | exact this) ah.out)) | (show (Addr.add _ _).block ≠ _; rw [add_block]; exact Nat.ne_of_lt (Nat.lt_of_lt_of_le (by have := World.block_lt_of_cell? _ _ af; first | rwa [add_block] at this | exact this) ah.out)) | (dsimp only; exact Nat.ne_of_lt (Nat.lt_of_lt_of_le (by have := World.block_lt_of_cell? _ _ af; first | rwa [add_block] at this | exact this) ah.out))) _).trans (((cell_far (p := ⟨ac, _, none⟩) (by first | exact Nat.ne_of_lt (Nat.lt_of_lt_of_le (by have := World.block_lt_of_cell? _ _ af; first | rwa [add_block] at this | exact this) ah.out) | (rw [add_block]; exact Nat.ne_of_lt (Nat.lt_of_lt_of_le (by have := World.block_lt_of_cell? _ _ af; first | rwa [add_block] at this | exact this) ah.out)) | (show (Addr.add _ _).block ≠ _; rw [add_block]; exact Nat.ne_of_lt (Nat.lt_of_lt_of_le (by have := World.block_lt_of_cell? _ _ af; first | rwa [add_block] at this | exact this) ah.out)) | (dsimp only; exact Nat.ne_of_lt (Nat.lt_of_lt_of_le (by have := World.block_lt_of_cell? _ _ af; first | rwa [add_block] at this | exact this) ah.out))) _).trans (hL.2.2.2))))))))⟩ (fun hL => ?_)
        clear hK K
        refine done_ (done_of T_.out (by kernel_rfl)) ?_
        have cl : aG.cell? ⟨ac, 0, none⟩ = some (.int .u64 0) := bq_ aq 0
        have cm : aG.cell? ⟨ac, 1, none⟩ = some (.int .u64 0) := bq_ aq 1
        have cn : aG.cell? ⟨ac, 2, none⟩ = some (.int .u64 0) := bq_ aq 2
        have co : aG.cell? ⟨ac, 3, none⟩ = some (.int .u64 0) := bq_ aq 3
        have cp := blk_frozen aq.out 0
        have cq := blk_frozen aq.out 1
        have cr := blk_frozen aq.out 2
        have ct := blk_frozen aq.out 3
        try go_wp2_with (first | ((with_reducible refine gate_callee (f := 44) rfl ?_); refine goesL_ (some 56) rfl rfl Tryd.func44 (by kernel_rfl) rfl #[.int .i64 a0, .agg #[.int .u64 aK, .int .u64 aN], .agg #[.int .u64 aR, .int .u64 aU]] rfl (by (try simp only [List.map_toArray, List.map_cons, List.map_nil]); first | done | rfl | (go_simp; done)) ?_; (with_reducible refine (attestorref06_Node.calls k2 a0 aK aN aR aU bm bo _ cL.out).mono ?_); rintro e bM ⟨rfl, hb⟩; refine ⟨_, rfl, ?_⟩; have av := aj (blk_below (g := ar) (o := .cells #[.int .u64 al, .int .u64 ao] 36 (0, 0)) (by refine blk_far ?_ ay.out _; refine blk_far ?_ ay.out _; refine blk_far ?_ ay.out _; refine blk_far ?_ ay.out _; exact aa.out) hb); have aw := aj (blk_below (g := au) (o := .cells #[.int .u64 0, .int .u64 0] 36 (0, 0)) (by refine blk_far ?_ aA.out _; refine blk_far ?_ aA.out _; refine blk_far ?_ aA.out _; refine blk_far ?_ aA.out _; exact ab.out) hb); have ax := aj (blk_below (g := ap) (o := .cells #[.int .u64 ai, .int .u64 ak] 36 (0, 0)) (by refine blk_far ?_ am.out _; refine blk_far ?_ am.out _; refine blk_far ?_ am.out _; refine blk_far ?_ am.out _; exact ad.out) hb); have aF := aj (blk_below (g := ac) (o := .cells #[.int .u64 aK, .int .u64 aN, .int .u64 aR, .int .u64 aU] 48 (0, 0)) (by refine blk_put (cs := #[.int .u64 aK, .int .u64 aN, .int .u64 aR, .int .u64 0]) ?_ 3 _ rfl; refine blk_put (cs := #[.int .u64 aK, .int .u64 aN, .int .u64 0, .int .u64 0]) ?_ 2 _ rfl; refine blk_put (cs := #[.int .u64 aK, .int .u64 0, .int .u64 0, .int .u64 0]) ?_ 1 _ rfl; refine blk_put (cs := #[.int .u64 0, .int .u64 0, .int .u64 0, .int .u64 0]) ?_ 0 _ rfl; exact aq.out) hb); have aO := aj (below_step (by repeat (first | (with_reducible first | exact HB.out | apply below_alloc | apply pw_below_drewN | apply below_drew1 | refine below_set ?_ aW.out | refine below_set ?_ aX.out | refine below_set ?_ bc.out | refine below_set ?_ aS.out) | exact HB.out)) hb); clear aa; clear ab; clear ad; clear aq; clear HB; have aa := av; have ab := aw; have ad := ax; have aq := aF; have HB := aO; have cW := a8.out; have cX := aD.out; have cY := a9.out; have cZ := aE.out; have cu : bM.cell? ⟨ap, 0, none⟩ = some (.int .u64 ai) := bq_ ad 0; have cv : bM.cell? ⟨ap, 1, none⟩ = some (.int .u64 ak) := bq_ ad 1; have cw := blk_frozen ad.out 0; have cx := blk_frozen ad.out 1))
        go_roundg k2
        case measure => have := bI.out; have := bK.out; omega
        case rel => exact ⟨(wrap64 (Int.tdiv aJ 2)), (wrap64 (ae + 1)), (bm), (bo), (by first | rfl | simp), (by first | rfl | simp), H', ⟨by have := bI.out; have := bK.out; omega⟩, ⟨by refine blk_far ?_ aD.out _; refine blk_far ?_ aD.out _; exact aa.out⟩, ⟨by refine blk_far ?_ aE.out _; refine blk_far ?_ aE.out _; exact ab.out⟩, ⟨by refine blk_put (cs := #[.int .u64 bm, .int .u64 ak]) ?_ 1 _ rfl; refine blk_put (cs := #[.int .u64 ai, .int .u64 ak]) ?_ 0 _ rfl; exact ad.out⟩, ⟨by repeat (first | (with_reducible first | exact HB.out | apply below_alloc | apply pw_below_drewN | apply below_drew1 | refine below_set ?_ aW.out | refine below_set ?_ aX.out | refine below_set ?_ bc.out | refine below_set ?_ aS.out) | exact HB.out)⟩⟩
       ·rw [if_neg bu] at H
        exact absurd H (by simp)
      ·rw [if_neg bl] at H
       have c31b0 : decide (ae < (l3.length : Int)) = false := decide_eq_false bl
       clear bl
       simp only [Option.some.injEq, Prod.mk.injEq] at H
       obtain ⟨rfl, rfl⟩ := H
       have cy : wr.cell? ⟨ap, 0, none⟩ = some (.int .u64 ai) := bq_ ad 0
       have cz : wr.cell? ⟨ap, 1, none⟩ = some (.int .u64 ak) := bq_ ad 1
       have cA := blk_frozen ad.out 0
       have cB := blk_frozen ad.out 1
       have cC : wr.cell? ⟨au, 0, none⟩ = some (.int .u64 0) := bq_ ab 0
       have cD : wr.cell? ⟨au, 1, none⟩ = some (.int .u64 0) := bq_ ab 1
       have cE := blk_frozen ab.out 0
       have cF := blk_frozen ab.out 1
       go_wp2
       refine bodyPost_ret (results_cell_row rfl _ _ au 36 #[.int .u64 ai, .int .u64 ak] (0, 0) _ rfl (by refine blk_put (cs := #[.int .u64 ai, .int .u64 0]) ?_ 1 _ rfl; refine blk_put (cs := #[.int .u64 0, .int .u64 0]) ?_ 0 _ rfl; exact ab.out) Tryd.underlying36 rfl (by kernel_rfl)) rfl ?_
       exact ⟨by first | rfl | (simp [errW_none, errW_some] <;> rfl) | (simp [*, errW_none, errW_some] <;> rfl), by repeat (first | (with_reducible first | exact HB.out | apply below_alloc | apply pw_below_drewN | apply below_drew1 | refine below_set ?_ aW.out | refine below_set ?_ aX.out | refine below_set ?_ bc.out) | exact HB.out)⟩

end Go.Proofs.YtpnpmeogffodgaaDoor.Q
end
section
namespace Go.Proofs.YtpnpmeogffodgaaDoor.Q
open Go.RowKit Go.Proofs.YtpnpmeogffodgaaDoorW.PrintWords Go.Proofs.YtpnpmeogffodgaaDoorW.PrintLast Go.Proofs.YtpnpmeogffodgaaDoorW.PrintMore
open Go.Proofs.YtpnpmeogffodgaaDoor.Num
set_option linter.unusedVariables false
set_option linter.unusedSimpArgs false
def okD (p : Int) (d : S36) : Bool := decide (d.f0 < p) && decide (d.f1 < p)
theorem bad_ok (p : Int) (d : S36) : badD p d = !(okD p d) := by
  unfold badD okD
  by_cases h0 : d.f0 < p
  · by_cases h1 : d.f1 < p
    · simp [h0, h1, Int.not_le.mpr h0, Int.not_le.mpr h1]
    · simp [h0, h1, Int.not_le.mpr h0, Int.not_lt.mp h1]
  · simp [h0, Int.not_lt.mp h0]
theorem proper_f (f : Int) (l : List S36) : tree_proper.f f l = some (l.all (okD (fp f))) := by
  have h : ∀ l : List S36, (!(l.any (badD (fp f)))) = l.all (okD (fp f)) := by
    intro l
    induction l with
    | nil => rfl
    | cons d l ih => rw [List.any_cons, List.all_cons, Bool.not_or, ih, bad_ok, Bool.not_not]
  unfold tree_proper.f
  rw [show field_P.f f = some (fp f) from rfl, Option.bind_some, h]
theorem P_f (f : Int) : attestorref01_P.f f = some (fp f) := by
  unfold attestorref01_P.f fp
  repeat' split
  all_goals rfl
theorem Proper_f (f a b : Int) : attestorref07_Proper.f f a b = some (okD (fp f) ⟨a, b⟩) := by
  unfold attestorref07_Proper.f okD
  rw [P_f, Option.bind_some]
  by_cases h : a < fp f
  · rw [if_pos h]; simp [h]
  · rw [if_neg h]; simp [h]
theorem All_l (f : Int) (l : List S36) (hl : l.length ≤ 4611686018427387904) : ∀ n j k, n + j = l.length → n < k → attestorref07_All.l0 k f l (j : Int) = some ((l.drop j).all (okD (fp f)))
  | n, j, 0, _, hk => by omega
  | 0, j, k + 1, hj, _ => by
    unfold attestorref07_All.l0
    rw [if_neg (by omega), List.drop_eq_nil_of_le (by omega)]
    rfl
  | n + 1, j, k + 1, hj, hk => by
    have ih := All_l f l hl n (j + 1) k (by omega) (by omega)
    unfold attestorref07_All.l0
    rw [if_pos (by omega), if_pos (by omega), Proper_f, Option.bind_some, drop_rd l j (by omega), List.all_cons]
    by_cases h : okD (fp f) (rd_T36 l (j : Int)) = true
    · rw [if_pos h, h, Bool.true_and, show wrap64 ((j : Int) + 1) = ((j + 1 : Nat) : Int) by unfold wrap64; omega]
      exact ih
    · rw [if_neg h, Bool.eq_false_iff.mpr h, Bool.false_and]
theorem All_f (f : Int) (l : List S36) (k : Nat) (hl : l.length ≤ 4611686018427387904) (hk : l.length < k) : attestorref07_All.f k f l = some (l.all (okD (fp f))) := All_l f l hl l.length 0 k rfl hk
theorem bits_and_one (i : Int) : Go.bits .and .i64 i 1 = i % 2 := by
  have h1 : (BitVec.ofInt 64 1).toNat = 2 ^ 1 - 1 := by decide
  have key : (BitVec.ofInt 64 i &&& BitVec.ofInt 64 1).toNat = (i % ((2 ^ 64 : Nat) : Int)).toNat % 2 ^ 1 := by
    rw [BitVec.toNat_and, BitVec.toNat_ofInt, h1, Nat.and_two_pow_sub_one_eq_mod]
  show IntKind.i64.wrap ((BitVec.ofInt 64 i &&& BitVec.ofInt 64 1).toNat : Nat) = i % 2
  rw [key, IntKind.wrap_i64]
  omega
theorem node_nat {f : Int} (hv : 0 ≤ f ∧ f < 4) (a b c d k : Nat) (hk : 130 < k) : ∃ x y : Nat, sponge_Node.f 200 f a b c d = some ((x : Int), (y : Int)) ∧ attestorref06_Node.f k f a b c d = some ((x : Int), (y : Int)) := by
  obtain ⟨p, g, e, D⟩ := fd_of hv.1 hv.2
  refine ⟨_, _, Node_f D 200 (by omega) ⟨a, b, c, d⟩, ?_⟩
  unfold attestorref06_Node.f
  refine bnd (rvalid_yes D.F) ?_
  rw [if_pos rfl]
  refine bnd (rPerm_f D k hk ⟨a, b, c, d⟩) (bnd (radd_f D.F _ _) (bnd (radd_f D.F _ _) ?_))
  rfl
def nnD (d : S36) : Prop := 0 ≤ d.f0 ∧ 0 ≤ d.f1
theorem climb_both {f : Int} (hv : 0 ≤ f ∧ f < 4) : ∀ (l : List S36) (hl : ∀ d ∈ l, nnD d) (i : Int) (h0 : 0 ≤ i) (h1 : i < 9223372036854775808) (x0 x1 : Nat), ∃ y0 y1 : Nat, climbL f i x0 x1 l = some ((y0 : Int), (y1 : Int)) ∧
    ∀ (path : List S36) (j k : Nat), path.drop j = l → j + l.length = path.length → path.length ≤ 1000 → 140 + l.length ≤ k → attestorref07_Climb.l0 k f i path (j : Int) x0 x1 = some ((y0 : Int), (y1 : Int))
  | [], _, i, h0, h1, x0, x1 => ⟨x0, x1, rfl, fun path j k hd hj hp hk => by
      obtain ⟨k, rfl⟩ : ∃ m, k = m + 1 := ⟨k - 1, by omega⟩
      unfold attestorref07_Climb.l0
      rw [if_neg (by simp at hj; omega)]⟩
  | d :: l, hl, i, h0, h1, x0, x1 => by
    obtain ⟨hd0, hd1⟩ := hl d (List.mem_cons_self ..)
    obtain ⟨p0, e0⟩ := Int.eq_ofNat_of_zero_le hd0
    obtain ⟨p1, e1⟩ := Int.eq_ofNat_of_zero_le hd1
    have hpar : (Go.bits .and .i64 i 1 == 1) = decide (Int.tmod i 2 = 1) := by
      rw [bits_and_one, Int.tmod_eq_emod_of_nonneg h0]
      rfl
    have hdiv : wrap64 (Int.tdiv i 2) = i / 2 := by
      rw [Int.tdiv_eq_ediv_of_nonneg h0]
      unfold wrap64
      omega
    by_cases hp : Int.tmod i 2 = 1
    · obtain ⟨n0, n1, hn, _⟩ := node_nat hv p0 p1 x0 x1 131 (by omega)
      obtain ⟨y0, y1, hy, hr⟩ := climb_both hv l (fun d hd => hl d (List.mem_cons_of_mem _ hd)) (i / 2) (by omega) (by omega) n0 n1
      refine ⟨y0, y1, ?_, fun path j k hd hj hpl hk => ?_⟩
      · unfold climbL
        rw [hpar, if_pos (decide_eq_true hp), e0, e1, hn, Option.bind_some]
        exact hy
      · obtain ⟨k, rfl⟩ : ∃ m, k = m + 1 := ⟨k - 1, by omega⟩
        obtain ⟨m0, m1, hm, hm2⟩ := node_nat hv p0 p1 x0 x1 k (by simp at hk; omega)
        rw [hn] at hm
        obtain ⟨rfl, rfl⟩ : n0 = m0 ∧ n1 = m1 := by simp only [Option.some.injEq, Prod.mk.injEq] at hm; omega
        have hjl : j < path.length := by simp at hj; omega
        have hd2 := drop_rd path j hjl
        rw [hd] at hd2
        injection hd2 with ha hb
        unfold attestorref07_Climb.l0
        rw [if_pos (by omega), if_pos (by omega), ← ha, e0, e1]
        unfold attestorref07_pair.f
        rw [if_pos hp, Option.bind_some, hm2, Option.bind_some, hdiv, show wrap64 ((j : Int) + 1) = ((j + 1 : Nat) : Int) by unfold wrap64; omega]
        exact hr path (j + 1) k hb.symm (by simp at hj; omega) hpl (by simp at hk; omega)
    · obtain ⟨n0, n1, hn, _⟩ := node_nat hv x0 x1 p0 p1 131 (by omega)
      obtain ⟨y0, y1, hy, hr⟩ := climb_both hv l (fun d hd => hl d (List.mem_cons_of_mem _ hd)) (i / 2) (by omega) (by omega) n0 n1
      refine ⟨y0, y1, ?_, fun path j k hd hj hpl hk => ?_⟩
      · unfold climbL
        rw [hpar, if_neg (by simp [hp]), e0, e1, hn, Option.bind_some]
        exact hy
      · obtain ⟨k, rfl⟩ : ∃ m, k = m + 1 := ⟨k - 1, by omega⟩
        obtain ⟨m0, m1, hm, hm2⟩ := node_nat hv x0 x1 p0 p1 k (by simp at hk; omega)
        rw [hn] at hm
        obtain ⟨rfl, rfl⟩ : n0 = m0 ∧ n1 = m1 := by simp only [Option.some.injEq, Prod.mk.injEq] at hm; omega
        have hjl : j < path.length := by simp at hj; omega
        have hd2 := drop_rd path j hjl
        rw [hd] at hd2
        injection hd2 with ha hb
        unfold attestorref07_Climb.l0
        rw [if_pos (by omega), if_pos (by omega), ← ha, e0, e1]
        unfold attestorref07_pair.f
        rw [if_neg hp, Option.bind_some, hm2, Option.bind_some, hdiv, show wrap64 ((j : Int) + 1) = ((j + 1 : Nat) : Int) by unfold wrap64; omega]
        exact hr path (j + 1) k hb.symm (by simp at hj; omega) hpl (by simp at hk; omega)
theorem cut_f (l : List S36) (n : Nat) (h : n ≤ 1000) : attestorlaw07_cut.f l (n : Int) = some (l.take n) := by
  have e : mn (l.length : Int) (n : Int) = ((min l.length n : Nat) : Int) := by unfold mn; split <;> omega
  unfold attestorlaw07_cut.f
  rw [e, if_pos (by omega), if_pos (by omega), Option.bind_some, Int.toNat_natCast, if_pos (by simp; omega), List.nil_append]
  congr 1
  rcases Nat.le_total l.length n with h1 | h1
  · rw [Nat.min_eq_left h1, List.take_of_length_le (Nat.le_refl _), List.take_of_length_le h1]
  · rw [Nat.min_eq_right h1]
set_option maxRecDepth 100000 in
theorem lives_true (k : Nat) (hk : 80 ≤ k) : attestorlaw07_lives.f k = some true :=
  at_rounds (g := fun k => attestorlaw07_lives.f k) attestorlaw07_lives.mono hk (by decide +kernel)
end Go.Proofs.YtpnpmeogffodgaaDoor.Q
end
section
namespace Go.Proofs.YtpnpmeogffodgaaDoor.Q
open Go.RowKit Go.Proofs.YtpnpmeogffodgaaDoor.Opn
theorem nn_of {l : List S36} (h : ∀ y ∈ l, wf36 y) : ∀ d ∈ l, nnD d := fun d hd => ⟨(wf_u64 (h d hd).1).1, (wf_u64 (h d hd).2).1⟩
end Go.Proofs.YtpnpmeogffodgaaDoor.Q
end
section
namespace Go.Proofs.YtpnpmeogffodgaaDoor.Q
open Go.RowKit Go.Proofs.YtpnpmeogffodgaaDoorW.PrintWords Go.Proofs.YtpnpmeogffodgaaDoorW.PrintLast Go.Proofs.YtpnpmeogffodgaaDoorW.PrintMore
open Go.Proofs.YtpnpmeogffodgaaDoor.Num
set_option linter.unusedVariables false
set_option linter.unusedSimpArgs false
theorem valid_f (f : Int) : field_Valid.f f = some (decide (0 ≤ f ∧ f < 4)) := by
  by_cases h : 0 ≤ f ∧ f < 4
  · obtain ⟨p, g, e, D⟩ := fd_of h.1 h.2
    rw [valid_yes D.F, decide_eq_true h]
  · rw [valid_no h, decide_eq_false h]
theorem rvalid_f (f : Int) : attestorref01_Valid.f f = some (decide (0 ≤ f ∧ f < 4)) := by
  by_cases h : 0 ≤ f ∧ f < 4
  · obtain ⟨p, g, e, D⟩ := fd_of h.1 h.2
    rw [rvalid_yes D.F, decide_eq_true h]
  · rw [rvalid_no h, decide_eq_false h]
def OpD (f i a b : Int) (l : List S36) : Prop := (0 ≤ f ∧ f < 4) ∧ 0 ≤ i ∧ l.length ≤ 18 ∧ okD (fp f) ⟨a, b⟩ = true ∧ l.all (okD (fp f)) = true
instance (f i a b : Int) (l : List S36) : Decidable (OpD f i a b l) := by unfold OpD; infer_instance
theorem opens_f (f i a b : Int) (l : List S36) : tree_opens.f f i a b l = some (decide (OpD f i a b l)) := by
  unfold tree_opens.f
  rw [valid_f, Option.bind_some]
  by_cases h1 : 0 ≤ f ∧ f < 4
  · rw [decide_eq_true h1, if_pos rfl]
    by_cases h2 : 0 ≤ i
    · rw [if_pos h2]
      by_cases h3 : l.length ≤ 18
      · rw [if_pos (by omega), proper_f, Option.bind_some]
        by_cases h4 : okD (fp f) ⟨a, b⟩ = true
        · rw [if_pos (by simp [h4]), proper_f, Option.bind_some]
          cases h5 : l.all (okD (fp f)) <;> simp [OpD, h1, h2, h3, h4, h5]
        · rw [if_neg (by simp [h4])]
          simp [OpD, h4]
      · rw [if_neg (by omega)]
        simp [OpD, h3]
    · rw [if_neg h2]
      simp [OpD, h2]
  · rw [decide_eq_false h1, if_neg (by decide)]
    simp only [OpD, h1, false_and, decide_false]
theorem climb_j0 (f i a b : Int) (l : List S36) (k : Nat) (hk : 1100 ≤ k) (hl : l.length ≤ 1000) : attestorref07_Climb.f k f i a b l = if OpD f i a b l then attestorref07_Climb.l0 (k - 1) f i l 0 a b else some (0, 0) := by
  obtain ⟨k, rfl⟩ : ∃ m, k = m + 1 := ⟨k - 1, by omega⟩
  have jt : attestorref07_Climb.j0 (k + 1) f i l true a b = some (0, 0) := by rw [attestorref07_Climb.j0, if_pos rfl]
  have jf : attestorref07_Climb.j0 (k + 1) f i l false a b = attestorref07_Climb.l0 k f i l 0 a b := by rw [attestorref07_Climb.j0, if_neg (by decide)]
  unfold attestorref07_Climb.f
  rw [rvalid_f, Option.bind_some]
  by_cases h1 : 0 ≤ f ∧ f < 4
  · rw [decide_eq_true h1, if_pos rfl]
    by_cases h2 : i < 0
    · rw [if_pos h2, jt, if_neg (fun h => by have := h.2.1; omega)]
    · rw [if_neg h2]
      by_cases h3 : l.length ≤ 18
      · rw [if_neg (by omega), Proper_f, Option.bind_some]
        by_cases h4 : okD (fp f) ⟨a, b⟩ = true
        · rw [if_pos h4, All_f f l (k + 1) (by omega) (by omega), Option.bind_some]
          cases h5 : l.all (okD (fp f))
          · rw [Bool.not_false, jt, if_neg (fun h => by have := h.2.2.2.2; rw [h5] at this; cases this)]
          · rw [Bool.not_true, jf, if_pos ⟨h1, by omega, h3, h4, h5⟩]
            rfl
        · rw [if_neg h4, jt, if_neg (fun h => h4 h.2.2.2.1)]
      · rw [if_pos (by omega), jt, if_neg (fun h => h3 h.2.2.1)]
  · rw [decide_eq_false h1, if_neg (by decide), jt, if_neg (fun h => h1 h.1)]
theorem climb_open {f i a b : Int} {l : List S36} (ho : OpD f i a b l) (ha : 0 ≤ a) (hb : 0 ≤ b) (hl : ∀ d ∈ l, nnD d) (hi : i < 9223372036854775808) : ∃ y0 y1 : Nat, tree_climb.f f i a b l = some ((y0 : Int), (y1 : Int)) ∧ ∀ k, 1100 ≤ k → attestorref07_Climb.f k f i a b l = some ((y0 : Int), (y1 : Int)) := by
  obtain ⟨a', rfl⟩ := Int.eq_ofNat_of_zero_le ha
  obtain ⟨b', rfl⟩ := Int.eq_ofNat_of_zero_le hb
  obtain ⟨y0, y1, hy, hr⟩ := climb_both ho.1 l hl i ho.2.1 hi a' b'
  have h18 := ho.2.2.1
  refine ⟨y0, y1, hy, fun k hk => ?_⟩
  rw [climb_j0 f i _ _ l k hk (by omega), if_pos ho]
  exact hr l 0 (k - 1) rfl (by omega) (by omega) (by omega)
theorem Climb_both (f i a b : Int) (l : List S36) (ha : 0 ≤ a) (hb : 0 ≤ b) (hl : ∀ d ∈ l, nnD d) (hi : i < 9223372036854775808) (hll : l.length ≤ 1000) : ∃ y0 y1 : Nat, tree_Climb.f f i a b l = some ((y0 : Int), (y1 : Int)) ∧ ∀ k, 1100 ≤ k → attestorref07_Climb.f k f i a b l = some ((y0 : Int), (y1 : Int)) := by
  unfold tree_Climb.f
  rw [opens_f, Option.bind_some]
  by_cases ho : OpD f i a b l
  · obtain ⟨y0, y1, hy, hr⟩ := climb_open ho ha hb hl hi
    exact ⟨y0, y1, by rw [decide_eq_true ho, if_pos rfl, hy, Option.bind_some], hr⟩
  · exact ⟨0, 0, by rw [decide_eq_false ho, if_neg (by decide)]; rfl, fun k hk => by rw [climb_j0 f i a b l k hk hll, if_neg ho]; rfl⟩
end Go.Proofs.YtpnpmeogffodgaaDoor.Q
end
section
namespace Go.Proofs.YtpnpmeogffodgaaDoor.Q
open Go.RowKit Go.Proofs.YtpnpmeogffodgaaDoorW.PrintWords Go.Proofs.YtpnpmeogffodgaaDoorW.PrintLast Go.Proofs.YtpnpmeogffodgaaDoorW.PrintMore
set_option linter.unusedVariables false
structure Part where
  own : Nat → Prop
  holds : World → Prop
  stay : ∀ W W' : World, holds W → (∀ k, own k → W'.heap[k]? = W.heap[k]?) → holds W'
structure Mem (w0 : World) (L : List Part) (W : World) : Prop where
  bel : Below w0.heap.size w0 W
  hold : ∀ c ∈ L, c.holds W
  inb : ∀ c ∈ L, ∀ k, c.own k → w0.heap.size ≤ k ∧ k < W.heap.size
  dis : L.Pairwise fun c d => ∀ k, c.own k → ¬ d.own k
structure Sees (w0 : World) (L : List Part) (W : World) : Prop where
  bel : Below w0.heap.size w0 W
  hold : ∀ c ∈ L, c.holds W
def bk (g : Nat) (t : TypeId) (cs : Array Value) : Part := ⟨fun k => k = g, fun W => W.heap[g]? = some (.cells cs t (0, 0)), fun _ _ h hk => (hk g rfl).trans h⟩
def fact (p : Prop) : Part := ⟨fun _ => False, fun _ => p, fun _ _ h _ => h⟩
theorem Mem.start (w : World) : Mem w [] w := ⟨Below.refl _ _, by simp, by simp, List.Pairwise.nil⟩
theorem Mem.get {w0 W : World} {L : List Part} (h : Mem w0 L W) {i : Nat} {c : Part} (e : L[i]? = some c) : c.holds W := h.hold c (List.mem_of_getElem? e)
theorem Sees.get {w0 W : World} {L : List Part} (h : Sees w0 L W) {i : Nat} {c : Part} (e : L[i]? = some c) : c.holds W := h.hold c (List.mem_of_getElem? e)
theorem Mem.size {w0 W : World} {L : List Part} (h : Mem w0 L W) : w0.heap.size ≤ W.heap.size := h.bel.size
theorem Mem.perm {w0 W : World} {L M : List Part} (h : Mem w0 L W) (p : L.Perm M) : Mem w0 M W :=
  ⟨h.bel, fun c hc => h.hold c (p.mem_iff.2 hc), fun c hc => h.inb c (p.mem_iff.2 hc), (p.pairwise_iff (fun {x y} hxy k hy hx => hxy k hx hy)).1 h.dis⟩
theorem below_low {w0 W W' : World} (h : Below w0.heap.size w0 W) (hb : Below W.heap.size W W') : Below w0.heap.size w0 W' :=
  h.trans ⟨hb.os, hb.tape, hb.output, hb.size, fun k hk => hb.block k (Nat.lt_of_lt_of_le hk h.size)⟩
theorem Mem.call {w0 W W' : World} {L : List Part} (h : Mem w0 L W) (hb : Below W.heap.size W W') : Mem w0 L W' :=
  ⟨below_low h.bel hb, fun c hc => c.stay W W' (h.hold c hc) (fun k hk => hb.block k (h.inb c hc k hk).2), fun c hc k hk => ⟨(h.inb c hc k hk).1, Nat.lt_of_lt_of_le (h.inb c hc k hk).2 hb.size⟩, h.dis⟩
theorem Mem.drew {w0 W : World} {L : List Part} (h : Mem w0 L W) : Mem w0 L W.drew :=
  ⟨h.bel.trans ⟨rfl, rfl, rfl, Nat.le_refl _, fun _ _ => rfl⟩, fun c hc => c.stay W W.drew (h.hold c hc) (fun _ _ => rfl), h.inb, h.dis⟩
theorem Mem.drewN {w0 W : World} {L : List Part} (h : Mem w0 L W) (n : Nat) : Mem w0 L (W.drewN n) :=
  ⟨h.bel.trans ⟨rfl, rfl, rfl, Nat.le_refl _, fun _ _ => rfl⟩, fun c hc => c.stay W (W.drewN n) (h.hold c hc) (fun _ _ => rfl), h.inb, h.dis⟩
theorem Mem.fact {w0 W : World} {L : List Part} {p : Prop} (h : Mem w0 L W) (hp : p) : Mem w0 (fact p :: L) W :=
  ⟨h.bel, fun c hc => by
    rcases List.mem_cons.1 hc with rfl | hc
    · exact hp
    · exact h.hold c hc, fun c hc k hk => by
    rcases List.mem_cons.1 hc with rfl | hc
    · exact hk.elim
    · exact h.inb c hc k hk, List.pairwise_cons.2 ⟨fun _ _ _ hk => hk.elim, h.dis⟩⟩
theorem Mem.more {w0 W W' : World} {L : List Part} {c : Part} (h : Mem w0 L W) (hb : Below W.heap.size W W') (hc : c.holds W') (ho : ∀ k, c.own k → W.heap.size ≤ k ∧ k < W'.heap.size) : Mem w0 (c :: L) W' := by
  have h' := h.call hb
  refine ⟨h'.bel, fun d hd => ?_, fun d hd k hk => ?_, List.pairwise_cons.2 ⟨fun d hd k hk hkd => ?_, h.dis⟩⟩
  · rcases List.mem_cons.1 hd with rfl | hd
    · exact hc
    · exact h'.hold d hd
  · rcases List.mem_cons.1 hd with rfl | hd
    · exact ⟨Nat.le_trans h.size (ho k hk).1, (ho k hk).2⟩
    · exact h'.inb d hd k hk
  · have h1 := (h.inb d hd k hkd).2
    have h2 := (ho k hk).1
    omega
theorem Mem.new {w0 W W' : World} {L : List Part} {g : Nat} {t : TypeId} {cs : Array Value} (h : Mem w0 L W) (hg : g = W.heap.size) (hy : W'.heap[g]? = some (.cells cs t (0, 0))) (hb : Below W.heap.size W W') : Mem w0 (bk g t cs :: L) W' :=
  h.more hb hy (fun k hk => by obtain rfl : k = g := hk; exact ⟨Nat.le_of_eq hg.symm, blk_lt hy⟩)
theorem Mem.upd {w0 W W' : World} {L : List Part} (h : Mem w0 L W) (i : Nat) {c : Part} (c' : Part) (e : L[i]? = some c) (ho : ∀ k, c'.own k → c.own k ∨ W.heap.size ≤ k ∧ k < W'.heap.size) (h' : c'.holds W') (hk : ∀ k, k < W.heap.size → ¬ c.own k → W'.heap[k]? = W.heap[k]?)
    (hs : W.heap.size ≤ W'.heap.size) (hos : W'.os = W.os) (htp : W'.tape = W.tape) (hou : W'.output = W.output) : Mem w0 (L.set i c') W' := by
  have hcm := List.mem_of_getElem? e
  have key : ∀ d ∈ L.set i c', d = c' ∨ d ∈ L ∧ (∀ k, c.own k → ¬ d.own k) := by
    intro d hd
    obtain ⟨j, hj⟩ := List.mem_iff_getElem?.1 hd
    by_cases hij : i = j
    · subst hij
      rw [List.getElem?_set_self (by have := (List.getElem?_eq_some_iff.1 e).1; omega)] at hj
      exact .inl (Option.some.inj hj).symm
    · rw [List.getElem?_set_ne hij] at hj
      refine .inr ⟨List.mem_of_getElem? hj, fun k hk hd' => ?_⟩
      obtain ⟨hi', hie⟩ := List.getElem?_eq_some_iff.1 e
      obtain ⟨hj', hje⟩ := List.getElem?_eq_some_iff.1 hj
      have hp := List.pairwise_iff_getElem.1 h.dis
      rcases Nat.lt_or_gt_of_ne hij with hlt | hlt
      · exact hp i j hi' hj' hlt k (by rw [hie]; exact hk) (by rw [hje]; exact hd')
      · exact hp j i hj' hi' hlt k (by rw [hje]; exact hd') (by rw [hie]; exact hk)
  refine ⟨h.bel.trans ⟨hos, htp, hou, hs, fun k hk0 => hk k (Nat.lt_of_lt_of_le hk0 h.size) (fun hc => by have := (h.inb c hcm k hc).1; omega)⟩, fun d hd => ?_, fun d hd k hkd => ?_, ?_⟩
  · rcases key d hd with rfl | ⟨hdL, hdd⟩
    · exact h'
    · exact d.stay W W' (h.hold d hdL) (fun k hkd => hk k (h.inb d hdL k hkd).2 (fun hc => hdd k hc hkd))
  · rcases key d hd with rfl | ⟨hdL, _⟩
    · rcases ho k hkd with hc | hc
      · exact ⟨(h.inb c hcm k hc).1, Nat.lt_of_lt_of_le (h.inb c hcm k hc).2 hs⟩
      · exact ⟨Nat.le_trans h.size hc.1, hc.2⟩
    · exact ⟨(h.inb d hdL k hkd).1, Nat.lt_of_lt_of_le (h.inb d hdL k hkd).2 hs⟩
  · rw [List.pairwise_iff_getElem]
    have hp := List.pairwise_iff_getElem.1 h.dis
    intro x y hx hy hxy k hkx hky
    rw [List.length_set] at hx hy
    obtain ⟨hi', hie⟩ := List.getElem?_eq_some_iff.1 e
    rw [List.getElem_set] at hkx hky
    split at hkx
    · rename_i hix
      subst hix
      rw [if_neg (by omega)] at hky
      rcases ho k hkx with hc | hc
      · exact hp i y hi' hy hxy k (by rw [hie]; exact hc) hky
      · have := (h.inb _ (List.getElem_mem hy) k hky).2
        omega
    · split at hky
      · rename_i hiy
        subst hiy
        rcases ho k hky with hc | hc
        · exact hp x i hx hi' hxy k hkx (by rw [hie]; exact hc)
        · have := (h.inb _ (List.getElem_mem hx) k hkx).2
          omega
      · exact hp x y hx hy hxy k hkx hky
theorem setCell_rest (W : World) (p : Addr) (v : Value) : (W.setCell p v).heap.size = W.heap.size ∧ (W.setCell p v).os = W.os ∧ (W.setCell p v).tape = W.tape ∧ (W.setCell p v).output = W.output := ⟨by simp [World.setCell], rfl, rfl, rfl⟩
theorem Mem.put {w0 W : World} {L : List Part} (h : Mem w0 L W) (i : Nat) {g : Nat} {t : TypeId} {cs : Array Value} (e : L[i]? = some (bk g t cs)) (j : Nat) (v : Value) : Mem w0 (L.set i (bk g t (cs.setIfInBounds j v))) (W.setCell ⟨g, j, none⟩ v) :=
  h.upd i _ e (fun k hk => .inl hk) (blk_put (h.get e) j v rfl) (fun k _ hk => Below.heap_setCell W ⟨g, j, none⟩ v k hk) (Nat.le_of_eq (setCell_rest W _ v).1.symm) (setCell_rest W _ v).2.1 (setCell_rest W _ v).2.2.1 (setCell_rest W _ v).2.2.2
theorem Mem.put2 {w0 W : World} {L : List Part} (h : Mem w0 L W) (i : Nat) {g : Nat} {t : TypeId} {x0 x1 : Value} (e : L[i]? = some (bk g t #[x0, x1])) (v0 v1 : Value) : Mem w0 (L.set i (bk g t #[v0, v1])) ((W.setCell ⟨g, 0, none⟩ v0).setCell ⟨g, 1, none⟩ v1) := by
  have hi := (List.getElem?_eq_some_iff.1 e).1
  have h1 := h.put i e 0 v0
  have h2 := h1.put i (List.getElem?_set_self hi) 1 v1
  rw [List.set_set] at h2
  exact h2
theorem Mem.put4 {w0 W : World} {L : List Part} (h : Mem w0 L W) (i : Nat) {g : Nat} {t : TypeId} {x0 x1 x2 x3 : Value} (e : L[i]? = some (bk g t #[x0, x1, x2, x3])) (v0 v1 v2 v3 : Value) : Mem w0 (L.set i (bk g t #[v0, v1, v2, v3])) ((((W.setCell ⟨g, 0, none⟩ v0).setCell ⟨g, 1, none⟩ v1).setCell ⟨g, 2, none⟩ v2).setCell ⟨g, 3, none⟩ v3) := by
  have hi := (List.getElem?_eq_some_iff.1 e).1
  have h1 := h.put i e 0 v0
  have h2 := h1.put i (List.getElem?_set_self hi) 1 v1
  have h3 := h2.put i (List.getElem?_set_self (by rw [List.length_set]; exact hi)) 2 v2
  have h4 := h3.put i (List.getElem?_set_self (by rw [List.length_set, List.length_set]; exact hi)) 3 v3
  rw [List.set_set, List.set_set, List.set_set] at h4
  exact h4
theorem Mem.see {w0 W : World} {L : List Part} (h : Mem w0 L W) (n : Nat) : Sees w0 (L.take n) W := ⟨h.bel, fun c hc => h.hold c (List.mem_of_mem_take hc)⟩
theorem Mem.sel {w0 W : World} {L : List Part} (h : Mem w0 L W) (is : List Nat) (hd : is.Nodup) : Mem w0 (is.filterMap (L[·]?)) W := by
  have hm : ∀ c ∈ is.filterMap (L[·]?), c ∈ L := fun c hc => by
    obtain ⟨i, _, hi⟩ := List.mem_filterMap.1 hc
    exact List.mem_of_getElem? hi
  refine ⟨h.bel, fun c hc => h.hold c (hm c hc), fun c hc => h.inb c (hm c hc), ?_⟩
  rw [List.pairwise_filterMap]
  refine hd.imp fun {i j} hij c hc d hdd k hk hkd => ?_
  obtain ⟨hi', hie⟩ := List.getElem?_eq_some_iff.1 hc
  obtain ⟨hj', hje⟩ := List.getElem?_eq_some_iff.1 hdd
  have hp := List.pairwise_iff_getElem.1 h.dis
  rcases Nat.lt_or_gt_of_ne hij with hlt | hlt
  · exact hp i j hi' hj' hlt k (by rw [hie]; exact hk) (by rw [hje]; exact hkd)
  · exact hp j i hj' hi' hlt k (by rw [hje]; exact hkd) (by rw [hie]; exact hk)
theorem Mem.c1 {w0 W : World} {L : List Part} {g : Nat} {t : TypeId} {v0 : Value} (h : Mem w0 L W) {i : Nat} (e : L[i]? = some (bk g t #[v0])) : W.cell? ⟨g, 0, none⟩ = some v0 ∧ W.frozen? ⟨g, 0, none⟩ = false := ⟨(blk_cell (h.get e) 0).trans rfl, blk_frozen (h.get e) 0⟩
theorem Sees.c1 {w0 W : World} {L : List Part} {g : Nat} {t : TypeId} {v0 : Value} (h : Sees w0 L W) {i : Nat} (e : L[i]? = some (bk g t #[v0])) : W.cell? ⟨g, 0, none⟩ = some v0 := (blk_cell (h.get e) 0).trans rfl
theorem Mem.c2 {w0 W : World} {L : List Part} {g : Nat} {t : TypeId} {v0 v1 : Value} (h : Mem w0 L W) {i : Nat} (e : L[i]? = some (bk g t #[v0, v1])) : W.cell? ⟨g, 0, none⟩ = some v0 ∧ W.cell? ⟨g, 1, none⟩ = some v1 ∧ W.frozen? ⟨g, 0, none⟩ = false ∧ W.frozen? ⟨g, 1, none⟩ = false := ⟨(blk_cell (h.get e) 0).trans rfl, (blk_cell (h.get e) 1).trans rfl, blk_frozen (h.get e) 0, blk_frozen (h.get e) 1⟩
theorem Sees.c2 {w0 W : World} {L : List Part} {g : Nat} {t : TypeId} {v0 v1 : Value} (h : Sees w0 L W) {i : Nat} (e : L[i]? = some (bk g t #[v0, v1])) : W.cell? ⟨g, 0, none⟩ = some v0 ∧ W.cell? ⟨g, 1, none⟩ = some v1 := ⟨(blk_cell (h.get e) 0).trans rfl, (blk_cell (h.get e) 1).trans rfl⟩
theorem Mem.c4 {w0 W : World} {L : List Part} {g : Nat} {t : TypeId} {v0 v1 v2 v3 : Value} (h : Mem w0 L W) {i : Nat} (e : L[i]? = some (bk g t #[v0, v1, v2, v3])) : W.cell? ⟨g, 0, none⟩ = some v0 ∧ W.cell? ⟨g, 1, none⟩ = some v1 ∧ W.cell? ⟨g, 2, none⟩ = some v2 ∧ W.cell? ⟨g, 3, none⟩ = some v3 ∧ W.frozen? ⟨g, 0, none⟩ = false ∧ W.frozen? ⟨g, 1, none⟩ = false ∧ W.frozen? ⟨g, 2, none⟩ = false ∧ W.frozen? ⟨g, 3, none⟩ = false := ⟨(blk_cell (h.get e) 0).trans rfl, (blk_cell (h.get e) 1).trans rfl, (blk_cell (h.get e) 2).trans rfl, (blk_cell (h.get e) 3).trans rfl, blk_frozen (h.get e) 0, blk_frozen (h.get e) 1, blk_frozen (h.get e) 2, blk_frozen (h.get e) 3⟩
theorem Sees.c4 {w0 W : World} {L : List Part} {g : Nat} {t : TypeId} {v0 v1 v2 v3 : Value} (h : Sees w0 L W) {i : Nat} (e : L[i]? = some (bk g t #[v0, v1, v2, v3])) : W.cell? ⟨g, 0, none⟩ = some v0 ∧ W.cell? ⟨g, 1, none⟩ = some v1 ∧ W.cell? ⟨g, 2, none⟩ = some v2 ∧ W.cell? ⟨g, 3, none⟩ = some v3 := ⟨(blk_cell (h.get e) 0).trans rfl, (blk_cell (h.get e) 1).trans rfl, (blk_cell (h.get e) 2).trans rfl, (blk_cell (h.get e) 3).trans rfl⟩
theorem Mem.c8 {w0 W : World} {L : List Part} {g : Nat} {t : TypeId} {v0 v1 v2 v3 v4 v5 v6 v7 : Value} (h : Mem w0 L W) {i : Nat} (e : L[i]? = some (bk g t #[v0, v1, v2, v3, v4, v5, v6, v7])) : W.cell? ⟨g, 0, none⟩ = some v0 ∧ W.cell? ⟨g, 1, none⟩ = some v1 ∧ W.cell? ⟨g, 2, none⟩ = some v2 ∧ W.cell? ⟨g, 3, none⟩ = some v3 ∧ W.cell? ⟨g, 4, none⟩ = some v4 ∧ W.cell? ⟨g, 5, none⟩ = some v5 ∧ W.cell? ⟨g, 6, none⟩ = some v6 ∧ W.cell? ⟨g, 7, none⟩ = some v7 ∧ W.frozen? ⟨g, 0, none⟩ = false ∧ W.frozen? ⟨g, 1, none⟩ = false ∧ W.frozen? ⟨g, 2, none⟩ = false ∧ W.frozen? ⟨g, 3, none⟩ = false ∧ W.frozen? ⟨g, 4, none⟩ = false ∧ W.frozen? ⟨g, 5, none⟩ = false ∧ W.frozen? ⟨g, 6, none⟩ = false ∧ W.frozen? ⟨g, 7, none⟩ = false := ⟨(blk_cell (h.get e) 0).trans rfl, (blk_cell (h.get e) 1).trans rfl, (blk_cell (h.get e) 2).trans rfl, (blk_cell (h.get e) 3).trans rfl, (blk_cell (h.get e) 4).trans rfl, (blk_cell (h.get e) 5).trans rfl, (blk_cell (h.get e) 6).trans rfl, (blk_cell (h.get e) 7).trans rfl, blk_frozen (h.get e) 0, blk_frozen (h.get e) 1, blk_frozen (h.get e) 2, blk_frozen (h.get e) 3, blk_frozen (h.get e) 4, blk_frozen (h.get e) 5, blk_frozen (h.get e) 6, blk_frozen (h.get e) 7⟩
theorem Sees.c8 {w0 W : World} {L : List Part} {g : Nat} {t : TypeId} {v0 v1 v2 v3 v4 v5 v6 v7 : Value} (h : Sees w0 L W) {i : Nat} (e : L[i]? = some (bk g t #[v0, v1, v2, v3, v4, v5, v6, v7])) : W.cell? ⟨g, 0, none⟩ = some v0 ∧ W.cell? ⟨g, 1, none⟩ = some v1 ∧ W.cell? ⟨g, 2, none⟩ = some v2 ∧ W.cell? ⟨g, 3, none⟩ = some v3 ∧ W.cell? ⟨g, 4, none⟩ = some v4 ∧ W.cell? ⟨g, 5, none⟩ = some v5 ∧ W.cell? ⟨g, 6, none⟩ = some v6 ∧ W.cell? ⟨g, 7, none⟩ = some v7 := ⟨(blk_cell (h.get e) 0).trans rfl, (blk_cell (h.get e) 1).trans rfl, (blk_cell (h.get e) 2).trans rfl, (blk_cell (h.get e) 3).trans rfl, (blk_cell (h.get e) 4).trans rfl, (blk_cell (h.get e) 5).trans rfl, (blk_cell (h.get e) 6).trans rfl, (blk_cell (h.get e) 7).trans rfl⟩
def ptr (t : TypeId) (cs : Array Value) (v : Value) : Part := ⟨fun k => v = .pointer (some ⟨k, 0, none⟩), fun W => ∃ g, v = .pointer (some ⟨g, 0, none⟩) ∧ W.heap[g]? = some (.cells cs t (0, 0)), fun _ _ ⟨g, h, hy⟩ hk => ⟨g, h, (hk g h).trans hy⟩⟩
theorem Mem.ptr {w0 W : World} {L : List Part} (h : Mem w0 L W) {i : Nat} {t : TypeId} {cs : Array Value} {v : Value} (e : L[i]? = some (ptr t cs v)) : ∃ g, v = .pointer (some ⟨g, 0, none⟩) ∧ Mem w0 (L.set i (bk g t cs)) W := by
  obtain ⟨g, hv, hy⟩ := h.get e
  exact ⟨g, hv, h.upd i _ e (fun k hk => .inl (by obtain rfl : k = g := hk; exact hv)) hy (fun _ _ _ => rfl) (Nat.le_refl _) rfl rfl rfl⟩
theorem Mem.put1 {w0 W : World} {L M : List Part} {c : Part} (h : Mem w0 (c :: (L ++ M)) W) : Mem w0 (L ++ ([c] ++ M)) W := h.perm (by
  rw [← List.append_assoc, ← List.cons_append]
  refine List.Perm.append_right M ?_
  rw [← List.singleton_append]
  exact List.perm_append_comm)
theorem Mem.say {w0 W : World} {L M : List Part} {p : Prop} (h : Mem w0 (L ++ M) W) (hp : p) : Mem w0 (L ++ ([Q.fact p] ++ M)) W := (h.fact hp).put1
def gd (b : Bool) (v : Value) : Value := match b with
  | true => undef
  | false => v
section
variable {P : Program} {ops : Array Oper} {Q : Exit → Act → World → Prop} {md : Region.Mode} {S : World → Prop} {ds : List Nat}
theorem yl {o : Oper} {v : Value} {a : Act} (b : Bool) (h0 : b = false → Region.wanted o (yielded ops a.tmps) = true ∧ ∀ w, (execOp a.eval o).run P w = .ok (.value v) w) (h1 : b = true → Region.wanted o (yielded ops a.tmps) = false) : Yields P ops o (gd b v) a := by
  cases b
  · exact .inl (h0 rfl)
  · exact .inr ⟨h1 rfl, rfl⟩
theorem yh {o : Oper} {v : Value} {a : Act} (b : Bool) (h0 : b = false → Region.wanted o (yielded ops a.tmps) = true ∧ ∀ w, S w → (execOp a.eval o).run P w = .ok (.value v) w) (h1 : b = true → Region.wanted o (yielded ops a.tmps) = false) : YieldsIf P ops S o (gd b v) a := by
  cases b
  · exact .inl (h0 rfl)
  · exact .inr ⟨h1 rfl, rfl⟩
theorem gcall_ {oi : Oper} {N : Option Tmp} {a : Act} {w : World} {K : Act → World → Prop} (b : Bool) (v : Value) (hoff : b = true → Region.wanted oi (yielded ops a.tmps) = false)
    (hon : b = false → (∀ w', Below w.heap.size w w' → K (a.put N v) w') → if Region.wanted oi (yielded ops a.tmps) = true then Oper.wp P oi a w K Q else K (a.put N undef) w)
    (h : ∀ w', Below w.heap.size w w' → K (a.put N (gd b v)) w') : if Region.wanted oi (yielded ops a.tmps) = true then Oper.wp P oi a w K Q else K (a.put N undef) w := by
  cases b
  · exact hon rfl h
  · exact off_ (hoff rfl) (h _ (Below.refl _ _))
def up (n i : Nat) (l : List Nat) : Array Bool := ((List.range n).map fun k => decide (k < i) || l.contains k).toArray
def Runs (P : Program) (ops : Array Oper) (o : Oper) (a : Act) (W : World) (F : Value → World → Prop) : Prop :=
  if Region.wanted o (yielded ops a.tmps) = true then
    (∃ v W', (execOp a.eval o).run P W = .ok (.value v) W' ∧ F v W') ∨ (∃ W', (execOp a.eval o).run P W = .ok .skip W' ∧ F undef W') ∨ (∃ f args W', (execOp a.eval o).run P W = .ok (.enter f args) W' ∧ Calls P f args W' fun e W'' => ∃ v, e = .returned v ∧ F v W'')
  else F undef W
theorem Runs.put {o : Oper} {a : Act} {W : World} {F : Value → World → Prop} {d : Option Tmp} {v : Value} (hs : ∀ cs b, o.op ≠ .select cs b) (hd : ∀ t, d = some t → t ∉ o.looksAt ops) (h : Runs P ops o a W F) : Runs P ops o (a.put d v) W F := by
  unfold Runs at *
  rw [execOp_put o hs a d v hd, wanted_put o a d v hd]
  exact h
theorem Runs.step {i : Nat} {o : Oper} {a : Act} {W : World} {F : Value → World → Prop} {K : Act → World → Prop} (ho : ops[i]? = some o) (h : Runs P ops o a W F) (hK : ∀ v W', F v W' → K (a.put o.dst v) W') : wpOp P ops Q i K a W := by
  unfold wpOp
  simp only [ho]
  unfold Runs at h
  split at h
  · rename_i hw
    rw [if_pos hw]
    refine .inl ?_
    unfold Oper.wp
    rcases h with ⟨v, W', hr, hF⟩ | ⟨W', hr, hF⟩ | ⟨f, args, W', hr, hF⟩
    · rw [hr]; exact hK v W' hF
    · rw [hr]; exact hK _ W' hF
    · rw [hr, Oper.upon_enter]
      refine hF.mono fun e W'' ⟨v, he, hv⟩ => ?_
      subst he
      exact hK v W'' hv
  · rename_i hw
    rw [if_neg hw]
    exact hK _ _ h
theorem runs_value {o : Oper} {a : Act} {W W' : World} {v : Value} {F : Value → World → Prop} (hw : Region.wanted o (yielded ops a.tmps) = true) (hr : (execOp a.eval o).run P W = .ok (.value v) W') (h : F v W') : Runs P ops o a W F := by
  unfold Runs; rw [if_pos hw]; exact .inl ⟨v, W', hr, h⟩
theorem runs_goes {oi : Oper} {a : Act} {w : World} {F : Value → World → Prop} {f : FuncId} {fn : Func} {ags : Array Operand} {ts : Array TypeId} (hf : P.funcs[f]? = some fn) (hname : (fn.name == "runtime.NumGoroutine") = false) (hb : fn.body.isSome = true) (args : Array Value)
    (hw : Region.wanted oi (yielded ops a.tmps) = true) (hop : oi.op = .call { callee := .value (.func f), args := ags, argTypes := ts }) (hargs : ags.map a.eval = args)
    (h : Calls P f args w fun e w' => ∃ v, e = .returned v ∧ F v w') : Runs P ops oi a w F := by
  unfold Runs
  rw [if_pos hw]
  refine .inr (.inr ⟨f, args, w, ?_, h⟩)
  have he := enters_ hf hname hb args w
  unfold execOp
  simp [hop, resolve, Deferred.ofValue, invoke, Act.eval, hargs, he]
theorem runs_alloc {w0 W : World} {L M : List Part} {o : Oper} {a : Act} {t : TypeId} {cs : Array Value} (h : Mem w0 (L ++ M) W) (hw : Region.wanted o (yielded ops a.tmps) = true) (hr : (execOp a.eval o).run P W = .ok (.value (.pointer (some ⟨W.heap.size, 0, none⟩))) (W.alloc (.cells cs t (0, 0)))) :
    Runs P ops o a W fun v W' => Mem w0 (L ++ ([ptr t cs v] ++ M)) W' := by
  refine runs_value hw hr (Mem.put1 (h.more (below_alloc (Below.refl _ _) _) ⟨_, rfl, blk_new W _⟩ (fun k hk => ?_)))
  have e : W.heap.size = k := by injection hk with h1; injection h1 with h2; injection h2
  exact ⟨Nat.le_of_eq e, e ▸ blk_lt (blk_new W _)⟩
def putL (ops : Array Oper) (a : Act) (us : List (Nat × Value)) : Act := us.foldl (fun a x => a.put ((ops[x.1]?).bind (·.dst)) x.2) a
def ordB (md : Region.Mode) (ops : Array Oper) (lf : Array Bool) : Nat → List Nat → Array Bool → Bool
  | 0, J, l => J.isEmpty && l == lf
  | n + 1, J, l => !(Region.ready md ops l).isEmpty && (Region.ready md ops l).all fun j => J.contains j && ordB md ops lf n (J.erase j) (l.setIfInBounds j true)
def apartB (ops : Array Oper) (J : List Nat) : Bool := J.all fun i => J.all fun j => i == j || (match ops[i]?, ops[j]? with
  | some x, some y => x.apart ops y
  | _, _ => false)
theorem apartB_spec {J : List Nat} (h : apartB ops J = true) {i j : Nat} (hi : i ∈ J) (hj : j ∈ J) (hij : i ≠ j) {x y : Oper} (hx : ops[i]? = some x) (hy : ops[j]? = some y) : x.apart ops y = true := by
  have h1 := List.all_eq_true.1 (List.all_eq_true.1 h i hi) j hj
  rw [hx, hy] at h1
  simpa [hij] using h1
theorem par0 {w0 : World} {L : List Part} {C : Nat → Value → List Part} {lf : Array Bool} {fuel : Nat} (hsel : Region.noSelect ops = true) (hS : ∀ M W, Mem w0 (L ++ M) W → S W) :
    ∀ (n : Nat) (J : List Nat) (l : Array Bool) (a : Act) (W : World) (M : List Part), J.length = n → J.Nodup → ordB md ops lf n J l = true → apartB ops J = true →
      (∀ j ∈ J, ∃ o, ops[j]? = some o ∧ ∀ M W, Mem w0 (L ++ M) W → Runs P ops o a W fun v W' => Mem w0 (L ++ (C j v ++ M)) W') → Mem w0 (L ++ M) W →
      (∀ (us : List (Nat × Value)) W, (us.map (·.1)).Perm J → Mem w0 (L ++ ((us.flatMap fun x => C x.1 x.2) ++ M)) W → wpAnyLast P md ops Q S ds fuel lf (putL ops a us) W) →
      wpAnyLast P md ops Q S ds (fuel + n) l a W
  | 0, J, l, a, W, M, hn, _, ho, _, _, hM, hfin => by
    obtain rfl : J = [] := List.eq_nil_of_length_eq_zero hn
    simp only [ordB, List.isEmpty_nil, Bool.true_and, beq_iff_eq] at ho
    subst ho
    exact hfin [] W (List.Perm.refl _) hM
  | n + 1, J, l, a, W, M, hn, hnd, ho, hap, hst, hM, hfin => by
    simp only [ordB, Bool.and_eq_true, Bool.not_eq_true', List.isEmpty_eq_false_iff] at ho
    refine wpAnyLast_all rfl ho.1 fun j hj => ?_
    have h1 := List.all_eq_true.1 ho.2 j hj
    simp only [Bool.and_eq_true, List.contains_eq_mem, decide_eq_true_eq] at h1
    obtain ⟨hjJ, hoj⟩ := h1
    obtain ⟨o, hoo, hrun⟩ := hst j hjJ
    refine (hrun M W hM).step hoo fun v W' hW' => ⟨fun _ _ => hS _ _ hW', ?_⟩
    refine par0 (C := C) hsel hS n (J.erase j) _ _ W' (C j v ++ M) (by rw [List.length_erase_of_mem hjJ, hn]; rfl) (hnd.erase j) hoj ?_ ?_ hW' ?_
    · refine List.all_eq_true.2 fun x hx => List.all_eq_true.2 fun y hy => ?_
      exact List.all_eq_true.1 (List.all_eq_true.1 hap x (List.mem_of_mem_erase hx)) y (List.mem_of_mem_erase hy)
    · intro k hk
      obtain ⟨ok, hok, hrk⟩ := hst k (List.mem_of_mem_erase hk)
      have hne : j ≠ k := fun e => by
        subst e
        exact absurd hk (List.Nodup.not_mem_erase hnd)
      obtain ⟨p1, _, _⟩ := Oper.apart_spec (apartB_spec hap hjJ (List.mem_of_mem_erase hk) hne hoo hok)
      exact ⟨ok, hok, fun M W hMW => (hrk M W hMW).put (fun cs b => Region.noSelect_spec hsel k ok cs b hok) p1⟩
    · intro us W'' hp hMW
      have := hfin ((j, v) :: us) W'' (by
        rw [List.map_cons]
        exact (List.Perm.cons j hp).trans (List.perm_cons_erase hjJ).symm) (by
        refine hMW.perm (List.Perm.append_left L ?_)
        rw [List.flatMap_cons, List.append_assoc, ← List.append_assoc, ← List.append_assoc]
        exact List.Perm.append_right M List.perm_append_comm)
      have e : putL ops a ((j, v) :: us) = putL ops (a.put o.dst v) us := by
        unfold putL
        rw [List.foldl_cons, hoo]
        rfl
      rw [e] at this
      exact this
theorem par {w0 W : World} {L M : List Part} {fuel : Nat} {l : Array Bool} {a : Act} (J : List Nat) (C : Nat → Value → List Part) (lf : Array Bool) (n : Nat) (hn : J.length = n) (hB : (Region.noSelect ops && (decide J.Nodup && (ordB md ops lf n J l && apartB ops J))) = true) (hS : ∀ M W, Mem w0 (L ++ M) W → S W)
    (hst : ∀ j ∈ J, ∃ o, ops[j]? = some o ∧ ∀ M W, Mem w0 (L ++ M) W → Runs P ops o a W fun v W' => Mem w0 (L ++ (C j v ++ M)) W') (hM : Mem w0 (L ++ M) W)
    (hfin : ∀ (f : Nat → Value) W, Mem w0 (L ++ ((J.flatMap fun j => C j (f j)) ++ M)) W → wpAnyLast P md ops Q S ds fuel lf (putL ops a (J.map fun j => (j, f j))) W) : wpAnyLast P md ops Q S ds (fuel + n) l a W := by
  simp only [Bool.and_eq_true, decide_eq_true_eq] at hB
  obtain ⟨h1, hnd, h3, h4⟩ := hB
  refine par0 h1 hS n J l a W M hn hnd h3 h4 hst hM fun us W' hp hMW => ?_
  have hk : (us.map (·.1)).Nodup := hp.symm.nodup hnd
  obtain ⟨f, hf⟩ : ∃ f : Nat → Value, ∀ x ∈ us, f x.1 = x.2 := by
    clear hMW hp
    induction us with
    | nil => exact ⟨fun _ => undef, by simp⟩
    | cons x us ih =>
      rw [List.map_cons, List.nodup_cons] at hk
      obtain ⟨f, hf⟩ := ih hk.2
      refine ⟨fun k => if k = x.1 then x.2 else f k, fun y hy => ?_⟩
      rcases List.mem_cons.1 hy with rfl | hy
      · simp
      · have hne : y.1 ≠ x.1 := fun e => hk.1 (e ▸ List.mem_map_of_mem hy)
        simp only [if_neg hne]
        exact hf y hy
  have he : us = (us.map (·.1)).map fun j => (j, f j) := by
    rw [List.map_map]
    conv => lhs; rw [← List.map_id us]
    exact List.map_congr_left fun x hx => by simp [hf x hx]
  have hpu : us.Perm (J.map fun j => (j, f j)) := by
    rw [he]
    exact hp.map _
  have hput : putL ops a us = putL ops a (J.map fun j => (j, f j)) := by
    unfold putL
    refine hpu.foldl_eq' (fun x hx y hy z => ?_) a
    by_cases hxy : x.1 = y.1
    · have : x = y := Prod.ext hxy (by rw [← hf x hx, ← hf y hy, hxy])
      rw [this]
    · obtain ⟨ox, hox, _⟩ := hst x.1 (hp.mem_iff.1 (List.mem_map_of_mem hx))
      obtain ⟨oy, hoy, _⟩ := hst y.1 (hp.mem_iff.1 (List.mem_map_of_mem hy))
      obtain ⟨_, p2, _⟩ := Oper.apart_spec (apartB_spec h4 (hp.mem_iff.1 (List.mem_map_of_mem hx)) (hp.mem_iff.1 (List.mem_map_of_mem hy)) hxy hox hoy)
      simp only [hox, hoy, Option.bind_some]
      exact Act.put_comm z x.2 y.2 p2
  rw [hput]
  refine hfin f W' (hMW.perm (List.Perm.append_left L (List.Perm.append_right M ?_)))
  have := hpu.flatMap_right (f := fun x : Nat × Value => C x.1 x.2)
  rw [List.flatMap_map] at this
  exact this
end
end Go.Proofs.YtpnpmeogffodgaaDoor.Q
end
section
namespace Go.Proofs.YtpnpmeogffodgaaDoor.Q
open Go.RowKit Go.Proofs.YtpnpmeogffodgaaDoorW.PrintWords Go.Proofs.YtpnpmeogffodgaaDoorW.PrintLast Go.Proofs.YtpnpmeogffodgaaDoorW.PrintMore
attribute [local go_sem] max2_int min2_int max_two min_two max_three min_three max_four min_four run_store_fnV run_store_fnc run_store_nfn   -- for this text's walks alone
set_option linter.unusedVariables false
set_option linter.unusedSimpArgs false

theorem eqA48 (d : Nat) (w : World) (x0 y0 : Int) (x1 y1 : Int) (x2 y2 : Int) (x3 y3 : Int) :
    (Op.equalIn (d + 3) 48 (.agg #[.int .u64 x0, .int .u64 x1, .int .u64 x2, .int .u64 x3]) (.agg #[.int .u64 y0, .int .u64 y1, .int .u64 y2, .int .u64 y3])).run Tryd.prog w = .ok ((x0 == y0 && (x1 == y1)) && ((x2 == y2 && (x3 == y3)))) w := by
  refine eqarr_of (c := 2) (l := [0, 1]) Tryd.underlying48 (by kernel_rfl) (by kernel_rfl) (by rfl) ?_
  refine eqi_cons (by go_simp) (by go_simp) (eqA36 (d + 0) w _ _ _ _) ?_
  exact eqi_last (by go_simp) (by go_simp) (eqA36 (d + 0) w _ _ _ _)
end Go.Proofs.YtpnpmeogffodgaaDoor.Q
end
section
namespace Go.Proofs.YtpnpmeogffodgaaDoor.Q
open Go.RowKit Go.Proofs.YtpnpmeogffodgaaDoorW.PrintWords Go.Proofs.YtpnpmeogffodgaaDoorW.PrintLast Go.Proofs.YtpnpmeogffodgaaDoorW.PrintMore
set_option linter.unusedVariables false
set_option linter.unusedSimpArgs false
attribute [local go_sem] max2_int min2_int run_store_fnV
attribute [local go_sem high] eqA36 eqA48
mutual
def attestorref07_Clash.j0 : Nat → Int → Int → List (S36) → List (S36) → Bool → Int → Int → Int → Int → Int → Int → Int → Int → Option (Int × Int × Int × Int × Int × Int × Int × Int × Bool)
  | 0, _, _, _, _, _, _, _, _, _, _, _, _, _ => none
  | k + 1, x0, x1, x4, x5, x77, x329000, x329001, x330000, x330001, x333000, x333001, x333002, x333003 => if x77 = true then (some (x333000, x333001, x333002, x333003, x333000, x333001, x333002, x333003, false)) else (attestorref07_Clash.l0 k x0 x1 x4 x5 false 0 x329000 x329001 x330000 x330001 x333000 x333001 x333002 x333003 x333000 x333001 x333002 x333003)
def attestorref07_Clash.l0 : Nat → Int → Int → List (S36) → List (S36) → Bool → Int → Int → Int → Int → Int → Int → Int → Int → Int → Int → Int → Int → Int → Option (Int × Int × Int × Int × Int × Int × Int × Int × Bool)
  | 0, _, _, _, _, _, _, _, _, _, _, _, _, _, _, _, _, _, _ => none
  | k + 1, x0, x1, x4, x5, x18, x19, x329000, x329001, x330000, x330001, x343000, x343001, x343002, x343003, x344000, x344001, x344002, x344003 => if x19 < (x4.length : Int) then (if 0 ≤ x19 then ((attestorref07_pair.f x1 x329000 x329001 ((rd_T36 x4 x19).f0) ((rd_T36 x4 x19).f1)).bind fun bt345 => (if x19 < (x5.length : Int) then ((attestorref07_pair.f x1 x330000 x330001 ((rd_T36 x5 x19).f0) ((rd_T36 x5 x19).f1)).bind fun bt350 => (if ((!(bt345.1 == bt350.1) || (!(bt345.2.1 == bt350.2.1))) || ((!(bt345.2.2.1 == bt350.2.2.1) || (!(bt345.2.2.2 == bt350.2.2.2))))) = true then ((attestorref06_Node.f k x0 bt345.1 bt345.2.1 bt345.2.2.1 bt345.2.2.2).bind fun bt356 => ((attestorref06_Node.f k x0 bt350.1 bt350.2.1 bt350.2.2.1 bt350.2.2.2).bind fun bt358 => (attestorref07_Clash.l0 k x0 (wrap64 (Int.tdiv x1 2)) x4 x5 true (wrap64 (x19 + 1)) bt356.1 bt356.2 bt358.1 bt358.2 bt345.1 bt345.2.1 bt345.2.2.1 bt345.2.2.2 bt350.1 bt350.2.1 bt350.2.2.1 bt350.2.2.2))) else ((attestorref06_Node.f k x0 bt345.1 bt345.2.1 bt345.2.2.1 bt345.2.2.2).bind fun bt360 => ((attestorref06_Node.f k x0 bt350.1 bt350.2.1 bt350.2.2.1 bt350.2.2.2).bind fun bt362 => (attestorref07_Clash.l0 k x0 (wrap64 (Int.tdiv x1 2)) x4 x5 x18 (wrap64 (x19 + 1)) bt360.1 bt360.2 bt362.1 bt362.2 x343000 x343001 x343002 x343003 x344000 x344001 x344002 x344003))))) else (none))) else (none)) else (some (x343000, x343001, x343002, x343003, x344000, x344001, x344002, x344003, x18))
end
def attestorref07_Clash.f (k : Nat) (a0 : Int) (a1 : Int) (a2_0 : Int) (a2_1 : Int) (a3_0 : Int) (a3_1 : Int) (l4 : List (S36)) (l5 : List (S36)) : Option (Int × Int × Int × Int × Int × Int × Int × Int × Bool) := (attestorref01_Valid.f a0).bind fun t333 => (if t333 = true then (if a1 < 0 then (attestorref07_Clash.j0 k a0 a1 l4 l5 true a2_0 a2_1 a3_0 a3_1 0 0 0 0) else (if (l4.length : Int) = (l5.length : Int) then (if (l4.length : Int) > 18 then (attestorref07_Clash.j0 k a0 a1 l4 l5 true a2_0 a2_1 a3_0 a3_1 0 0 0 0) else ((attestorref07_Proper.f a0 a2_0 a2_1).bind fun t334 => (if t334 = true then ((attestorref07_Proper.f a0 a3_0 a3_1).bind fun t335 => (if t335 = true then ((attestorref07_All.f k a0 l4).bind fun t336 => (if t336 = true then ((attestorref07_All.f k a0 l5).bind fun t337 => (if t337 = true then ((attestorref07_Climb.f k a0 a1 a2_0 a2_1 l4).bind fun bt338 => ((attestorref07_Climb.f k a0 a1 a3_0 a3_1 l5).bind fun bt340 => (attestorref07_Clash.j0 k a0 a1 l4 l5 (!(bt338.1 == bt340.1) || (!(bt338.2 == bt340.2))) a2_0 a2_1 a3_0 a3_1 0 0 0 0))) else (attestorref07_Clash.j0 k a0 a1 l4 l5 true a2_0 a2_1 a3_0 a3_1 0 0 0 0))) else (attestorref07_Clash.j0 k a0 a1 l4 l5 true a2_0 a2_1 a3_0 a3_1 0 0 0 0))) else (attestorref07_Clash.j0 k a0 a1 l4 l5 true a2_0 a2_1 a3_0 a3_1 0 0 0 0))) else (attestorref07_Clash.j0 k a0 a1 l4 l5 true a2_0 a2_1 a3_0 a3_1 0 0 0 0)))) else (attestorref07_Clash.j0 k a0 a1 l4 l5 true a2_0 a2_1 a3_0 a3_1 0 0 0 0))) else (attestorref07_Clash.j0 k a0 a1 l4 l5 true a2_0 a2_1 a3_0 a3_1 0 0 0 0))
theorem attestorref07_Clash.mono_l : ∀ k, (∀ y0 y1 y2 y3 y4 y5 y6 y7 y8 y9 y10 y11 y12, LeO (attestorref07_Clash.j0 k y0 y1 y2 y3 y4 y5 y6 y7 y8 y9 y10 y11 y12) (attestorref07_Clash.j0 (k + 1) y0 y1 y2 y3 y4 y5 y6 y7 y8 y9 y10 y11 y12)) ∧ (∀ y0 y1 y2 y3 y4 y5 y6 y7 y8 y9 y10 y11 y12 y13 y14 y15 y16 y17, LeO (attestorref07_Clash.l0 k y0 y1 y2 y3 y4 y5 y6 y7 y8 y9 y10 y11 y12 y13 y14 y15 y16 y17) (attestorref07_Clash.l0 (k + 1) y0 y1 y2 y3 y4 y5 y6 y7 y8 y9 y10 y11 y12 y13 y14 y15 y16 y17))
  | 0 => ⟨fun _ _ _ _ _ _ _ _ _ _ _ _ _ r h => by simp [attestorref07_Clash.j0] at h, fun _ _ _ _ _ _ _ _ _ _ _ _ _ _ _ _ _ _ r h => by simp [attestorref07_Clash.l0] at h⟩
  | k + 1 => by
    obtain ⟨ih0, ih1⟩ := attestorref07_Clash.mono_l k
    refine ⟨?_, ?_⟩
    · intro y0 y1 y2 y3 y4 y5 y6 y7 y8 y9 y10 y11 y12
      unfold attestorref07_Clash.j0
      repeat' first
      | (with_reducible exact ih0 _ _ _ _ _ _ _ _ _ _ _ _ _)
      | (with_reducible exact ih1 _ _ _ _ _ _ _ _ _ _ _ _ _ _ _ _ _ _)
      | (with_reducible exact attestorref06_Node.mono _ _ _ _ _ _)
      | (with_reducible exact attestorref07_All.mono _ _ _)
      | (with_reducible exact attestorref07_Climb.mono _ _ _ _ _ _)
      | (with_reducible exact LeO.refl _)
      | (with_reducible exact LeO.none _)
      | (with_reducible refine LeO.ite ?_ ?_)
      | (with_reducible refine LeO.bind ?_ (fun _ => ?_))
      | exact ih0 _ _ _ _ _ _ _ _ _ _ _ _ _
      | exact ih1 _ _ _ _ _ _ _ _ _ _ _ _ _ _ _ _ _ _
      | exact attestorref06_Node.mono _ _ _ _ _ _
      | exact attestorref07_All.mono _ _ _
      | exact attestorref07_Climb.mono _ _ _ _ _ _
      | exact LeO.none _
      | refine LeO.ite ?_ ?_
      | refine LeO.bind ?_ (fun _ => ?_)
    · intro y0 y1 y2 y3 y4 y5 y6 y7 y8 y9 y10 y11 y12 y13 y14 y15 y16 y17
      unfold attestorref07_Clash.l0
      repeat' first
      | (with_reducible exact ih0 _ _ _ _ _ _ _ _ _ _ _ _ _)
      | (with_reducible exact ih1 _ _ _ _ _ _ _ _ _ _ _ _ _ _ _ _ _ _)
      | (with_reducible exact attestorref06_Node.mono _ _ _ _ _ _)
      | (with_reducible exact attestorref07_All.mono _ _ _)
      | (with_reducible exact attestorref07_Climb.mono _ _ _ _ _ _)
      | (with_reducible exact LeO.refl _)
      | (with_reducible exact LeO.none _)
      | (with_reducible refine LeO.ite ?_ ?_)
      | (with_reducible refine LeO.bind ?_ (fun _ => ?_))
      | exact ih0 _ _ _ _ _ _ _ _ _ _ _ _ _
      | exact ih1 _ _ _ _ _ _ _ _ _ _ _ _ _ _ _ _ _ _
      | exact attestorref06_Node.mono _ _ _ _ _ _
      | exact attestorref07_All.mono _ _ _
      | exact attestorref07_Climb.mono _ _ _ _ _ _
      | exact LeO.none _
      | refine LeO.ite ?_ ?_
      | refine LeO.bind ?_ (fun _ => ?_)
theorem attestorref07_Clash.mono : ∀ a0 a1 a2 a3 a4 a5 a6 a7 k, LeO (attestorref07_Clash.f k a0 a1 a2 a3 a4 a5 a6 a7) (attestorref07_Clash.f (k + 1) a0 a1 a2 a3 a4 a5 a6 a7) := by
  intro a0 a1 a2 a3 a4 a5 a6 a7 k
  obtain ⟨ih0, ih1⟩ := attestorref07_Clash.mono_l k
  unfold attestorref07_Clash.f
  repeat' first
      | (with_reducible exact ih0 _ _ _ _ _ _ _ _ _ _ _ _ _)
      | (with_reducible exact ih1 _ _ _ _ _ _ _ _ _ _ _ _ _ _ _ _ _ _)
      | (with_reducible exact attestorref06_Node.mono _ _ _ _ _ _)
      | (with_reducible exact attestorref07_All.mono _ _ _)
      | (with_reducible exact attestorref07_Climb.mono _ _ _ _ _ _)
      | (with_reducible exact LeO.refl _)
      | (with_reducible exact LeO.none _)
      | (with_reducible refine LeO.ite ?_ ?_)
      | (with_reducible refine LeO.bind ?_ (fun _ => ?_))
      | exact ih0 _ _ _ _ _ _ _ _ _ _ _ _ _
      | exact ih1 _ _ _ _ _ _ _ _ _ _ _ _ _ _ _ _ _ _
      | exact attestorref06_Node.mono _ _ _ _ _ _
      | exact attestorref07_All.mono _ _ _
      | exact attestorref07_Climb.mono _ _ _ _ _ _
      | exact LeO.none _
      | refine LeO.ite ?_ ?_
      | refine LeO.bind ?_ (fun _ => ?_)
def attestorref07_Clash.T2 : Bool × List (List Nat × List Nat) := (true, [([], []), ([0], [0]), ([1], [1]), ([2, 1], [2]), ([3], [3]), ([4, 3], [3, 4]), ([3, 5], [3, 5]), ([6, 3], [6]), ([7], [7]), ([8, 7], [7, 8]), ([7], [7]), ([10, 7], [7, 10]), ([9, 11, 7], [7, 9, 11]), ([7, 12], [7, 12]), ([13, 7], [13]), ([14], [14]), ([15, 14], [14, 15]), ([16, 14], [14, 16]), ([14, 17], [14, 17]), ([18, 14], [18]), ([19], [19]), ([19], [19]), ([20, 21, 19, 19], [19, 20, 21]), ([22, 19], [19, 22]), ([19, 23], [19, 23]), ([24, 22], [24]), ([25], [25]), ([25], [25]), ([26, 27, 25, 25], [25, 26, 27]), ([28, 25], [25, 28]), ([25, 29], [25, 29]), ([30, 28], [30]), ([31], [31]), ([31], [31]), ([32, 33, 31, 31], [31, 32, 33]), ([34, 31], [31, 34]), ([31, 35], [31, 35]), ([36, 34], [36]), ([37], [37]), ([37], [37]), ([38, 39, 37, 37], [37, 38, 39]), ([40, 37], [37, 40]), ([37, 41], [37, 41]), ([42, 40], [42]), ([43], [43]), ([43], [43]), ([43], [43]), ([43], [43]), ([44, 45, 46, 47, 43, 43], [43, 44, 45, 46, 47]), ([43], [43]), ([43], [43]), ([43], [43]), ([43], [43]), ([49, 50, 51, 52, 48, 43], [43, 49, 50, 51, 52]), ([48, 53, 43], [43, 48, 53]), ([43, 54], [43, 54])])
def attestorref07_Clash.B2 : List Nat := [0, 1, 3, 7, 15, 31, 63, 127, 255, 511, 255, 1279, 4095, 8191, 16383, 32767, 65535, 131071, 262143, 524287, 1048575, 1048575, 4194303, 8388607, 16777215, 33554431, 67108863, 67108863, 268435455, 536870911, 1073741823, 2147483647, 4294967295, 4294967295, 17179869183, 34359738367, 68719476735, 137438953471, 274877906943, 274877906943, 1099511627775, 2199023255551, 4398046511103, 8796093022207, 17592186044415, 17592186044415, 17592186044415, 17592186044415, 281474976710655, 17592186044415, 17592186044415, 17592186044415, 17592186044415, 9007199254740991, 18014398509481983, 36028797018963967]
theorem attestorref07_Clash.tab2 : rtab .any (opsOf Tryd.f29 2) = attestorref07_Clash.T2 := by kernel_rfl
theorem attestorref07_Clash.bits2 : waitsOk attestorref07_Clash.T2.2 attestorref07_Clash.B2 = true := by kernel_rfl
/-- The chain of tests, told by letters. -/
theorem rclash_open (k : Nat) (a0 a1 a2_0 a2_1 a3_0 a3_1 : Int) (l4 l5 : List S36) (r1 r2 r3 r4 r5 r6 r7 r8 : Int) (r9 : Bool) (h : attestorref07_Clash.f k a0 a1 a2_0 a2_1 a3_0 a3_1 l4 l5 = some (r1, r2, r3, r4, r5, r6, r7, r8, r9)) :
    ∃ (b1 b2 b3 b4 b5 b6 b7 b8 b9 p5 p6 p7 p8 : Bool) (y z : Int × Int), attestorref01_Valid.f a0 = some (!b1) ∧ b2 = (b1 || decide (a1 < 0)) ∧ b3 = (b2 || ((l4.length : Int) != (l5.length : Int))) ∧ b4 = (b3 || decide ((l4.length : Int) > 18)) ∧ (b4 = false → attestorref07_Proper.f a0 a2_0 a2_1 = some p5) ∧ b5 = (b4 || !p5) ∧ (b5 = false → attestorref07_Proper.f a0 a3_0 a3_1 = some p6) ∧ b6 = (b5 || !p6) ∧ (b6 = false → attestorref07_All.f k a0 l4 = some p7) ∧ b7 = (b6 || !p7) ∧ (b7 = false → attestorref07_All.f k a0 l5 = some p8) ∧ b8 = (b7 || !p8) ∧ (b8 = false → attestorref07_Climb.f k a0 a1 a2_0 a2_1 l4 = some y ∧ attestorref07_Climb.f k a0 a1 a3_0 a3_1 l5 = some z) ∧ b9 = (b8 || (!(y.1 == z.1) || !(y.2 == z.2))) ∧ attestorref07_Clash.j0 k a0 a1 l4 l5 b9 a2_0 a2_1 a3_0 a3_1 0 0 0 0 = some (r1, r2, r3, r4, r5, r6, r7, r8, r9) := by
  have off : ∀ (b1 b2 b3 b4 b5 b6 b7 b8 p5 p6 p7 p8 : Bool), True := fun _ _ _ _ _ _ _ _ _ _ _ _ => trivial
  unfold attestorref07_Clash.f at h
  obtain ⟨v, h1, h⟩ := Option.bind_eq_some_iff.mp h
  cases v with
  | false =>
    rw [if_neg (by decide)] at h
    exact ⟨true, true, true, true, true, true, true, true, true, false, false, false, false, (0, 0), (0, 0), h1, rfl, rfl, rfl, nofun, rfl, nofun, rfl, nofun, rfl, nofun, rfl, nofun, rfl, h⟩
  | true =>
    rw [if_pos rfl] at h
    by_cases h2 : a1 < 0
    · rw [if_pos h2] at h
      exact ⟨false, true, true, true, true, true, true, true, true, false, false, false, false, (0, 0), (0, 0), h1, by simp [h2], rfl, rfl, nofun, rfl, nofun, rfl, nofun, rfl, nofun, rfl, nofun, rfl, h⟩
    rw [if_neg h2] at h
    by_cases h3 : (l4.length : Int) = (l5.length : Int)
    rotate_left
    · rw [if_neg h3] at h
      exact ⟨false, false, true, true, true, true, true, true, true, false, false, false, false, (0, 0), (0, 0), h1, by simp [h2], by simp [bne, h3], rfl, nofun, rfl, nofun, rfl, nofun, rfl, nofun, rfl, nofun, rfl, h⟩
    rw [if_pos h3] at h
    have n3 : ((l4.length : Int) != (l5.length : Int)) = false := by simp [bne, h3]
    by_cases h4 : (l4.length : Int) > 18
    · rw [if_pos h4] at h
      exact ⟨false, false, false, true, true, true, true, true, true, false, false, false, false, (0, 0), (0, 0), h1, by simp [h2], by rw [n3]; rfl, by simp [h4], nofun, rfl, nofun, rfl, nofun, rfl, nofun, rfl, nofun, rfl, h⟩
    rw [if_neg h4] at h
    obtain ⟨p5, q5, h⟩ := Option.bind_eq_some_iff.mp h
    cases p5 with
    | false =>
      rw [if_neg (by decide)] at h
      exact ⟨false, false, false, false, true, true, true, true, true, false, false, false, false, (0, 0), (0, 0), h1, by simp [h2], by rw [n3]; rfl, by simp [h4], fun _ => q5, rfl, nofun, rfl, nofun, rfl, nofun, rfl, nofun, rfl, h⟩
    | true =>
    rw [if_pos rfl] at h
    obtain ⟨p6, q6, h⟩ := Option.bind_eq_some_iff.mp h
    cases p6 with
    | false =>
      rw [if_neg (by decide)] at h
      exact ⟨false, false, false, false, false, true, true, true, true, true, false, false, false, (0, 0), (0, 0), h1, by simp [h2], by rw [n3]; rfl, by simp [h4], fun _ => q5, rfl, fun _ => q6, rfl, nofun, rfl, nofun, rfl, nofun, rfl, h⟩
    | true =>
    rw [if_pos rfl] at h
    obtain ⟨p7, q7, h⟩ := Option.bind_eq_some_iff.mp h
    cases p7 with
    | false =>
      rw [if_neg (by decide)] at h
      exact ⟨false, false, false, false, false, false, true, true, true, true, true, false, false, (0, 0), (0, 0), h1, by simp [h2], by rw [n3]; rfl, by simp [h4], fun _ => q5, rfl, fun _ => q6, rfl, fun _ => q7, rfl, nofun, rfl, nofun, rfl, h⟩
    | true =>
    rw [if_pos rfl] at h
    obtain ⟨p8, q8, h⟩ := Option.bind_eq_some_iff.mp h
    cases p8 with
    | false =>
      rw [if_neg (by decide)] at h
      exact ⟨false, false, false, false, false, false, false, true, true, true, true, true, false, (0, 0), (0, 0), h1, by simp [h2], by rw [n3]; rfl, by simp [h4], fun _ => q5, rfl, fun _ => q6, rfl, fun _ => q7, rfl, fun _ => q8, rfl, nofun, rfl, h⟩
    | true =>
    rw [if_pos rfl] at h
    obtain ⟨y, q9, h⟩ := Option.bind_eq_some_iff.mp h
    obtain ⟨z, q10, h⟩ := Option.bind_eq_some_iff.mp h
    exact ⟨false, false, false, false, false, false, false, false, _, true, true, true, true, y, z, h1, by simp [h2], by rw [n3]; rfl, by simp [h4], fun _ => q5, rfl, fun _ => q6, rfl, fun _ => q7, rfl, fun _ => q8, rfl, fun _ => ⟨q9, q10⟩, rfl, by simpa using h⟩
set_option maxHeartbeats 16000000 in
set_option maxRecDepth 100000 in
theorem attestorref07_Clash.calls (k : Nat) (a0 : Int) (a1 : Int) (a2_0 : Int) (a2_1 : Int) (a3_0 : Int) (a3_1 : Int) (A4 : Option Addr) (c4 : Nat) (l4 : List (S36)) (A5 : Option Addr) (c5 : Nat) (l5 : List (S36)) (r1 : Int) (r2 : Int) (r3 : Int) (r4 : Int) (r5 : Int) (r6 : Int) (r7 : Int) (r8 : Int) (r9 : Bool) (w : World) (hr4 : Kd.C k36 w A4 l4.length l4) (hc4 : l4.length ≤ c4) (hr5 : Kd.C k36 w A5 l5.length l5) (hc5 : l5.length ≤ c5) (h : attestorref07_Clash.f k a0 a1 a2_0 a2_1 a3_0 a3_1 l4 l5 = some (r1, r2, r3, r4, r5, r6, r7, r8, r9)) :
    Calls Tryd.prog 29 #[.int .i64 a0, .int .i64 a1, .agg #[.int .u64 a2_0, .int .u64 a2_1], .agg #[.int .u64 a3_0, .int .u64 a3_1], .slice A4 l4.length c4, .slice A5 l5.length c5] w fun e w' => e = .returned (.tuple #[.agg #[.int .u64 r1, .int .u64 r2, .int .u64 r3, .int .u64 r4], .agg #[.int .u64 r5, .int .u64 r6, .int .u64 r7, .int .u64 r8], .bool r9]) ∧ Below w.heap.size w w' := by
  have hu36 := Tryd.underlying36
  have hu48 := Tryd.underlying48
  have HR4 := Aside0.mk hr4
  have HC4 := Aside0.mk hc4
  have HR5 := Aside0.mk hr5
  have HC5 := Aside0.mk hc5
  clear hr4 hc4 hr5 hc5
  have HM := Mem.start w
  obtain ⟨b1, b2, b3, b4, b5, b6, b7, b8, b9, p5, p6, p7, p8, ⟨y0, y1⟩, ⟨z0, z1⟩, e1, e2, e3, e4, h5, e5, h6, e6, h7, e7, h8, e8, h9, e9, hj⟩ := rclash_open _ _ _ _ _ _ _ _ _ _ _ _ _ _ _ _ _ _ h
  clear h
  have HJ := Aside0.mk hj
  have E2 := Aside0.mk e2
  have E3 := Aside0.mk e3
  have E4 := Aside0.mk e4
  have E5 := Aside0.mk e5
  have E6 := Aside0.mk e6
  have E7 := Aside0.mk e7
  have E8 := Aside0.mk e8
  have E9 := Aside0.mk e9
  have H5 := Aside0.mk h5
  have H6 := Aside0.mk h6
  have H7 := Aside0.mk h7
  have H8 := Aside0.mk h8
  have H9 := Aside0.mk h9
  clear hj e2 e3 e4 h5 e5 h6 e6 h7 e7 h8 e8 h9 e9
  go_enter Tryd.func29, Tryd.ntmps29
  go_wp2_with (first
    | ((with_reducible refine gate_dst (N := 8) rfl ?_); refine box_event ?hg (N := 8) ?hd (cs := #[.int .u64 a2_0, .int .u64 a2_1]) (t := 36) ?hr ?_; (case hd => rfl); (case hg => rfl); (case hr => first | (go_simp; done) | (go_simp; rfl)); intro g8 xg w1 y_ hb; replace HM := Mem.new HM xg y_ hb; clear xg y_ hb)
    | ((with_reducible refine gate_dst (N := 9) rfl ?_); refine box_event ?hg (N := 9) ?hd (cs := #[.int .u64 a3_0, .int .u64 a3_1]) (t := 36) ?hr ?_; (case hd => rfl); (case hg => rfl); (case hr => first | (go_simp; done) | (go_simp; rfl)); intro g9 xg w2 y_ hb; replace HM := Mem.new HM xg y_ hb; clear xg y_ hb)
    | ((with_reducible refine gate_dst (N := 12) rfl ?_); refine box_event ?hg (N := 12) ?hd (cs := #[.int .u64 0, .int .u64 0, .int .u64 0, .int .u64 0]) (t := 48) ?hr ?_; (case hd => rfl); (case hg => rfl); (case hr => first | (go_simp; done) | (go_simp; rfl)); intro g12 xg w3 y_ hb; replace HM := Mem.new HM xg y_ hb; clear xg y_ hb)
    | ((with_reducible refine gate_dst (N := 13) rfl ?_); refine box_event ?hg (N := 13) ?hd (cs := #[.int .u64 0, .int .u64 0, .int .u64 0, .int .u64 0]) (t := 48) ?hr ?_; (case hd => rfl); (case hg => rfl); (case hr => first | (go_simp; done) | (go_simp; rfl)); intro g13 xg w4 y_ hb; replace HM := Mem.new HM xg y_ hb; clear xg y_ hb)
    | ((with_reducible refine gate_dst (N := 15) rfl ?_); refine box_event ?hg (N := 15) ?hd (cs := #[.int .u64 0, .int .u64 0, .int .u64 0, .int .u64 0]) (t := 48) ?hr ?_; (case hd => rfl); (case hg => rfl); (case hr => first | (go_simp; done) | (go_simp; rfl)); intro g15 xg w5 y_ hb; replace HM := Mem.new HM xg y_ hb; clear xg y_ hb))
  replace HM : Mem w [bk g8 36 #[.int .u64 a2_0, .int .u64 a2_1], bk g9 36 #[.int .u64 a3_0, .int .u64 a3_1], bk g15 48 #[.int .u64 0, .int .u64 0, .int .u64 0, .int .u64 0], bk g13 48 #[.int .u64 0, .int .u64 0, .int .u64 0, .int .u64 0], bk g12 48 #[.int .u64 0, .int .u64 0, .int .u64 0, .int .u64 0]] w5 := HM.sel [4, 3, 0, 1, 2] (by decide)
  refine start_ (n := 56) (S := Sees w [bk g8 36 #[.int .u64 a2_0, .int .u64 a2_1], bk g9 36 #[.int .u64 a3_0, .int .u64 a3_1]]) (ds := []) (up 56 0 []) (by kernel_rfl) rfl (by kernel_rfl) (HM.drew.see 2) (fun hHeld => ?_)
  refine with_tabW attestorref07_Clash.tab2 attestorref07_Clash.bits2 (fun HT_ HW_ => ?_)
  replace HM := HM.drew
  generalize w5.drew = w6 at HM hHeld ⊢
  refine pure_ (i := 0) (N := some 22) (v := .int .i64 a0) (a' := ?_) (up 56 1 []) rfl rfl (any_of HT_.out (by kernel_rfl)) (fun _ _ _ h => h) (Or.inl ⟨by rfl, fun w' => by rfl⟩) ?_ ?_
  rotate_left
  · simp only [Act.put, List.setIfInBounds_toArray, List.set_cons_zero, List.set_cons_succ, i64_w, i32_w]
    rfl
  refine one_ (i := 1) (N := some 23) (up 56 2 []) rfl rfl (one_of HT_.out (by kernel_rfl)) (by decide) (fun K hK => ?_)
  refine goes_ Tryd.func42 (by kernel_rfl) rfl #[.int .i64 a0] (by rfl) rfl rfl (by (try simp only [List.map_toArray, List.map_cons, List.map_nil]); first | done | rfl | (go_simp; done)) ?_
  with_reducible refine (attestorref01_Valid.calls a0 (!b1) _ e1).mono ?_
  rintro e w7 ⟨rfl, hd_⟩
  refine ⟨_, rfl, ?_⟩
  have hb := hd_.below
  replace HM := HM.call hb
  clear hb
  refine hK.out _ _ (HM.see 2) (fun hHeld => ?_)
  clear hK K
  refine norm_ (a' := ?_) ?_ ?_
  rotate_left
  · show Act.put _ (some 23) _ = _
    simp only [Act.put, List.setIfInBounds_toArray, List.set_cons_zero, List.set_cons_succ, i64_w, i32_w]
    rfl
  refine pure_ (i := 2) (N := some 24) (v := .bool b1) (a' := ?_) (up 56 3 []) rfl rfl (any_of HT_.out (by kernel_rfl)) (fun _ _ _ h => h) (Or.inl ⟨by rfl, fun w' => by cases b1 <;> first | rfl | (go_simp; done)⟩) ?_ ?_
  rotate_left
  · simp only [Act.put, List.setIfInBounds_toArray, List.set_cons_zero, List.set_cons_succ, i64_w, i32_w]
    rfl
  refine pure_ (i := 3) (N := some 25) (v := .bool b1) (a' := ?_) (up 56 4 []) rfl rfl (any_of HT_.out (by kernel_rfl)) (fun _ _ _ h => h) (Or.inl ⟨by rfl, fun w' => by rfl⟩) ?_ ?_
  rotate_left
  · simp only [Act.put, List.setIfInBounds_toArray, List.set_cons_zero, List.set_cons_succ, i64_w, i32_w]
    rfl
  refine pure_ (i := 4) (N := some 26) (v := gd b1 (.int .i64 a1)) (a' := ?_) (up 56 5 []) rfl rfl (any_of HT_.out (by kernel_rfl)) (fun _ _ _ h => h) (yl b1 (by rintro rfl; exact ⟨by rfl, fun w' => by first | rfl | (dsimp only [gd]; first | (go_simp; done) | (go_simp; rfl))⟩) (by rintro rfl; rfl)) ?_ ?_
  rotate_left
  · simp only [Act.put, List.setIfInBounds_toArray, List.set_cons_zero, List.set_cons_succ, i64_w, i32_w]
    rfl
  refine pure_ (i := 5) (N := some 27) (v := gd b1 (.bool (decide (a1 < 0)))) (a' := ?_) (up 56 6 []) rfl rfl (any_of HT_.out (by kernel_rfl)) (fun _ _ _ h => h) (yl b1 (by rintro rfl; exact ⟨by rfl, fun w' => by first | rfl | (dsimp only [gd]; first | (go_simp; done) | (go_simp; rfl))⟩) (by rintro rfl; rfl)) ?_ ?_
  rotate_left
  · simp only [Act.put, List.setIfInBounds_toArray, List.set_cons_zero, List.set_cons_succ, i64_w, i32_w]
    rfl
  refine pure_ (i := 6) (N := some 28) (v := .bool b2) (a' := ?_) (up 56 7 []) rfl rfl (any_of HT_.out (by kernel_rfl)) (fun _ _ _ h => h) (Or.inl ⟨by rfl, fun w' => by rw [E2.out]; cases b1 <;> first | rfl | (dsimp only [gd]; go_simp; done) | (dsimp only [gd]; go_simp; rfl)⟩) ?_ ?_
  rotate_left
  · simp only [Act.put, List.setIfInBounds_toArray, List.set_cons_zero, List.set_cons_succ, i64_w, i32_w]
    rfl
  refine pure_ (i := 7) (N := some 29) (v := .bool b2) (a' := ?_) (up 56 8 []) rfl rfl (any_of HT_.out (by kernel_rfl)) (fun _ _ _ h => h) (Or.inl ⟨by rfl, fun w' => by rfl⟩) ?_ ?_
  rotate_left
  · simp only [Act.put, List.setIfInBounds_toArray, List.set_cons_zero, List.set_cons_succ, i64_w, i32_w]
    rfl
  refine pure_ (i := 8) (N := some 30) (v := gd b2 (.slice A4 l4.length c4)) (a' := ?_) (up 56 9 []) rfl rfl (any_of HT_.out (by kernel_rfl)) (fun _ _ _ h => h) (yl b2 (by rintro rfl; exact ⟨by rfl, fun w' => by first | rfl | (dsimp only [gd]; first | (go_simp; done) | (go_simp; rfl))⟩) (by rintro rfl; rfl)) ?_ ?_
  rotate_left
  · simp only [Act.put, List.setIfInBounds_toArray, List.set_cons_zero, List.set_cons_succ, i64_w, i32_w]
    rfl
  refine pure_ (i := 9) (N := some 31) (v := gd b2 (.int .i64 (l4.length : Int))) (a' := ?_) (up 56 10 []) rfl rfl (any_of HT_.out (by kernel_rfl)) (fun _ _ _ h => h) (yl b2 (by rintro rfl; exact ⟨by rfl, fun w' => by first | rfl | (dsimp only [gd]; first | (go_simp; done) | (go_simp; rfl))⟩) (by rintro rfl; rfl)) ?_ ?_
  rotate_left
  · simp only [Act.put, List.setIfInBounds_toArray, List.set_cons_zero, List.set_cons_succ, i64_w, i32_w]
    rfl
  refine pure_ (i := 10) (N := some 32) (v := gd b2 (.slice A5 l5.length c5)) (a' := ?_) (up 56 11 []) rfl rfl (any_of HT_.out (by kernel_rfl)) (fun _ _ _ h => h) (yl b2 (by rintro rfl; exact ⟨by rfl, fun w' => by first | rfl | (dsimp only [gd]; first | (go_simp; done) | (go_simp; rfl))⟩) (by rintro rfl; rfl)) ?_ ?_
  rotate_left
  · simp only [Act.put, List.setIfInBounds_toArray, List.set_cons_zero, List.set_cons_succ, i64_w, i32_w]
    rfl
  refine pure_ (i := 11) (N := some 33) (v := gd b2 (.int .i64 (l5.length : Int))) (a' := ?_) (up 56 12 []) rfl rfl (any_of HT_.out (by kernel_rfl)) (fun _ _ _ h => h) (yl b2 (by rintro rfl; exact ⟨by rfl, fun w' => by first | rfl | (dsimp only [gd]; first | (go_simp; done) | (go_simp; rfl))⟩) (by rintro rfl; rfl)) ?_ ?_
  rotate_left
  · simp only [Act.put, List.setIfInBounds_toArray, List.set_cons_zero, List.set_cons_succ, i64_w, i32_w]
    rfl
  refine pure_ (i := 12) (N := some 34) (v := gd b2 (.bool ((l4.length : Int) != (l5.length : Int)))) (a' := ?_) (up 56 13 []) rfl rfl (any_of HT_.out (by kernel_rfl)) (fun _ _ _ h => h) (yl b2 (by rintro rfl; exact ⟨by rfl, fun w' => by first | rfl | (dsimp only [gd]; first | (go_simp; done) | (go_simp; rfl))⟩) (by rintro rfl; rfl)) ?_ ?_
  rotate_left
  · simp only [Act.put, List.setIfInBounds_toArray, List.set_cons_zero, List.set_cons_succ, i64_w, i32_w]
    rfl
  refine pure_ (i := 13) (N := some 35) (v := .bool b3) (a' := ?_) (up 56 14 []) rfl rfl (any_of HT_.out (by kernel_rfl)) (fun _ _ _ h => h) (Or.inl ⟨by rfl, fun w' => by rw [E3.out]; cases b2 <;> first | rfl | (dsimp only [gd]; go_simp; done) | (dsimp only [gd]; go_simp; rfl)⟩) ?_ ?_
  rotate_left
  · simp only [Act.put, List.setIfInBounds_toArray, List.set_cons_zero, List.set_cons_succ, i64_w, i32_w]
    rfl
  refine pure_ (i := 14) (N := some 36) (v := .bool b3) (a' := ?_) (up 56 15 []) rfl rfl (any_of HT_.out (by kernel_rfl)) (fun _ _ _ h => h) (Or.inl ⟨by rfl, fun w' => by rfl⟩) ?_ ?_
  rotate_left
  · simp only [Act.put, List.setIfInBounds_toArray, List.set_cons_zero, List.set_cons_succ, i64_w, i32_w]
    rfl
  refine pure_ (i := 15) (N := some 37) (v := gd b3 (.slice A4 l4.length c4)) (a' := ?_) (up 56 16 []) rfl rfl (any_of HT_.out (by kernel_rfl)) (fun _ _ _ h => h) (yl b3 (by rintro rfl; exact ⟨by rfl, fun w' => by first | rfl | (dsimp only [gd]; first | (go_simp; done) | (go_simp; rfl))⟩) (by rintro rfl; rfl)) ?_ ?_
  rotate_left
  · simp only [Act.put, List.setIfInBounds_toArray, List.set_cons_zero, List.set_cons_succ, i64_w, i32_w]
    rfl
  refine pure_ (i := 16) (N := some 38) (v := gd b3 (.int .i64 (l4.length : Int))) (a' := ?_) (up 56 17 []) rfl rfl (any_of HT_.out (by kernel_rfl)) (fun _ _ _ h => h) (yl b3 (by rintro rfl; exact ⟨by rfl, fun w' => by first | rfl | (dsimp only [gd]; first | (go_simp; done) | (go_simp; rfl))⟩) (by rintro rfl; rfl)) ?_ ?_
  rotate_left
  · simp only [Act.put, List.setIfInBounds_toArray, List.set_cons_zero, List.set_cons_succ, i64_w, i32_w]
    rfl
  refine pure_ (i := 17) (N := some 39) (v := gd b3 (.bool (decide ((l4.length : Int) > 18)))) (a' := ?_) (up 56 18 []) rfl rfl (any_of HT_.out (by kernel_rfl)) (fun _ _ _ h => h) (yl b3 (by rintro rfl; exact ⟨by rfl, fun w' => by first | rfl | (dsimp only [gd]; first | (go_simp; done) | (go_simp; rfl))⟩) (by rintro rfl; rfl)) ?_ ?_
  rotate_left
  · simp only [Act.put, List.setIfInBounds_toArray, List.set_cons_zero, List.set_cons_succ, i64_w, i32_w]
    rfl
  refine pure_ (i := 18) (N := some 40) (v := .bool b4) (a' := ?_) (up 56 19 []) rfl rfl (any_of HT_.out (by kernel_rfl)) (fun _ _ _ h => h) (Or.inl ⟨by rfl, fun w' => by rw [E4.out]; cases b3 <;> first | rfl | (dsimp only [gd]; go_simp; done) | (dsimp only [gd]; go_simp; rfl)⟩) ?_ ?_
  rotate_left
  · simp only [Act.put, List.setIfInBounds_toArray, List.set_cons_zero, List.set_cons_succ, i64_w, i32_w]
    rfl
  refine pure_ (i := 19) (N := some 41) (v := .bool b4) (a' := ?_) (up 56 20 []) rfl rfl (any_of HT_.out (by kernel_rfl)) (fun _ _ _ h => h) (Or.inl ⟨by rfl, fun w' => by rfl⟩) ?_ ?_
  rotate_left
  · simp only [Act.put, List.setIfInBounds_toArray, List.set_cons_zero, List.set_cons_succ, i64_w, i32_w]
    rfl
  refine pure_ (i := 20) (N := some 42) (v := gd b4 (.int .i64 a0)) (a' := ?_) (up 56 21 []) rfl rfl (any_of HT_.out (by kernel_rfl)) (fun _ _ _ h => h) (yl b4 (by rintro rfl; exact ⟨by rfl, fun w' => by first | rfl | (dsimp only [gd]; first | (go_simp; done) | (go_simp; rfl))⟩) (by rintro rfl; rfl)) ?_ ?_
  rotate_left
  · simp only [Act.put, List.setIfInBounds_toArray, List.set_cons_zero, List.set_cons_succ, i64_w, i32_w]
    rfl
  refine take_ (i := 21) (N := some 43) (v := gd b4 (.agg #[.int .u64 a2_0, .int .u64 a2_1])) (a' := ?_) (up 56 22 []) rfl rfl (take_ofW HT_.out HW_.out (by kernel_rfl)) (fun _ _ _ h => h) (yh b4 (by rintro rfl; exact ⟨by rfl, fun w' h_ => by obtain ⟨s_g8_0, s_g8_1⟩ := h_.c2 (i := 0) rfl; first | rfl | (dsimp only [gd]; first | (go_simp; done) | (go_simp; rfl))⟩) (by rintro rfl; rfl)) hHeld ?_ ?_
  rotate_left
  · simp only [Act.put, List.setIfInBounds_toArray, List.set_cons_zero, List.set_cons_succ, i64_w, i32_w]
    rfl
  refine one_ (i := 22) (N := some 44) (up 56 23 []) rfl rfl (one_of HT_.out (by kernel_rfl)) (by decide) (fun K hK => ?_)
  refine gcall_ b4 (.bool p5) (by rintro rfl; rfl) (by rintro rfl hJ; refine goes_ Tryd.func49 (by kernel_rfl) rfl #[.int .i64 a0, .agg #[.int .u64 a2_0, .int .u64 a2_1]] (by rfl) rfl rfl (by (try simp only [List.map_toArray, List.map_cons, List.map_nil]); first | done | rfl | (go_simp; done)) ?_; with_reducible refine (attestorref07_Proper.calls a0 a2_0 a2_1 p5 _ (H5.out rfl)).mono ?_; rintro e w' ⟨rfl, hb⟩; exact ⟨_, rfl, hJ _ hb⟩) ?_
  intro w8 hb
  replace HM := HM.call hb
  clear hb
  refine hK.out _ _ (HM.see 2) (fun hHeld => ?_)
  clear hK K
  refine norm_ (a' := ?_) ?_ ?_
  rotate_left
  · show Act.put _ (some 44) _ = _
    simp only [Act.put, List.setIfInBounds_toArray, List.set_cons_zero, List.set_cons_succ, i64_w, i32_w]
    rfl
  refine pure_ (i := 23) (N := some 45) (v := gd b4 (.bool (!p5))) (a' := ?_) (up 56 24 []) rfl rfl (any_of HT_.out (by kernel_rfl)) (fun _ _ _ h => h) (yl b4 (by rintro rfl; exact ⟨by rfl, fun w' => by first | rfl | (dsimp only [gd]; first | (go_simp; done) | (go_simp; rfl))⟩) (by rintro rfl; rfl)) ?_ ?_
  rotate_left
  · simp only [Act.put, List.setIfInBounds_toArray, List.set_cons_zero, List.set_cons_succ, i64_w, i32_w]
    rfl
  refine pure_ (i := 24) (N := some 46) (v := .bool b5) (a' := ?_) (up 56 25 []) rfl rfl (any_of HT_.out (by kernel_rfl)) (fun _ _ _ h => h) (Or.inl ⟨by rfl, fun w' => by rw [E5.out]; cases b4 <;> first | rfl | (dsimp only [gd]; go_simp; done) | (dsimp only [gd]; go_simp; rfl)⟩) ?_ ?_
  rotate_left
  · simp only [Act.put, List.setIfInBounds_toArray, List.set_cons_zero, List.set_cons_succ, i64_w, i32_w]
    rfl
  refine pure_ (i := 25) (N := some 47) (v := .bool b5) (a' := ?_) (up 56 26 []) rfl rfl (any_of HT_.out (by kernel_rfl)) (fun _ _ _ h => h) (Or.inl ⟨by rfl, fun w' => by rfl⟩) ?_ ?_
  rotate_left
  · simp only [Act.put, List.setIfInBounds_toArray, List.set_cons_zero, List.set_cons_succ, i64_w, i32_w]
    rfl
  refine pure_ (i := 26) (N := some 48) (v := gd b5 (.int .i64 a0)) (a' := ?_) (up 56 27 []) rfl rfl (any_of HT_.out (by kernel_rfl)) (fun _ _ _ h => h) (yl b5 (by rintro rfl; exact ⟨by rfl, fun w' => by first | rfl | (dsimp only [gd]; first | (go_simp; done) | (go_simp; rfl))⟩) (by rintro rfl; rfl)) ?_ ?_
  rotate_left
  · simp only [Act.put, List.setIfInBounds_toArray, List.set_cons_zero, List.set_cons_succ, i64_w, i32_w]
    rfl
  refine take_ (i := 27) (N := some 49) (v := gd b5 (.agg #[.int .u64 a3_0, .int .u64 a3_1])) (a' := ?_) (up 56 28 []) rfl rfl (take_ofW HT_.out HW_.out (by kernel_rfl)) (fun _ _ _ h => h) (yh b5 (by rintro rfl; exact ⟨by rfl, fun w' h_ => by obtain ⟨s_g9_0, s_g9_1⟩ := h_.c2 (i := 1) rfl; first | rfl | (dsimp only [gd]; first | (go_simp; done) | (go_simp; rfl))⟩) (by rintro rfl; rfl)) hHeld ?_ ?_
  rotate_left
  · simp only [Act.put, List.setIfInBounds_toArray, List.set_cons_zero, List.set_cons_succ, i64_w, i32_w]
    rfl
  refine one_ (i := 28) (N := some 50) (up 56 29 []) rfl rfl (one_of HT_.out (by kernel_rfl)) (by decide) (fun K hK => ?_)
  refine gcall_ b5 (.bool p6) (by rintro rfl; rfl) (by rintro rfl hJ; refine goes_ Tryd.func49 (by kernel_rfl) rfl #[.int .i64 a0, .agg #[.int .u64 a3_0, .int .u64 a3_1]] (by rfl) rfl rfl (by (try simp only [List.map_toArray, List.map_cons, List.map_nil]); first | done | rfl | (go_simp; done)) ?_; with_reducible refine (attestorref07_Proper.calls a0 a3_0 a3_1 p6 _ (H6.out rfl)).mono ?_; rintro e w' ⟨rfl, hb⟩; exact ⟨_, rfl, hJ _ hb⟩) ?_
  intro w9 hb
  replace HM := HM.call hb
  clear hb
  refine hK.out _ _ (HM.see 2) (fun hHeld => ?_)
  clear hK K
  refine norm_ (a' := ?_) ?_ ?_
  rotate_left
  · show Act.put _ (some 50) _ = _
    simp only [Act.put, List.setIfInBounds_toArray, List.set_cons_zero, List.set_cons_succ, i64_w, i32_w]
    rfl
  refine pure_ (i := 29) (N := some 51) (v := gd b5 (.bool (!p6))) (a' := ?_) (up 56 30 []) rfl rfl (any_of HT_.out (by kernel_rfl)) (fun _ _ _ h => h) (yl b5 (by rintro rfl; exact ⟨by rfl, fun w' => by first | rfl | (dsimp only [gd]; first | (go_simp; done) | (go_simp; rfl))⟩) (by rintro rfl; rfl)) ?_ ?_
  rotate_left
  · simp only [Act.put, List.setIfInBounds_toArray, List.set_cons_zero, List.set_cons_succ, i64_w, i32_w]
    rfl
  refine pure_ (i := 30) (N := some 52) (v := .bool b6) (a' := ?_) (up 56 31 []) rfl rfl (any_of HT_.out (by kernel_rfl)) (fun _ _ _ h => h) (Or.inl ⟨by rfl, fun w' => by rw [E6.out]; cases b5 <;> first | rfl | (dsimp only [gd]; go_simp; done) | (dsimp only [gd]; go_simp; rfl)⟩) ?_ ?_
  rotate_left
  · simp only [Act.put, List.setIfInBounds_toArray, List.set_cons_zero, List.set_cons_succ, i64_w, i32_w]
    rfl
  refine pure_ (i := 31) (N := some 53) (v := .bool b6) (a' := ?_) (up 56 32 []) rfl rfl (any_of HT_.out (by kernel_rfl)) (fun _ _ _ h => h) (Or.inl ⟨by rfl, fun w' => by rfl⟩) ?_ ?_
  rotate_left
  · simp only [Act.put, List.setIfInBounds_toArray, List.set_cons_zero, List.set_cons_succ, i64_w, i32_w]
    rfl
  refine pure_ (i := 32) (N := some 54) (v := gd b6 (.int .i64 a0)) (a' := ?_) (up 56 33 []) rfl rfl (any_of HT_.out (by kernel_rfl)) (fun _ _ _ h => h) (yl b6 (by rintro rfl; exact ⟨by rfl, fun w' => by first | rfl | (dsimp only [gd]; first | (go_simp; done) | (go_simp; rfl))⟩) (by rintro rfl; rfl)) ?_ ?_
  rotate_left
  · simp only [Act.put, List.setIfInBounds_toArray, List.set_cons_zero, List.set_cons_succ, i64_w, i32_w]
    rfl
  refine pure_ (i := 33) (N := some 55) (v := gd b6 (.slice A4 l4.length c4)) (a' := ?_) (up 56 34 []) rfl rfl (any_of HT_.out (by kernel_rfl)) (fun _ _ _ h => h) (yl b6 (by rintro rfl; exact ⟨by rfl, fun w' => by first | rfl | (dsimp only [gd]; first | (go_simp; done) | (go_simp; rfl))⟩) (by rintro rfl; rfl)) ?_ ?_
  rotate_left
  · simp only [Act.put, List.setIfInBounds_toArray, List.set_cons_zero, List.set_cons_succ, i64_w, i32_w]
    rfl
  refine one_ (i := 34) (N := some 56) (up 56 35 []) rfl rfl (one_of HT_.out (by kernel_rfl)) (by decide) (fun K hK => ?_)
  refine gcall_ b6 (.bool p7) (by rintro rfl; rfl) (by rintro rfl hJ; refine goes_ Tryd.func43 (by kernel_rfl) rfl #[.int .i64 a0, .slice A4 l4.length c4] (by rfl) rfl rfl (by (try simp only [List.map_toArray, List.map_cons, List.map_nil]); first | done | rfl | (go_simp; done)) ?_; with_reducible refine (attestorref07_All.calls k a0 _ _ l4 p7 _ (Kd.C_below HR4.out HM.bel) HC4.out (H7.out rfl)).mono ?_; rintro e w' ⟨rfl, hb⟩; exact ⟨_, rfl, hJ _ hb⟩) ?_
  intro w10 hb
  replace HM := HM.call hb
  clear hb
  refine hK.out _ _ (HM.see 2) (fun hHeld => ?_)
  clear hK K
  refine norm_ (a' := ?_) ?_ ?_
  rotate_left
  · show Act.put _ (some 56) _ = _
    simp only [Act.put, List.setIfInBounds_toArray, List.set_cons_zero, List.set_cons_succ, i64_w, i32_w]
    rfl
  refine pure_ (i := 35) (N := some 57) (v := gd b6 (.bool (!p7))) (a' := ?_) (up 56 36 []) rfl rfl (any_of HT_.out (by kernel_rfl)) (fun _ _ _ h => h) (yl b6 (by rintro rfl; exact ⟨by rfl, fun w' => by first | rfl | (dsimp only [gd]; first | (go_simp; done) | (go_simp; rfl))⟩) (by rintro rfl; rfl)) ?_ ?_
  rotate_left
  · simp only [Act.put, List.setIfInBounds_toArray, List.set_cons_zero, List.set_cons_succ, i64_w, i32_w]
    rfl
  refine pure_ (i := 36) (N := some 58) (v := .bool b7) (a' := ?_) (up 56 37 []) rfl rfl (any_of HT_.out (by kernel_rfl)) (fun _ _ _ h => h) (Or.inl ⟨by rfl, fun w' => by rw [E7.out]; cases b6 <;> first | rfl | (dsimp only [gd]; go_simp; done) | (dsimp only [gd]; go_simp; rfl)⟩) ?_ ?_
  rotate_left
  · simp only [Act.put, List.setIfInBounds_toArray, List.set_cons_zero, List.set_cons_succ, i64_w, i32_w]
    rfl
  refine pure_ (i := 37) (N := some 59) (v := .bool b7) (a' := ?_) (up 56 38 []) rfl rfl (any_of HT_.out (by kernel_rfl)) (fun _ _ _ h => h) (Or.inl ⟨by rfl, fun w' => by rfl⟩) ?_ ?_
  rotate_left
  · simp only [Act.put, List.setIfInBounds_toArray, List.set_cons_zero, List.set_cons_succ, i64_w, i32_w]
    rfl
  refine pure_ (i := 38) (N := some 60) (v := gd b7 (.int .i64 a0)) (a' := ?_) (up 56 39 []) rfl rfl (any_of HT_.out (by kernel_rfl)) (fun _ _ _ h => h) (yl b7 (by rintro rfl; exact ⟨by rfl, fun w' => by first | rfl | (dsimp only [gd]; first | (go_simp; done) | (go_simp; rfl))⟩) (by rintro rfl; rfl)) ?_ ?_
  rotate_left
  · simp only [Act.put, List.setIfInBounds_toArray, List.set_cons_zero, List.set_cons_succ, i64_w, i32_w]
    rfl
  refine pure_ (i := 39) (N := some 61) (v := gd b7 (.slice A5 l5.length c5)) (a' := ?_) (up 56 40 []) rfl rfl (any_of HT_.out (by kernel_rfl)) (fun _ _ _ h => h) (yl b7 (by rintro rfl; exact ⟨by rfl, fun w' => by first | rfl | (dsimp only [gd]; first | (go_simp; done) | (go_simp; rfl))⟩) (by rintro rfl; rfl)) ?_ ?_
  rotate_left
  · simp only [Act.put, List.setIfInBounds_toArray, List.set_cons_zero, List.set_cons_succ, i64_w, i32_w]
    rfl
  refine one_ (i := 40) (N := some 62) (up 56 41 []) rfl rfl (one_of HT_.out (by kernel_rfl)) (by decide) (fun K hK => ?_)
  refine gcall_ b7 (.bool p8) (by rintro rfl; rfl) (by rintro rfl hJ; refine goes_ Tryd.func43 (by kernel_rfl) rfl #[.int .i64 a0, .slice A5 l5.length c5] (by rfl) rfl rfl (by (try simp only [List.map_toArray, List.map_cons, List.map_nil]); first | done | rfl | (go_simp; done)) ?_; with_reducible refine (attestorref07_All.calls k a0 _ _ l5 p8 _ (Kd.C_below HR5.out HM.bel) HC5.out (H8.out rfl)).mono ?_; rintro e w' ⟨rfl, hb⟩; exact ⟨_, rfl, hJ _ hb⟩) ?_
  intro w11 hb
  replace HM := HM.call hb
  clear hb
  refine hK.out _ _ (HM.see 2) (fun hHeld => ?_)
  clear hK K
  refine norm_ (a' := ?_) ?_ ?_
  rotate_left
  · show Act.put _ (some 62) _ = _
    simp only [Act.put, List.setIfInBounds_toArray, List.set_cons_zero, List.set_cons_succ, i64_w, i32_w]
    rfl
  refine pure_ (i := 41) (N := some 63) (v := gd b7 (.bool (!p8))) (a' := ?_) (up 56 42 []) rfl rfl (any_of HT_.out (by kernel_rfl)) (fun _ _ _ h => h) (yl b7 (by rintro rfl; exact ⟨by rfl, fun w' => by first | rfl | (dsimp only [gd]; first | (go_simp; done) | (go_simp; rfl))⟩) (by rintro rfl; rfl)) ?_ ?_
  rotate_left
  · simp only [Act.put, List.setIfInBounds_toArray, List.set_cons_zero, List.set_cons_succ, i64_w, i32_w]
    rfl
  refine pure_ (i := 42) (N := some 64) (v := .bool b8) (a' := ?_) (up 56 43 []) rfl rfl (any_of HT_.out (by kernel_rfl)) (fun _ _ _ h => h) (Or.inl ⟨by rfl, fun w' => by rw [E8.out]; cases b7 <;> first | rfl | (dsimp only [gd]; go_simp; done) | (dsimp only [gd]; go_simp; rfl)⟩) ?_ ?_
  rotate_left
  · simp only [Act.put, List.setIfInBounds_toArray, List.set_cons_zero, List.set_cons_succ, i64_w, i32_w]
    rfl
  refine pure_ (i := 43) (N := some 65) (v := .bool b8) (a' := ?_) (up 56 44 []) rfl rfl (any_of HT_.out (by kernel_rfl)) (fun _ _ _ h => h) (Or.inl ⟨by rfl, fun w' => by rfl⟩) ?_ ?_
  rotate_left
  · simp only [Act.put, List.setIfInBounds_toArray, List.set_cons_zero, List.set_cons_succ, i64_w, i32_w]
    rfl
  refine pure_ (i := 44) (N := some 66) (v := gd b8 (.int .i64 a0)) (a' := ?_) (up 56 45 []) rfl rfl (any_of HT_.out (by kernel_rfl)) (fun _ _ _ h => h) (yl b8 (by rintro rfl; exact ⟨by rfl, fun w' => by first | rfl | (dsimp only [gd]; first | (go_simp; done) | (go_simp; rfl))⟩) (by rintro rfl; rfl)) ?_ ?_
  rotate_left
  · simp only [Act.put, List.setIfInBounds_toArray, List.set_cons_zero, List.set_cons_succ, i64_w, i32_w]
    rfl
  refine pure_ (i := 45) (N := some 67) (v := gd b8 (.int .i64 a1)) (a' := ?_) (up 56 46 []) rfl rfl (any_of HT_.out (by kernel_rfl)) (fun _ _ _ h => h) (yl b8 (by rintro rfl; exact ⟨by rfl, fun w' => by first | rfl | (dsimp only [gd]; first | (go_simp; done) | (go_simp; rfl))⟩) (by rintro rfl; rfl)) ?_ ?_
  rotate_left
  · simp only [Act.put, List.setIfInBounds_toArray, List.set_cons_zero, List.set_cons_succ, i64_w, i32_w]
    rfl
  refine pure_ (i := 47) (N := some 69) (v := gd b8 (.slice A4 l4.length c4)) (a' := ?_) (up 56 46 [47]) rfl rfl (any_of HT_.out (by kernel_rfl)) (fun _ _ _ h => h) (yl b8 (by rintro rfl; exact ⟨by rfl, fun w' => by first | rfl | (dsimp only [gd]; first | (go_simp; done) | (go_simp; rfl))⟩) (by rintro rfl; rfl)) ?_ ?_
  rotate_left
  · simp only [Act.put, List.setIfInBounds_toArray, List.set_cons_zero, List.set_cons_succ, i64_w, i32_w]
    rfl
  refine pure_ (i := 49) (N := some 71) (v := gd b8 (.int .i64 a0)) (a' := ?_) (up 56 46 [47, 49]) rfl rfl (any_of HT_.out (by kernel_rfl)) (fun _ _ _ h => h) (yl b8 (by rintro rfl; exact ⟨by rfl, fun w' => by first | rfl | (dsimp only [gd]; first | (go_simp; done) | (go_simp; rfl))⟩) (by rintro rfl; rfl)) ?_ ?_
  rotate_left
  · simp only [Act.put, List.setIfInBounds_toArray, List.set_cons_zero, List.set_cons_succ, i64_w, i32_w]
    rfl
  refine pure_ (i := 50) (N := some 72) (v := gd b8 (.int .i64 a1)) (a' := ?_) (up 56 46 [47, 49, 50]) rfl rfl (any_of HT_.out (by kernel_rfl)) (fun _ _ _ h => h) (yl b8 (by rintro rfl; exact ⟨by rfl, fun w' => by first | rfl | (dsimp only [gd]; first | (go_simp; done) | (go_simp; rfl))⟩) (by rintro rfl; rfl)) ?_ ?_
  rotate_left
  · simp only [Act.put, List.setIfInBounds_toArray, List.set_cons_zero, List.set_cons_succ, i64_w, i32_w]
    rfl
  refine pure_ (i := 52) (N := some 74) (v := gd b8 (.slice A5 l5.length c5)) (a' := ?_) (up 56 46 [47, 49, 50, 52]) rfl rfl (any_of HT_.out (by kernel_rfl)) (fun _ _ _ h => h) (yl b8 (by rintro rfl; exact ⟨by rfl, fun w' => by first | rfl | (dsimp only [gd]; first | (go_simp; done) | (go_simp; rfl))⟩) (by rintro rfl; rfl)) ?_ ?_
  rotate_left
  · simp only [Act.put, List.setIfInBounds_toArray, List.set_cons_zero, List.set_cons_succ, i64_w, i32_w]
    rfl
  refine take_ (i := 46) (N := some 68) (v := gd b8 (.agg #[.int .u64 a2_0, .int .u64 a2_1])) (a' := ?_) (up 56 48 [49, 50, 52]) rfl rfl (take_ofW HT_.out HW_.out (by kernel_rfl)) (fun _ _ _ h => h) (yh b8 (by rintro rfl; exact ⟨by rfl, fun w' h_ => by obtain ⟨s_g8_0, s_g8_1⟩ := h_.c2 (i := 0) rfl; first | rfl | (dsimp only [gd]; first | (go_simp; done) | (go_simp; rfl))⟩) (by rintro rfl; rfl)) hHeld ?_ ?_
  rotate_left
  · simp only [Act.put, List.setIfInBounds_toArray, List.set_cons_zero, List.set_cons_succ, i64_w, i32_w]
    rfl
  refine take_ (i := 51) (N := some 73) (v := gd b8 (.agg #[.int .u64 a3_0, .int .u64 a3_1])) (a' := ?_) (up 56 48 [49, 50, 51, 52]) rfl rfl (take_ofW HT_.out HW_.out (by kernel_rfl)) (fun _ _ _ h => h) (yh b8 (by rintro rfl; exact ⟨by rfl, fun w' h_ => by obtain ⟨s_g9_0, s_g9_1⟩ := h_.c2 (i := 1) rfl; first | rfl | (dsimp only [gd]; first | (go_simp; done) | (go_simp; rfl))⟩) (by rintro rfl; rfl)) hHeld ?_ ?_
  rotate_left
  · simp only [Act.put, List.setIfInBounds_toArray, List.set_cons_zero, List.set_cons_succ, i64_w, i32_w]
    rfl
  refine one_ (i := 48) (N := some 70) (up 56 53 []) rfl rfl (one_of HT_.out (by kernel_rfl)) (by decide) (fun K hK => ?_)
  refine gcall_ b8 (.agg #[.int .u64 y0, .int .u64 y1]) (by rintro rfl; rfl) (by rintro rfl hJ; refine goes_ Tryd.func25 (by kernel_rfl) rfl #[.int .i64 a0, .int .i64 a1, .agg #[.int .u64 a2_0, .int .u64 a2_1], .slice A4 l4.length c4] (by rfl) rfl rfl (by (try simp only [List.map_toArray, List.map_cons, List.map_nil]); first | done | rfl | (go_simp; done)) ?_; with_reducible refine (attestorref07_Climb.calls k a0 a1 a2_0 a2_1 _ _ l4 y0 y1 _ (Kd.C_below HR4.out HM.bel) HC4.out (H9.out rfl).1).mono ?_; rintro e w' ⟨rfl, hb⟩; exact ⟨_, rfl, hJ _ hb⟩) ?_
  intro w12 hb
  replace HM := HM.call hb
  clear hb
  refine hK.out _ _ (HM.see 2) (fun hHeld => ?_)
  clear hK K
  refine norm_ (a' := ?_) ?_ ?_
  rotate_left
  · show Act.put _ (some 70) _ = _
    simp only [Act.put, List.setIfInBounds_toArray, List.set_cons_zero, List.set_cons_succ, i64_w, i32_w]
    rfl
  refine one_ (i := 53) (N := some 75) (up 56 54 []) rfl rfl (one_of HT_.out (by kernel_rfl)) (by decide) (fun K hK => ?_)
  refine gcall_ b8 (.agg #[.int .u64 z0, .int .u64 z1]) (by rintro rfl; rfl) (by rintro rfl hJ; refine goes_ Tryd.func25 (by kernel_rfl) rfl #[.int .i64 a0, .int .i64 a1, .agg #[.int .u64 a3_0, .int .u64 a3_1], .slice A5 l5.length c5] (by rfl) rfl rfl (by (try simp only [List.map_toArray, List.map_cons, List.map_nil]); first | done | rfl | (go_simp; done)) ?_; with_reducible refine (attestorref07_Climb.calls k a0 a1 a3_0 a3_1 _ _ l5 z0 z1 _ (Kd.C_below HR5.out HM.bel) HC5.out (H9.out rfl).2).mono ?_; rintro e w' ⟨rfl, hb⟩; exact ⟨_, rfl, hJ _ hb⟩) ?_
  intro w13 hb
  replace HM := HM.call hb
  clear hb
  refine hK.out _ _ (HM.see 2) (fun hHeld => ?_)
  clear hK K
  refine norm_ (a' := ?_) ?_ ?_
  rotate_left
  · show Act.put _ (some 75) _ = _
    simp only [Act.put, List.setIfInBounds_toArray, List.set_cons_zero, List.set_cons_succ, i64_w, i32_w]
    rfl
  refine pure_ (i := 54) (N := some 76) (v := gd b8 (.bool (!(y0 == z0) || !(y1 == z1)))) (a' := ?_) (up 56 55 []) rfl rfl (any_of HT_.out (by kernel_rfl)) (fun _ _ _ h => h) (yl b8 (by rintro rfl; exact ⟨by rfl, fun w' => by first | rfl | (dsimp only [gd]; first | (go_simp; done) | (go_simp; rfl))⟩) (by rintro rfl; rfl)) ?_ ?_
  rotate_left
  · simp only [Act.put, List.setIfInBounds_toArray, List.set_cons_zero, List.set_cons_succ, i64_w, i32_w]
    rfl
  refine pure_ (i := 55) (N := some 77) (v := .bool b9) (a' := ?_) (up 56 56 []) rfl rfl (any_of HT_.out (by kernel_rfl)) (fun _ _ _ h => h) (Or.inl ⟨by rfl, fun w' => by rw [E9.out]; cases b8 <;> first | rfl | (dsimp only [gd]; go_simp; done) | (dsimp only [gd]; go_simp; rfl)⟩) ?_ ?_
  rotate_left
  · simp only [Act.put, List.setIfInBounds_toArray, List.set_cons_zero, List.set_cons_succ, i64_w, i32_w]
    rfl
  clear hHeld
  refine done_ (done_of HT_.out (by kernel_rfl)) ?_
  clear e1 E2 E3 E4 H5 E5 H6 E6 H7 E7 H8 E8 H9 E9
  obtain ⟨k, rfl⟩ : ∃ k1, k = k1 + 1 := by
    cases k with
    | zero => exact absurd HJ.out (by simp [attestorref07_Clash.j0])
    | succ k => exact ⟨k, rfl⟩
  cases b9 with
  | true =>
    have H := HJ.out
    clear HJ
    rw [attestorref07_Clash.j0, if_pos rfl] at H
    simp only [Option.some.injEq, Prod.mk.injEq] at H
    obtain ⟨rfl, rfl, rfl, rfl, rfl, rfl, rfl, rfl, rfl⟩ := H
    try go_wp2
    replace HM : Mem w [bk g15 48 #[.int .u64 0, .int .u64 0, .int .u64 0, .int .u64 0], bk g8 36 #[.int .u64 a2_0, .int .u64 a2_1], bk g9 36 #[.int .u64 a3_0, .int .u64 a3_1], bk g13 48 #[.int .u64 0, .int .u64 0, .int .u64 0, .int .u64 0], bk g12 48 #[.int .u64 0, .int .u64 0, .int .u64 0, .int .u64 0]] w13 := HM.sel [2, 0, 1, 3, 4] (by decide)
    refine start_ (n := 5) (S := Sees w [bk g15 48 #[.int .u64 0, .int .u64 0, .int .u64 0, .int .u64 0]]) (ds := []) (up 5 0 []) (by kernel_rfl) rfl (by kernel_rfl) (HM.drew.see 1) (fun hHeld => ?_)
    replace HM := HM.drew
    generalize w13.drew = v1 at HM hHeld ⊢
    refine take_ (i := 0) (N := some 78) (v := ?_) (a' := ?_) (up 5 1 []) rfl rfl (by kernel_rfl) (fun _ _ _ h => h) (Or.inl ⟨by rfl, ?_⟩) hHeld ?_ ?_
    rotate_left
    · intro w' h_
      obtain ⟨s_g15_0, s_g15_1, s_g15_2, s_g15_3⟩ := h_.c4 (i := 0) rfl
      go_simp
      with_reducible rfl
    rotate_left
    · simp only [Act.put, List.setIfInBounds_toArray, List.set_cons_zero, List.set_cons_succ, i64_w, i32_w]
      rfl
    refine take_ (i := 1) (N := some 79) (v := ?_) (a' := ?_) (up 5 2 []) rfl rfl (by kernel_rfl) (fun _ _ _ h => h) (Or.inl ⟨by rfl, ?_⟩) hHeld ?_ ?_
    rotate_left
    · intro w' h_
      obtain ⟨s_g15_0, s_g15_1, s_g15_2, s_g15_3⟩ := h_.c4 (i := 0) rfl
      go_simp
      with_reducible rfl
    rotate_left
    · simp only [Act.put, List.setIfInBounds_toArray, List.set_cons_zero, List.set_cons_succ, i64_w, i32_w]
      rfl
    refine one_ (i := 2) (N := none) (up 5 3 []) rfl rfl (by kernel_rfl) (by decide) (fun K hK => ?_)
    obtain ⟨c_g12_0, c_g12_1, c_g12_2, c_g12_3, f_g12_0, f_g12_1, f_g12_2, f_g12_3⟩ := HM.c4 (i := 4) rfl
    refine skip_ (w1 := ?_) (by rfl) rfl ?_ ?_
    rotate_left
    · go_simp
      rfl
    clear c_g12_0 c_g12_1 c_g12_2 c_g12_3 f_g12_0 f_g12_1 f_g12_2 f_g12_3
    replace HM := HM.put4 4 rfl (.int .u64 0) (.int .u64 0) (.int .u64 0) (.int .u64 0)
    simp only [List.set_cons_zero, List.set_cons_succ] at HM
    generalize ((((v1.setCell ⟨g12, 0, none⟩ (.int .u64 0)).setCell ⟨g12, 1, none⟩ (.int .u64 0)).setCell ⟨g12, 2, none⟩ (.int .u64 0)).setCell ⟨g12, 3, none⟩ (.int .u64 0)) = v2 at HM ⊢
    refine hK.out _ _ (HM.see 1) (fun hHeld => ?_)
    clear hK K
    refine one_ (i := 3) (N := none) (up 5 4 []) rfl rfl (by kernel_rfl) (by decide) (fun K hK => ?_)
    obtain ⟨c_g13_0, c_g13_1, c_g13_2, c_g13_3, f_g13_0, f_g13_1, f_g13_2, f_g13_3⟩ := HM.c4 (i := 3) rfl
    refine skip_ (w1 := ?_) (by rfl) rfl ?_ ?_
    rotate_left
    · go_simp
      rfl
    clear c_g13_0 c_g13_1 c_g13_2 c_g13_3 f_g13_0 f_g13_1 f_g13_2 f_g13_3
    replace HM := HM.put4 3 rfl (.int .u64 0) (.int .u64 0) (.int .u64 0) (.int .u64 0)
    simp only [List.set_cons_zero, List.set_cons_succ] at HM
    generalize ((((v2.setCell ⟨g13, 0, none⟩ (.int .u64 0)).setCell ⟨g13, 1, none⟩ (.int .u64 0)).setCell ⟨g13, 2, none⟩ (.int .u64 0)).setCell ⟨g13, 3, none⟩ (.int .u64 0)) = v3 at HM ⊢
    refine hK.out _ _ (HM.see 1) (fun hHeld => ?_)
    clear hK K
    refine pure_ (i := 4) (N := some 14) (v := ?_) (a' := ?_) (up 5 5 []) rfl rfl (by kernel_rfl) (fun _ _ _ h => h) (Or.inl ⟨by rfl, ?_⟩) ?_ ?_
    rotate_left
    · intro w'
      go_simp
      with_reducible rfl
    rotate_left
    · simp only [Act.put, List.setIfInBounds_toArray, List.set_cons_zero, List.set_cons_succ, i64_w, i32_w]
      rfl
    clear hHeld
    refine done_ (by kernel_rfl) ?_
    try go_wp2
    refine bodyPost_ret (results_list (rs := [.cell 12 48, .cell 13 48, .tmp 14]) rfl (by simp) (.cell g12 48 #[.int .u64 0, .int .u64 0, .int .u64 0, .int .u64 0] (0, 0) _ rfl (HM.get (i := 4) rfl) Tryd.underlying48 rfl (by kernel_rfl) (.cell g13 48 #[.int .u64 0, .int .u64 0, .int .u64 0, .int .u64 0] (0, 0) _ rfl (HM.get (i := 3) rfl) Tryd.underlying48 rfl (by kernel_rfl) (.tmp .nil)))) rfl ?_
    exact ⟨rfl, HM.bel⟩
  | false =>
    have H : attestorref07_Clash.l0 k a0 a1 l4 l5 false 0 a2_0 a2_1 a3_0 a3_1 0 0 0 0 0 0 0 0 = some (r1, r2, r3, r4, r5, r6, r7, r8, r9) := by
      have H := HJ.out
      rw [attestorref07_Clash.j0, if_neg (by decide)] at H
      exact H
    clear HJ
    have H' := Aside0.mk H
    clear H
    try go_wp2
    replace HM : Mem w [bk g15 48 #[.int .u64 0, .int .u64 0, .int .u64 0, .int .u64 0], bk g8 36 #[.int .u64 a2_0, .int .u64 a2_1], bk g9 36 #[.int .u64 a3_0, .int .u64 a3_1], bk g13 48 #[.int .u64 0, .int .u64 0, .int .u64 0, .int .u64 0], bk g12 48 #[.int .u64 0, .int .u64 0, .int .u64 0, .int .u64 0]] w13 := HM.sel [2, 0, 1, 3, 4] (by decide)
    refine start_ (n := 7) (S := Sees w [bk g15 48 #[.int .u64 0, .int .u64 0, .int .u64 0, .int .u64 0]]) (ds := []) (up 7 0 []) (by kernel_rfl) rfl (by kernel_rfl) (HM.drew.see 1) (fun hHeld => ?_)
    replace HM := HM.drew
    generalize w13.drew = v1 at HM hHeld ⊢
    refine take_ (i := 0) (N := some 80) (v := ?_) (a' := ?_) (up 7 1 []) rfl rfl (by kernel_rfl) (fun _ _ _ h => h) (Or.inl ⟨by rfl, ?_⟩) hHeld ?_ ?_
    rotate_left
    · intro w' h_
      obtain ⟨s_g15_0, s_g15_1, s_g15_2, s_g15_3⟩ := h_.c4 (i := 0) rfl
      go_simp
      with_reducible rfl
    rotate_left
    · simp only [Act.put, List.setIfInBounds_toArray, List.set_cons_zero, List.set_cons_succ, i64_w, i32_w]
      rfl
    refine take_ (i := 1) (N := some 81) (v := ?_) (a' := ?_) (up 7 2 []) rfl rfl (by kernel_rfl) (fun _ _ _ h => h) (Or.inl ⟨by rfl, ?_⟩) hHeld ?_ ?_
    rotate_left
    · intro w' h_
      obtain ⟨s_g15_0, s_g15_1, s_g15_2, s_g15_3⟩ := h_.c4 (i := 0) rfl
      go_simp
      with_reducible rfl
    rotate_left
    · simp only [Act.put, List.setIfInBounds_toArray, List.set_cons_zero, List.set_cons_succ, i64_w, i32_w]
      rfl
    refine par (w0 := w) (L := [bk g15 48 #[.int .u64 0, .int .u64 0, .int .u64 0, .int .u64 0], bk g8 36 #[.int .u64 a2_0, .int .u64 a2_1], bk g9 36 #[.int .u64 a3_0, .int .u64 a3_1], bk g13 48 #[.int .u64 0, .int .u64 0, .int .u64 0, .int .u64 0], bk g12 48 #[.int .u64 0, .int .u64 0, .int .u64 0, .int .u64 0]]) (M := []) [2, 3] (fun j v => bif j == 2 then [ptr 48 #[.int .u64 0, .int .u64 0, .int .u64 0, .int .u64 0] v] else [ptr 48 #[.int .u64 0, .int .u64 0, .int .u64 0, .int .u64 0] v]) (up 7 4 []) 2 rfl (by kernel_rfl) (fun M_ W_ h_ => h_.see 1) ?_ HM ?_
    · intro j_ hj_
      simp only [List.mem_cons, List.not_mem_nil, or_false] at hj_
      rcases hj_ with rfl | rfl
      · refine ⟨_, rfl, fun M_ W_ h_ => ?_⟩
        exact runs_alloc h_ (by rfl) (by first | rfl | (go_simp; done) | (go_simp; rfl))
      · refine ⟨_, rfl, fun M_ W_ h_ => ?_⟩
        exact runs_alloc h_ (by rfl) (by first | rfl | (go_simp; done) | (go_simp; rfl))
    intro f_ v2 HM
    obtain ⟨g16, h2_, HM⟩ := HM.ptr (i := 5) rfl
    obtain ⟨g17, h3_, HM⟩ := HM.ptr (i := 6) rfl
    refine norm_ (a' := ?_) ?_ ?_
    rotate_left
    · show Act.put (Act.put _ (some 16) (f_ 2)) (some 17) (f_ 3) = _
      rewrite [(show f_ 2 = _ from h2_), (show f_ 3 = _ from h3_)]
      simp only [Act.put, List.setIfInBounds_toArray, List.set_cons_zero, List.set_cons_succ, i64_w, i32_w]
      rfl
    replace HM : Mem w [bk g15 48 #[.int .u64 0, .int .u64 0, .int .u64 0, .int .u64 0], bk g16 48 #[.int .u64 0, .int .u64 0, .int .u64 0, .int .u64 0], bk g17 48 #[.int .u64 0, .int .u64 0, .int .u64 0, .int .u64 0], bk g8 36 #[.int .u64 a2_0, .int .u64 a2_1], bk g9 36 #[.int .u64 a3_0, .int .u64 a3_1], bk g13 48 #[.int .u64 0, .int .u64 0, .int .u64 0, .int .u64 0], bk g12 48 #[.int .u64 0, .int .u64 0, .int .u64 0, .int .u64 0]] v2 := HM.sel [0, 5, 6, 1, 2, 3, 4] (by decide)
    clear h2_ h3_
    have hHeld := HM.see 1
    refine one_ (i := 4) (N := none) (up 7 5 []) rfl rfl (by kernel_rfl) (by decide) (fun K hK => ?_)
    obtain ⟨c_g16_0, c_g16_1, c_g16_2, c_g16_3, f_g16_0, f_g16_1, f_g16_2, f_g16_3⟩ := HM.c4 (i := 1) rfl
    refine skip_ (w1 := ?_) (by rfl) rfl ?_ ?_
    rotate_left
    · go_simp
      rfl
    clear c_g16_0 c_g16_1 c_g16_2 c_g16_3 f_g16_0 f_g16_1 f_g16_2 f_g16_3
    replace HM := HM.put4 1 rfl (.int .u64 0) (.int .u64 0) (.int .u64 0) (.int .u64 0)
    simp only [List.set_cons_zero, List.set_cons_succ] at HM
    generalize ((((v2.setCell ⟨g16, 0, none⟩ (.int .u64 0)).setCell ⟨g16, 1, none⟩ (.int .u64 0)).setCell ⟨g16, 2, none⟩ (.int .u64 0)).setCell ⟨g16, 3, none⟩ (.int .u64 0)) = v3 at HM ⊢
    refine hK.out _ _ (HM.see 1) (fun hHeld => ?_)
    clear hK K
    refine one_ (i := 5) (N := none) (up 7 6 []) rfl rfl (by kernel_rfl) (by decide) (fun K hK => ?_)
    obtain ⟨c_g17_0, c_g17_1, c_g17_2, c_g17_3, f_g17_0, f_g17_1, f_g17_2, f_g17_3⟩ := HM.c4 (i := 2) rfl
    refine skip_ (w1 := ?_) (by rfl) rfl ?_ ?_
    rotate_left
    · go_simp
      rfl
    clear c_g17_0 c_g17_1 c_g17_2 c_g17_3 f_g17_0 f_g17_1 f_g17_2 f_g17_3
    replace HM := HM.put4 2 rfl (.int .u64 0) (.int .u64 0) (.int .u64 0) (.int .u64 0)
    simp only [List.set_cons_zero, List.set_cons_succ] at HM
    generalize ((((v3.setCell ⟨g17, 0, none⟩ (.int .u64 0)).setCell ⟨g17, 1, none⟩ (.int .u64 0)).setCell ⟨g17, 2, none⟩ (.int .u64 0)).setCell ⟨g17, 3, none⟩ (.int .u64 0)) = v4 at HM ⊢
    refine hK.out _ _ (HM.see 1) (fun hHeld => ?_)
    clear hK K
    refine pure_ (i := 6) (N := some 18) (v := ?_) (a' := ?_) (up 7 7 []) rfl rfl (by kernel_rfl) (fun _ _ _ h => h) (Or.inl ⟨by rfl, ?_⟩) ?_ ?_
    rotate_left
    · intro w'
      go_simp
      with_reducible rfl
    rotate_left
    · simp only [Act.put, List.setIfInBounds_toArray, List.set_cons_zero, List.set_cons_succ, i64_w, i32_w]
      rfl
    clear hHeld
    refine done_ (by kernel_rfl) ?_
    try go_wp2
    go_loopg [1, 18, 19] k (fun kq v1 v18 v19 w' => ∃ (i : Int) (fd : Bool) (j : Int) (q0 q1 q2 q3 x0 x1 x2 x3 t0 t1 t2 t3 : Int), v1 = .int .i64 i ∧ v18 = .bool fd ∧ v19 = .int .i64 j ∧ Aside0 (attestorref07_Clash.l0 kq a0 i l4 l5 fd j q0 q1 q2 q3 x0 x1 x2 x3 t0 t1 t2 t3 = some (r1, r2, r3, r4, r5, r6, r7, r8, r9)) ∧ Aside0 (kq ≤ k) ∧ Mem w [bk g15 48 #[.int .u64 0, .int .u64 0, .int .u64 0, .int .u64 0], bk g16 48 #[.int .u64 x0, .int .u64 x1, .int .u64 x2, .int .u64 x3], bk g17 48 #[.int .u64 t0, .int .u64 t1, .int .u64 t2, .int .u64 t3], bk g8 36 #[.int .u64 q0, .int .u64 q1], bk g9 36 #[.int .u64 q2, .int .u64 q3], bk g13 48 #[.int .u64 0, .int .u64 0, .int .u64 0, .int .u64 0], bk g12 48 #[.int .u64 0, .int .u64 0, .int .u64 0, .int .u64 0]] w')
    case atStart => exact ⟨a1, false, 0, a2_0, a2_1, a3_0, a3_1, 0, 0, 0, 0, 0, 0, 0, 0, rfl, rfl, rfl, H', ⟨Nat.le_refl _⟩, HM⟩
    case round =>
      clear H' HM
      obtain ⟨i, fd, j, q0, q1, q2, q3, x0, x1, x2, x3, t0, t1, t2, t3, rfl, rfl, rfl, HA, HK, HM⟩ := hrel
      obtain ⟨k2, rfl⟩ : ∃ k1, gk = k1 + 1 := by
        cases gk with
        | zero => exact absurd HA.out (by simp [attestorref07_Clash.l0])
        | succ k => exact ⟨k, rfl⟩
      have H := HA.out
      clear HA
      simp only [attestorref07_Clash.l0] at H
      by_cases c75 : j < (l4.length : Int)
      · rw [if_pos c75] at H
        have d75 : decide (j < (l4.length : Int)) = true := decide_eq_true c75
        have q75 : (j < (l4.length : Int)) = True := eq_true c75
        by_cases c76 : 0 ≤ j
        rotate_left
        · rw [if_neg c76] at H
          cases H
        rw [if_pos c76] at H
        have q76 : (0 ≤ j) = True := eq_true c76
        obtain ⟨⟨m0, m1, m2, m3⟩, H1, H⟩ := Option.bind_eq_some_iff.mp H
        by_cases c78 : j < (l5.length : Int)
        rotate_left
        · rw [if_neg c78] at H
          cases H
        rw [if_pos c78] at H
        have q78 : (j < (l5.length : Int)) = True := eq_true c78
        obtain ⟨⟨n0, n1, n2, n3⟩, H2, H⟩ := Option.bind_eq_some_iff.mp H
        have HP := Aside0.mk H1
        have HQ := Aside0.mk H2
        have HA := Aside0.mk H
        clear H H1 H2
        obtain ⟨ad, ea, hx0, hx1⟩ := at_T36 HR4.out j c76 c75
        obtain ⟨ae, eb, hy0, hy1⟩ := at_T36 HR5.out j c76 c78
        subst ea
        subst eb
        have HX0 := Aside0.mk hx0
        have HX1 := Aside0.mk hx1
        have HY0 := Aside0.mk hy0
        have HY1 := Aside0.mk hy1
        clear hx0 hx1 hy0 hy1 c75 c76 c78
        try go_wp2
        replace HM : Mem w [bk g8 36 #[.int .u64 q0, .int .u64 q1], bk g9 36 #[.int .u64 q2, .int .u64 q3], bk g15 48 #[.int .u64 0, .int .u64 0, .int .u64 0, .int .u64 0], bk g16 48 #[.int .u64 x0, .int .u64 x1, .int .u64 x2, .int .u64 x3], bk g17 48 #[.int .u64 t0, .int .u64 t1, .int .u64 t2, .int .u64 t3], bk g13 48 #[.int .u64 0, .int .u64 0, .int .u64 0, .int .u64 0], bk g12 48 #[.int .u64 0, .int .u64 0, .int .u64 0, .int .u64 0]] wr := HM.sel [3, 4, 0, 1, 2, 5, 6] (by decide)
        refine start_ (n := 18) (S := Sees w [bk g8 36 #[.int .u64 q0, .int .u64 q1], bk g9 36 #[.int .u64 q2, .int .u64 q3]]) (ds := []) (up 18 0 []) (by kernel_rfl) rfl (by kernel_rfl) (HM.drew.see 2) (fun hHeld => ?_)
        replace HM := HM.drew
        generalize wr.drew = v5 at HM hHeld ⊢
        refine pure_ (i := 0) (N := some 88) (v := ?_) (a' := ?_) (up 18 1 []) rfl rfl (by kernel_rfl) (fun _ _ _ h => h) (Or.inl ⟨by rfl, ?_⟩) ?_ ?_
        rotate_left
        · intro w'
          go_simp
          with_reducible rfl
        rotate_left
        · simp only [Act.put, List.setIfInBounds_toArray, List.set_cons_zero, List.set_cons_succ, i64_w, i32_w]
          rfl
        refine pure_ (i := 2) (N := some 90) (v := ?_) (a' := ?_) (up 18 1 [2]) rfl rfl (by kernel_rfl) (fun _ _ _ h => h) (Or.inl ⟨by rfl, ?_⟩) ?_ ?_
        rotate_left
        · intro w'
          go_simp
          with_reducible rfl
        rotate_left
        · simp only [Act.put, List.setIfInBounds_toArray, List.set_cons_zero, List.set_cons_succ, i64_w, i32_w]
          rfl
        refine pure_ (i := 3) (N := some 91) (v := ?_) (a' := ?_) (up 18 1 [2, 3]) rfl rfl (by kernel_rfl) (fun _ _ _ h => h) (Or.inl ⟨by rfl, ?_⟩) ?_ ?_
        rotate_left
        · intro w'
          go_simp
          with_reducible rfl
        rotate_left
        · simp only [Act.put, List.setIfInBounds_toArray, List.set_cons_zero, List.set_cons_succ, i64_w, i32_w]
          rfl
        refine pure_ (i := 4) (N := some 92) (v := ?_) (a' := ?_) (up 18 1 [2, 3, 4]) rfl rfl (by kernel_rfl) (fun _ _ _ h => h) (Or.inl ⟨by rfl, ?_⟩) ?_ ?_
        rotate_left
        · intro w'
          go_simp
          with_reducible rfl
        rotate_left
        · simp only [Act.put, List.setIfInBounds_toArray, List.set_cons_zero, List.set_cons_succ, i64_w, i32_w]
          rfl
        refine pure_ (i := 7) (N := some 95) (v := ?_) (a' := ?_) (up 18 1 [2, 3, 4, 7]) rfl rfl (by kernel_rfl) (fun _ _ _ h => h) (Or.inl ⟨by rfl, ?_⟩) ?_ ?_
        rotate_left
        · intro w'
          go_simp
          with_reducible rfl
        rotate_left
        · simp only [Act.put, List.setIfInBounds_toArray, List.set_cons_zero, List.set_cons_succ, i64_w, i32_w]
          rfl
        refine pure_ (i := 9) (N := some 97) (v := ?_) (a' := ?_) (up 18 1 [2, 3, 4, 7, 9]) rfl rfl (by kernel_rfl) (fun _ _ _ h => h) (Or.inl ⟨by rfl, ?_⟩) ?_ ?_
        rotate_left
        · intro w'
          go_simp
          with_reducible rfl
        rotate_left
        · simp only [Act.put, List.setIfInBounds_toArray, List.set_cons_zero, List.set_cons_succ, i64_w, i32_w]
          rfl
        refine pure_ (i := 10) (N := some 98) (v := ?_) (a' := ?_) (up 18 1 [2, 3, 4, 7, 9, 10]) rfl rfl (by kernel_rfl) (fun _ _ _ h => h) (Or.inl ⟨by rfl, ?_⟩) ?_ ?_
        rotate_left
        · intro w'
          go_simp
          with_reducible rfl
        rotate_left
        · simp only [Act.put, List.setIfInBounds_toArray, List.set_cons_zero, List.set_cons_succ, i64_w, i32_w]
          rfl
        refine pure_ (i := 11) (N := some 99) (v := ?_) (a' := ?_) (up 18 1 [2, 3, 4, 7, 9, 10, 11]) rfl rfl (by kernel_rfl) (fun _ _ _ h => h) (Or.inl ⟨by rfl, ?_⟩) ?_ ?_
        rotate_left
        · intro w'
          go_simp
          with_reducible rfl
        rotate_left
        · simp only [Act.put, List.setIfInBounds_toArray, List.set_cons_zero, List.set_cons_succ, i64_w, i32_w]
          rfl
        refine take_ (i := 1) (N := some 89) (v := ?_) (a' := ?_) (up 18 5 [7, 9, 10, 11]) rfl rfl (by kernel_rfl) (fun _ _ _ h => h) (Or.inl ⟨by rfl, ?_⟩) hHeld ?_ ?_
        rotate_left
        · intro w' h_
          obtain ⟨s_g8_0, s_g8_1⟩ := h_.c2 (i := 0) rfl
          go_simp
          with_reducible rfl
        rotate_left
        · simp only [Act.put, List.setIfInBounds_toArray, List.set_cons_zero, List.set_cons_succ, i64_w, i32_w]
          rfl
        refine take_ (i := 5) (N := some 93) (v := ?_) (a' := ?_) (up 18 6 [7, 9, 10, 11]) rfl rfl (by kernel_rfl) (fun _ _ _ h => h) (Or.inl ⟨by rfl, ?_⟩) hHeld ?_ ?_
        rotate_left
        · intro w' h_
          have s_0 := (h_.bel.cell (World.block_lt_of_cell? w _ HX0.out)).trans HX0.out; have s_1 := (h_.bel.cell (World.block_lt_of_cell? w _ HX1.out)).trans HX1.out
          go_simp
          with_reducible rfl
        rotate_left
        · simp only [Act.put, List.setIfInBounds_toArray, List.set_cons_zero, List.set_cons_succ, i64_w, i32_w]
          rfl
        refine take_ (i := 8) (N := some 96) (v := ?_) (a' := ?_) (up 18 6 [7, 8, 9, 10, 11]) rfl rfl (by kernel_rfl) (fun _ _ _ h => h) (Or.inl ⟨by rfl, ?_⟩) hHeld ?_ ?_
        rotate_left
        · intro w' h_
          obtain ⟨s_g9_0, s_g9_1⟩ := h_.c2 (i := 1) rfl
          go_simp
          with_reducible rfl
        rotate_left
        · simp only [Act.put, List.setIfInBounds_toArray, List.set_cons_zero, List.set_cons_succ, i64_w, i32_w]
          rfl
        refine take_ (i := 12) (N := some 100) (v := ?_) (a' := ?_) (up 18 6 [7, 8, 9, 10, 11, 12]) rfl rfl (by kernel_rfl) (fun _ _ _ h => h) (Or.inl ⟨by rfl, ?_⟩) hHeld ?_ ?_
        rotate_left
        · intro w' h_
          have s_0 := (h_.bel.cell (World.block_lt_of_cell? w _ HY0.out)).trans HY0.out; have s_1 := (h_.bel.cell (World.block_lt_of_cell? w _ HY1.out)).trans HY1.out
          go_simp
          with_reducible rfl
        rotate_left
        · simp only [Act.put, List.setIfInBounds_toArray, List.set_cons_zero, List.set_cons_succ, i64_w, i32_w]
          rfl
        refine par (w0 := w) (L := [bk g8 36 #[.int .u64 q0, .int .u64 q1], bk g9 36 #[.int .u64 q2, .int .u64 q3], bk g15 48 #[.int .u64 0, .int .u64 0, .int .u64 0, .int .u64 0], bk g16 48 #[.int .u64 x0, .int .u64 x1, .int .u64 x2, .int .u64 x3], bk g17 48 #[.int .u64 t0, .int .u64 t1, .int .u64 t2, .int .u64 t3], bk g13 48 #[.int .u64 0, .int .u64 0, .int .u64 0, .int .u64 0], bk g12 48 #[.int .u64 0, .int .u64 0, .int .u64 0, .int .u64 0]]) (M := []) [6, 13, 14, 15] (fun j v => bif j == 6 then [fact (v = .agg #[.int .u64 m0, .int .u64 m1, .int .u64 m2, .int .u64 m3])] else bif j == 13 then [fact (v = .agg #[.int .u64 n0, .int .u64 n1, .int .u64 n2, .int .u64 n3])] else bif j == 14 then [ptr 48 #[.int .u64 0, .int .u64 0, .int .u64 0, .int .u64 0] v] else [ptr 48 #[.int .u64 0, .int .u64 0, .int .u64 0, .int .u64 0] v]) (up 18 16 []) 4 rfl (by kernel_rfl) (fun M_ W_ h_ => h_.see 2) ?_ HM ?_
        · intro j_ hj_
          simp only [List.mem_cons, List.not_mem_nil, or_false] at hj_
          rcases hj_ with rfl | rfl | rfl | rfl
          · refine ⟨_, rfl, fun M_ W_ h_ => ?_⟩
            refine runs_goes Tryd.func50 (by kernel_rfl) rfl #[.int .i64 i, .agg #[.int .u64 q0, .int .u64 q1], .agg #[.int .u64 ((rd_T36 l4 j).f0), .int .u64 ((rd_T36 l4 j).f1)]] (by rfl) rfl (by (try simp only [List.map_toArray, List.map_cons, List.map_nil]); first | done | rfl | (go_simp; done)) ?_
            with_reducible refine (attestorref07_pair.calls i q0 q1 _ _ _ _ _ _ _ HP.out).mono ?_
            rintro e W1_ ⟨rfl, hb⟩
            exact ⟨_, rfl, (h_.call hb).say rfl⟩
          · refine ⟨_, rfl, fun M_ W_ h_ => ?_⟩
            refine runs_goes Tryd.func50 (by kernel_rfl) rfl #[.int .i64 i, .agg #[.int .u64 q2, .int .u64 q3], .agg #[.int .u64 ((rd_T36 l5 j).f0), .int .u64 ((rd_T36 l5 j).f1)]] (by rfl) rfl (by (try simp only [List.map_toArray, List.map_cons, List.map_nil]); first | done | rfl | (go_simp; done)) ?_
            with_reducible refine (attestorref07_pair.calls i q2 q3 _ _ _ _ _ _ _ HQ.out).mono ?_
            rintro e W1_ ⟨rfl, hb⟩
            exact ⟨_, rfl, (h_.call hb).say rfl⟩
          · refine ⟨_, rfl, fun M_ W_ h_ => ?_⟩
            exact runs_alloc h_ (by rfl) (by first | rfl | (go_simp; done) | (go_simp; rfl))
          · refine ⟨_, rfl, fun M_ W_ h_ => ?_⟩
            exact runs_alloc h_ (by rfl) (by first | rfl | (go_simp; done) | (go_simp; rfl))
        intro f_ v6 HM
        have h6_ := HM.get (i := 7) rfl
        have h13_ := HM.get (i := 8) rfl
        obtain ⟨g20, h14_, HM⟩ := HM.ptr (i := 9) rfl
        obtain ⟨g21, h15_, HM⟩ := HM.ptr (i := 10) rfl
        refine norm_ (a' := ?_) ?_ ?_
        rotate_left
        · show Act.put (Act.put (Act.put (Act.put _ (some 94) (f_ 6)) (some 101) (f_ 13)) (some 20) (f_ 14)) (some 21) (f_ 15) = _
          rewrite [(show f_ 6 = _ from h6_), (show f_ 13 = _ from h13_), (show f_ 14 = _ from h14_), (show f_ 15 = _ from h15_)]
          simp only [Act.put, List.setIfInBounds_toArray, List.set_cons_zero, List.set_cons_succ, i64_w, i32_w]
          rfl
        replace HM : Mem w [bk g8 36 #[.int .u64 q0, .int .u64 q1], bk g9 36 #[.int .u64 q2, .int .u64 q3], bk g20 48 #[.int .u64 0, .int .u64 0, .int .u64 0, .int .u64 0], bk g21 48 #[.int .u64 0, .int .u64 0, .int .u64 0, .int .u64 0], bk g15 48 #[.int .u64 0, .int .u64 0, .int .u64 0, .int .u64 0], bk g16 48 #[.int .u64 x0, .int .u64 x1, .int .u64 x2, .int .u64 x3], bk g17 48 #[.int .u64 t0, .int .u64 t1, .int .u64 t2, .int .u64 t3], bk g13 48 #[.int .u64 0, .int .u64 0, .int .u64 0, .int .u64 0], bk g12 48 #[.int .u64 0, .int .u64 0, .int .u64 0, .int .u64 0]] v6 := HM.sel [0, 1, 9, 10, 2, 3, 4, 5, 6] (by decide)
        clear h6_ h13_ h14_ h15_
        have hHeld := HM.see 2
        refine one_ (i := 16) (N := none) (up 18 17 []) rfl rfl (by kernel_rfl) (by decide) (fun K hK => ?_)
        obtain ⟨c_g20_0, c_g20_1, c_g20_2, c_g20_3, f_g20_0, f_g20_1, f_g20_2, f_g20_3⟩ := HM.c4 (i := 2) rfl
        refine skip_ (w1 := ?_) (by rfl) rfl ?_ ?_
        rotate_left
        · go_simp
          rfl
        clear c_g20_0 c_g20_1 c_g20_2 c_g20_3 f_g20_0 f_g20_1 f_g20_2 f_g20_3
        replace HM := HM.put4 2 rfl (.int .u64 m0) (.int .u64 m1) (.int .u64 m2) (.int .u64 m3)
        simp only [List.set_cons_zero, List.set_cons_succ] at HM
        generalize ((((v6.setCell ⟨g20, 0, none⟩ (.int .u64 m0)).setCell ⟨g20, 1, none⟩ (.int .u64 m1)).setCell ⟨g20, 2, none⟩ (.int .u64 m2)).setCell ⟨g20, 3, none⟩ (.int .u64 m3)) = v7 at HM ⊢
        refine hK.out _ _ (HM.see 2) (fun hHeld => ?_)
        clear hK K
        refine one_ (i := 17) (N := none) (up 18 18 []) rfl rfl (by kernel_rfl) (by decide) (fun K hK => ?_)
        obtain ⟨c_g21_0, c_g21_1, c_g21_2, c_g21_3, f_g21_0, f_g21_1, f_g21_2, f_g21_3⟩ := HM.c4 (i := 3) rfl
        refine skip_ (w1 := ?_) (by rfl) rfl ?_ ?_
        rotate_left
        · go_simp
          rfl
        clear c_g21_0 c_g21_1 c_g21_2 c_g21_3 f_g21_0 f_g21_1 f_g21_2 f_g21_3
        replace HM := HM.put4 3 rfl (.int .u64 n0) (.int .u64 n1) (.int .u64 n2) (.int .u64 n3)
        simp only [List.set_cons_zero, List.set_cons_succ] at HM
        generalize ((((v7.setCell ⟨g21, 0, none⟩ (.int .u64 n0)).setCell ⟨g21, 1, none⟩ (.int .u64 n1)).setCell ⟨g21, 2, none⟩ (.int .u64 n2)).setCell ⟨g21, 3, none⟩ (.int .u64 n3)) = v8 at HM ⊢
        refine hK.out _ _ (HM.see 2) (fun hHeld => ?_)
        clear hK K
        clear hHeld
        refine done_ (by kernel_rfl) ?_
        obtain ⟨c_g20_0, c_g20_1, c_g20_2, c_g20_3, f_g20_0, f_g20_1, f_g20_2, f_g20_3⟩ := HM.c4 (i := 2) rfl; obtain ⟨c_g21_0, c_g21_1, c_g21_2, c_g21_3, f_g21_0, f_g21_1, f_g21_2, f_g21_3⟩ := HM.c4 (i := 3) rfl
        by_cases c80 : ((!(m0 == n0) || (!(m1 == n1))) || ((!(m2 == n2) || (!(m3 == n3))))) = true
        · have H := HA.out
          clear HA
          rw [if_pos c80] at H
          obtain ⟨⟨s0, s1⟩, H1, H⟩ := Option.bind_eq_some_iff.mp H
          obtain ⟨⟨s2, s3⟩, H2, H⟩ := Option.bind_eq_some_iff.mp H
          have HP := Aside0.mk H1
          have HQ := Aside0.mk H2
          have H' := Aside0.mk H
          clear H H1 H2
          try go_wp2
          clear c_g20_0 c_g20_1 c_g20_2 c_g20_3 f_g20_0 f_g20_1 f_g20_2 f_g20_3 c_g21_0 c_g21_1 c_g21_2 c_g21_3 f_g21_0 f_g21_1 f_g21_2 f_g21_3
          replace HM : Mem w [bk g20 48 #[.int .u64 m0, .int .u64 m1, .int .u64 m2, .int .u64 m3], bk g21 48 #[.int .u64 n0, .int .u64 n1, .int .u64 n2, .int .u64 n3], bk g8 36 #[.int .u64 q0, .int .u64 q1], bk g9 36 #[.int .u64 q2, .int .u64 q3], bk g15 48 #[.int .u64 0, .int .u64 0, .int .u64 0, .int .u64 0], bk g16 48 #[.int .u64 x0, .int .u64 x1, .int .u64 x2, .int .u64 x3], bk g17 48 #[.int .u64 t0, .int .u64 t1, .int .u64 t2, .int .u64 t3], bk g13 48 #[.int .u64 0, .int .u64 0, .int .u64 0, .int .u64 0], bk g12 48 #[.int .u64 0, .int .u64 0, .int .u64 0, .int .u64 0]] v8 := HM.sel [2, 3, 0, 1, 4, 5, 6, 7, 8] (by decide)
          refine start_ (n := 5) (S := Sees w [bk g20 48 #[.int .u64 m0, .int .u64 m1, .int .u64 m2, .int .u64 m3], bk g21 48 #[.int .u64 n0, .int .u64 n1, .int .u64 n2, .int .u64 n3]]) (ds := []) (up 5 0 []) (by kernel_rfl) rfl (by kernel_rfl) (HM.drew.see 2) (fun hHeld => ?_)
          replace HM := HM.drew
          generalize v8.drew = v9 at HM hHeld ⊢
          refine take_ (i := 0) (N := some 105) (v := ?_) (a' := ?_) (up 5 1 []) rfl rfl (by kernel_rfl) (fun _ _ _ h => h) (Or.inl ⟨by rfl, ?_⟩) hHeld ?_ ?_
          rotate_left
          · intro w' h_
            obtain ⟨s_g20_0, s_g20_1, s_g20_2, s_g20_3⟩ := h_.c4 (i := 0) rfl
            go_simp
            with_reducible rfl
          rotate_left
          · simp only [Act.put, List.setIfInBounds_toArray, List.set_cons_zero, List.set_cons_succ, i64_w, i32_w]
            rfl
          refine take_ (i := 1) (N := some 106) (v := ?_) (a' := ?_) (up 5 2 []) rfl rfl (by kernel_rfl) (fun _ _ _ h => h) (Or.inl ⟨by rfl, ?_⟩) hHeld ?_ ?_
          rotate_left
          · intro w' h_
            obtain ⟨s_g21_0, s_g21_1, s_g21_2, s_g21_3⟩ := h_.c4 (i := 1) rfl
            go_simp
            with_reducible rfl
          rotate_left
          · simp only [Act.put, List.setIfInBounds_toArray, List.set_cons_zero, List.set_cons_succ, i64_w, i32_w]
            rfl
          refine one_ (i := 2) (N := none) (up 5 3 []) rfl rfl (by kernel_rfl) (by decide) (fun K hK => ?_)
          obtain ⟨c_g16_0, c_g16_1, c_g16_2, c_g16_3, f_g16_0, f_g16_1, f_g16_2, f_g16_3⟩ := HM.c4 (i := 5) rfl
          refine skip_ (w1 := ?_) (by rfl) rfl ?_ ?_
          rotate_left
          · go_simp
            rfl
          clear c_g16_0 c_g16_1 c_g16_2 c_g16_3 f_g16_0 f_g16_1 f_g16_2 f_g16_3
          replace HM := HM.put4 5 rfl (.int .u64 m0) (.int .u64 m1) (.int .u64 m2) (.int .u64 m3)
          simp only [List.set_cons_zero, List.set_cons_succ] at HM
          generalize ((((v9.setCell ⟨g16, 0, none⟩ (.int .u64 m0)).setCell ⟨g16, 1, none⟩ (.int .u64 m1)).setCell ⟨g16, 2, none⟩ (.int .u64 m2)).setCell ⟨g16, 3, none⟩ (.int .u64 m3)) = v10 at HM ⊢
          refine hK.out _ _ (HM.see 2) (fun hHeld => ?_)
          clear hK K
          refine one_ (i := 3) (N := none) (up 5 4 []) rfl rfl (by kernel_rfl) (by decide) (fun K hK => ?_)
          obtain ⟨c_g17_0, c_g17_1, c_g17_2, c_g17_3, f_g17_0, f_g17_1, f_g17_2, f_g17_3⟩ := HM.c4 (i := 6) rfl
          refine skip_ (w1 := ?_) (by rfl) rfl ?_ ?_
          rotate_left
          · go_simp
            rfl
          clear c_g17_0 c_g17_1 c_g17_2 c_g17_3 f_g17_0 f_g17_1 f_g17_2 f_g17_3
          replace HM := HM.put4 6 rfl (.int .u64 n0) (.int .u64 n1) (.int .u64 n2) (.int .u64 n3)
          simp only [List.set_cons_zero, List.set_cons_succ] at HM
          generalize ((((v10.setCell ⟨g17, 0, none⟩ (.int .u64 n0)).setCell ⟨g17, 1, none⟩ (.int .u64 n1)).setCell ⟨g17, 2, none⟩ (.int .u64 n2)).setCell ⟨g17, 3, none⟩ (.int .u64 n3)) = v11 at HM ⊢
          refine hK.out _ _ (HM.see 2) (fun hHeld => ?_)
          clear hK K
          refine pure_ (i := 4) (N := some 18) (v := ?_) (a' := ?_) (up 5 5 []) rfl rfl (by kernel_rfl) (fun _ _ _ h => h) (Or.inl ⟨by rfl, ?_⟩) ?_ ?_
          rotate_left
          · intro w'
            go_simp
            with_reducible rfl
          rotate_left
          · simp only [Act.put, List.setIfInBounds_toArray, List.set_cons_zero, List.set_cons_succ, i64_w, i32_w]
            rfl
          clear hHeld
          refine done_ (by kernel_rfl) ?_
          obtain ⟨c_g20_0, c_g20_1, c_g20_2, c_g20_3, f_g20_0, f_g20_1, f_g20_2, f_g20_3⟩ := HM.c4 (i := 0) rfl; obtain ⟨c_g21_0, c_g21_1, c_g21_2, c_g21_3, f_g21_0, f_g21_1, f_g21_2, f_g21_3⟩ := HM.c4 (i := 1) rfl
          try go_wp2_with (first
            | (go_at_call 44; (with_reducible refine (attestorref06_Node.calls k2 a0 m0 m1 m2 m3 s0 s1 _ HP.out).mono ?_); rintro e v12 ⟨rfl, hb⟩; clear c_g20_0 c_g20_1 c_g20_2 c_g20_3 f_g20_0 f_g20_1 f_g20_2 f_g20_3 c_g21_0 c_g21_1 c_g21_2 c_g21_3 f_g21_0 f_g21_1 f_g21_2 f_g21_3; replace HM := HM.call hb; clear hb; obtain ⟨c_g8_0, c_g8_1, f_g8_0, f_g8_1⟩ := HM.c2 (i := 2) rfl)
            | ((with_reducible refine gate_store (t := 36) (p := 8) rfl ?_); refine store_event (t := 36) (p := 8) (v := .tmp 112) (w1 := ((v12.setCell ⟨g8, 0, none⟩ (.int .u64 s0)).setCell ⟨g8, 1, none⟩ (.int .u64 s1))) ?hg ?ho ?hn ?hr ?_; (case ho => rfl); (case hg => rfl); (case hn => rfl); (case hr => first | (go_simp; done) | (go_simp; rfl)); intro v13 hw; clear c_g8_0 c_g8_1 f_g8_0 f_g8_1; replace HM := HM.put2 2 rfl (.int .u64 s0) (.int .u64 s1); simp only [List.set_cons_zero, List.set_cons_succ] at HM; rw [← hw] at HM; clear hw; obtain ⟨c_g21_0, c_g21_1, c_g21_2, c_g21_3, f_g21_0, f_g21_1, f_g21_2, f_g21_3⟩ := HM.c4 (i := 1) rfl)
            | (go_at_call 44; (with_reducible refine (attestorref06_Node.calls k2 a0 n0 n1 n2 n3 s2 s3 _ HQ.out).mono ?_); rintro e v14 ⟨rfl, hb⟩; clear c_g21_0 c_g21_1 c_g21_2 c_g21_3 f_g21_0 f_g21_1 f_g21_2 f_g21_3; replace HM := HM.call hb; clear hb; obtain ⟨c_g9_0, c_g9_1, f_g9_0, f_g9_1⟩ := HM.c2 (i := 3) rfl)
            | ((with_reducible refine gate_store (t := 36) (p := 9) rfl ?_); refine store_event (t := 36) (p := 9) (v := .tmp 118) (w1 := ((v14.setCell ⟨g9, 0, none⟩ (.int .u64 s2)).setCell ⟨g9, 1, none⟩ (.int .u64 s3))) ?hg ?ho ?hn ?hr ?_; (case ho => rfl); (case hg => rfl); (case hn => rfl); (case hr => first | (go_simp; done) | (go_simp; rfl)); intro v15 hw; clear c_g9_0 c_g9_1 f_g9_0 f_g9_1; replace HM := HM.put2 3 rfl (.int .u64 s2) (.int .u64 s3); simp only [List.set_cons_zero, List.set_cons_succ] at HM; rw [← hw] at HM; clear hw))
          have HN : Mem w [bk g15 48 #[.int .u64 0, .int .u64 0, .int .u64 0, .int .u64 0], bk g16 48 #[.int .u64 m0, .int .u64 m1, .int .u64 m2, .int .u64 m3], bk g17 48 #[.int .u64 n0, .int .u64 n1, .int .u64 n2, .int .u64 n3], bk g8 36 #[.int .u64 s0, .int .u64 s1], bk g9 36 #[.int .u64 s2, .int .u64 s3], bk g13 48 #[.int .u64 0, .int .u64 0, .int .u64 0, .int .u64 0], bk g12 48 #[.int .u64 0, .int .u64 0, .int .u64 0, .int .u64 0]] v15 := HM.sel [4, 5, 6, 2, 3, 7, 8] (by decide)
          go_roundg k2
          case measure => exact Nat.lt_succ_self _
          case rel => exact ⟨_, true, _, s0, s1, s2, s3, m0, m1, m2, m3, n0, n1, n2, n3, rfl, rfl, rfl, H', ⟨Nat.le_of_succ_le HK.out⟩, HN⟩
        · have H := HA.out
          clear HA
          rw [if_neg c80] at H
          replace c80 := Bool.eq_false_iff.mpr c80
          obtain ⟨⟨s0, s1⟩, H1, H⟩ := Option.bind_eq_some_iff.mp H
          obtain ⟨⟨s2, s3⟩, H2, H⟩ := Option.bind_eq_some_iff.mp H
          have HP := Aside0.mk H1
          have HQ := Aside0.mk H2
          have H' := Aside0.mk H
          clear H H1 H2
          try go_wp2_with (first
            | (go_at_call 44; (with_reducible refine (attestorref06_Node.calls k2 a0 m0 m1 m2 m3 s0 s1 _ HP.out).mono ?_); rintro e v12 ⟨rfl, hb⟩; clear c_g20_0 c_g20_1 c_g20_2 c_g20_3 f_g20_0 f_g20_1 f_g20_2 f_g20_3 c_g21_0 c_g21_1 c_g21_2 c_g21_3 f_g21_0 f_g21_1 f_g21_2 f_g21_3; replace HM := HM.call hb; clear hb; obtain ⟨c_g8_0, c_g8_1, f_g8_0, f_g8_1⟩ := HM.c2 (i := 0) rfl)
            | ((with_reducible refine gate_store (t := 36) (p := 8) rfl ?_); refine store_event (t := 36) (p := 8) (v := .tmp 112) (w1 := ((v12.setCell ⟨g8, 0, none⟩ (.int .u64 s0)).setCell ⟨g8, 1, none⟩ (.int .u64 s1))) ?hg ?ho ?hn ?hr ?_; (case ho => rfl); (case hg => rfl); (case hn => rfl); (case hr => first | (go_simp; done) | (go_simp; rfl)); intro v13 hw; clear c_g8_0 c_g8_1 f_g8_0 f_g8_1; replace HM := HM.put2 0 rfl (.int .u64 s0) (.int .u64 s1); simp only [List.set_cons_zero, List.set_cons_succ] at HM; rw [← hw] at HM; clear hw; obtain ⟨c_g21_0, c_g21_1, c_g21_2, c_g21_3, f_g21_0, f_g21_1, f_g21_2, f_g21_3⟩ := HM.c4 (i := 3) rfl)
            | (go_at_call 44; (with_reducible refine (attestorref06_Node.calls k2 a0 n0 n1 n2 n3 s2 s3 _ HQ.out).mono ?_); rintro e v14 ⟨rfl, hb⟩; clear c_g21_0 c_g21_1 c_g21_2 c_g21_3 f_g21_0 f_g21_1 f_g21_2 f_g21_3; replace HM := HM.call hb; clear hb; obtain ⟨c_g9_0, c_g9_1, f_g9_0, f_g9_1⟩ := HM.c2 (i := 1) rfl)
            | ((with_reducible refine gate_store (t := 36) (p := 9) rfl ?_); refine store_event (t := 36) (p := 9) (v := .tmp 118) (w1 := ((v14.setCell ⟨g9, 0, none⟩ (.int .u64 s2)).setCell ⟨g9, 1, none⟩ (.int .u64 s3))) ?hg ?ho ?hn ?hr ?_; (case ho => rfl); (case hg => rfl); (case hn => rfl); (case hr => first | (go_simp; done) | (go_simp; rfl)); intro v15 hw; clear c_g9_0 c_g9_1 f_g9_0 f_g9_1; replace HM := HM.put2 1 rfl (.int .u64 s2) (.int .u64 s3); simp only [List.set_cons_zero, List.set_cons_succ] at HM; rw [← hw] at HM; clear hw))
          have HN : Mem w [bk g15 48 #[.int .u64 0, .int .u64 0, .int .u64 0, .int .u64 0], bk g16 48 #[.int .u64 x0, .int .u64 x1, .int .u64 x2, .int .u64 x3], bk g17 48 #[.int .u64 t0, .int .u64 t1, .int .u64 t2, .int .u64 t3], bk g8 36 #[.int .u64 s0, .int .u64 s1], bk g9 36 #[.int .u64 s2, .int .u64 s3], bk g13 48 #[.int .u64 0, .int .u64 0, .int .u64 0, .int .u64 0], bk g12 48 #[.int .u64 0, .int .u64 0, .int .u64 0, .int .u64 0]] v15 := HM.sel [4, 5, 6, 0, 1, 7, 8] (by decide)
          go_roundg k2
          case measure => exact Nat.lt_succ_self _
          case rel => exact ⟨_, fd, _, s0, s1, s2, s3, x0, x1, x2, x3, t0, t1, t2, t3, rfl, rfl, rfl, H', ⟨Nat.le_of_succ_le HK.out⟩, HN⟩
      · rw [if_neg c75] at H
        have d75 : decide (j < (l4.length : Int)) = false := decide_eq_false c75
        simp only [Option.some.injEq, Prod.mk.injEq] at H
        obtain ⟨rfl, rfl, rfl, rfl, rfl, rfl, rfl, rfl, rfl⟩ := H
        try go_wp2
        replace HM : Mem w [bk g16 48 #[.int .u64 x0, .int .u64 x1, .int .u64 x2, .int .u64 x3], bk g17 48 #[.int .u64 t0, .int .u64 t1, .int .u64 t2, .int .u64 t3], bk g15 48 #[.int .u64 0, .int .u64 0, .int .u64 0, .int .u64 0], bk g8 36 #[.int .u64 q0, .int .u64 q1], bk g9 36 #[.int .u64 q2, .int .u64 q3], bk g13 48 #[.int .u64 0, .int .u64 0, .int .u64 0, .int .u64 0], bk g12 48 #[.int .u64 0, .int .u64 0, .int .u64 0, .int .u64 0]] wr := HM.sel [1, 2, 0, 3, 4, 5, 6] (by decide)
        refine start_ (n := 6) (S := Sees w [bk g16 48 #[.int .u64 x0, .int .u64 x1, .int .u64 x2, .int .u64 x3], bk g17 48 #[.int .u64 t0, .int .u64 t1, .int .u64 t2, .int .u64 t3]]) (ds := []) (up 6 0 []) (by kernel_rfl) rfl (by kernel_rfl) (HM.drew.see 2) (fun hHeld => ?_)
        replace HM := HM.drew
        generalize wr.drew = v5 at HM hHeld ⊢
        refine pure_ (i := 2) (N := some 123) (v := ?_) (a' := ?_) (up 6 0 [2]) rfl rfl (by kernel_rfl) (fun _ _ _ h => h) (Or.inl ⟨by rfl, ?_⟩) ?_ ?_
        rotate_left
        · intro w'
          go_simp
          with_reducible rfl
        rotate_left
        · simp only [Act.put, List.setIfInBounds_toArray, List.set_cons_zero, List.set_cons_succ, i64_w, i32_w]
          rfl
        refine take_ (i := 0) (N := some 121) (v := ?_) (a' := ?_) (up 6 1 [2]) rfl rfl (by kernel_rfl) (fun _ _ _ h => h) (Or.inl ⟨by rfl, ?_⟩) hHeld ?_ ?_
        rotate_left
        · intro w' h_
          obtain ⟨s_g16_0, s_g16_1, s_g16_2, s_g16_3⟩ := h_.c4 (i := 0) rfl
          go_simp
          with_reducible rfl
        rotate_left
        · simp only [Act.put, List.setIfInBounds_toArray, List.set_cons_zero, List.set_cons_succ, i64_w, i32_w]
          rfl
        refine take_ (i := 1) (N := some 122) (v := ?_) (a' := ?_) (up 6 3 []) rfl rfl (by kernel_rfl) (fun _ _ _ h => h) (Or.inl ⟨by rfl, ?_⟩) hHeld ?_ ?_
        rotate_left
        · intro w' h_
          obtain ⟨s_g17_0, s_g17_1, s_g17_2, s_g17_3⟩ := h_.c4 (i := 1) rfl
          go_simp
          with_reducible rfl
        rotate_left
        · simp only [Act.put, List.setIfInBounds_toArray, List.set_cons_zero, List.set_cons_succ, i64_w, i32_w]
          rfl
        refine one_ (i := 3) (N := none) (up 6 4 []) rfl rfl (by kernel_rfl) (by decide) (fun K hK => ?_)
        obtain ⟨c_g12_0, c_g12_1, c_g12_2, c_g12_3, f_g12_0, f_g12_1, f_g12_2, f_g12_3⟩ := HM.c4 (i := 6) rfl
        refine skip_ (w1 := ?_) (by rfl) rfl ?_ ?_
        rotate_left
        · go_simp
          rfl
        clear c_g12_0 c_g12_1 c_g12_2 c_g12_3 f_g12_0 f_g12_1 f_g12_2 f_g12_3
        replace HM := HM.put4 6 rfl (.int .u64 x0) (.int .u64 x1) (.int .u64 x2) (.int .u64 x3)
        simp only [List.set_cons_zero, List.set_cons_succ] at HM
        generalize ((((v5.setCell ⟨g12, 0, none⟩ (.int .u64 x0)).setCell ⟨g12, 1, none⟩ (.int .u64 x1)).setCell ⟨g12, 2, none⟩ (.int .u64 x2)).setCell ⟨g12, 3, none⟩ (.int .u64 x3)) = v6 at HM ⊢
        refine hK.out _ _ (HM.see 2) (fun hHeld => ?_)
        clear hK K
        refine one_ (i := 4) (N := none) (up 6 5 []) rfl rfl (by kernel_rfl) (by decide) (fun K hK => ?_)
        obtain ⟨c_g13_0, c_g13_1, c_g13_2, c_g13_3, f_g13_0, f_g13_1, f_g13_2, f_g13_3⟩ := HM.c4 (i := 5) rfl
        refine skip_ (w1 := ?_) (by rfl) rfl ?_ ?_
        rotate_left
        · go_simp
          rfl
        clear c_g13_0 c_g13_1 c_g13_2 c_g13_3 f_g13_0 f_g13_1 f_g13_2 f_g13_3
        replace HM := HM.put4 5 rfl (.int .u64 t0) (.int .u64 t1) (.int .u64 t2) (.int .u64 t3)
        simp only [List.set_cons_zero, List.set_cons_succ] at HM
        generalize ((((v6.setCell ⟨g13, 0, none⟩ (.int .u64 t0)).setCell ⟨g13, 1, none⟩ (.int .u64 t1)).setCell ⟨g13, 2, none⟩ (.int .u64 t2)).setCell ⟨g13, 3, none⟩ (.int .u64 t3)) = v7 at HM ⊢
        refine hK.out _ _ (HM.see 2) (fun hHeld => ?_)
        clear hK K
        refine pure_ (i := 5) (N := some 14) (v := ?_) (a' := ?_) (up 6 6 []) rfl rfl (by kernel_rfl) (fun _ _ _ h => h) (Or.inl ⟨by rfl, ?_⟩) ?_ ?_
        rotate_left
        · intro w'
          go_simp
          with_reducible rfl
        rotate_left
        · simp only [Act.put, List.setIfInBounds_toArray, List.set_cons_zero, List.set_cons_succ, i64_w, i32_w]
          rfl
        clear hHeld
        refine done_ (by kernel_rfl) ?_
        try go_wp2
        refine bodyPost_ret (results_list (rs := [.cell 12 48, .cell 13 48, .tmp 14]) rfl (by simp) (.cell g12 48 #[.int .u64 x0, .int .u64 x1, .int .u64 x2, .int .u64 x3] (0, 0) _ rfl (HM.get (i := 6) rfl) Tryd.underlying48 rfl (by kernel_rfl) (.cell g13 48 #[.int .u64 t0, .int .u64 t1, .int .u64 t2, .int .u64 t3] (0, 0) _ rfl (HM.get (i := 5) rfl) Tryd.underlying48 rfl (by kernel_rfl) (.tmp .nil)))) rfl ?_
        exact ⟨rfl, HM.bel⟩
end Go.Proofs.YtpnpmeogffodgaaDoor.Q
end
