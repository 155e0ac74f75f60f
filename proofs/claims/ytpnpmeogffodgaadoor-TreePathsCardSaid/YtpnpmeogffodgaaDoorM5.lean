/- Several texts in one, in build order. What they prove, each by its own first remark:
Written by our own copy of a printing program (a twelfth state) out of the translation. Not trusted: Lean checks it.
Of PTreeA what this claim needs.
From the rows' facts on arguments to what the plain laws ask.
Of PChecks what this claim needs.
Of PTreeB what this claim needs.
The contract of slices.Clone for rows of rows: the headers themselves are copied into memory of its own.
Of PRepl what this claim needs. -/
import Derived.Test.YtpnpmeogffodgaaDoorM2
import Derived.Test.YtpnpmeogffodgaaDoorM4
import Derived.Test.YtpnpmeogffodgaaDoorM3
import Derived.WalkSpells
section
namespace Go.Proofs.YtpnpmeogffodgaaDoor.Q
open Go.RowKit Go.Proofs.YtpnpmeogffodgaaDoorW.PrintWords Go.Proofs.YtpnpmeogffodgaaDoorW.PrintLast Go.Proofs.YtpnpmeogffodgaaDoorW.PrintMore
attribute [local go_sem] max2_int min2_int max_two min_two max_three min_three max_four min_four run_store_fnV run_store_fnc run_store_nfn   -- for this text's walks alone
set_option linter.unusedVariables false
set_option linter.unusedSimpArgs false

/-! ### attestorlaw07_lives: function 21 -/
def attestorlaw07_lives.f (k : Nat)  : Option (Bool) := (tree_Build.f k 0 (([(⟨0, 0⟩ : S36), (⟨0, 0⟩ : S36)] : List (S36))) 0).bind fun ay => ((tree_Path.f k ay.1 ay.2.1 ay.2.2.1 ay.2.2.2.1 1).bind fun aG => (if ay.2.2.2.2 = 0 then (if aG.2 = 0 then (if ay.2.1 = 1 then ((tree_Cap.f k ay.1 ay.2.1 ay.2.2.1 ay.2.2.2.1).bind fun aK => ((attestorref07_Equal.f k aK (([(⟨19, 58⟩ : S36)] : List (S36)))).bind fun aN => (if aN = true then ((attestorref07_Equal.f k aG.1 (([(⟨0, 0⟩ : S36)] : List (S36)))).bind fun aL => (if aL = true then ((tree_Check.f 0 (([(⟨19, 58⟩ : S36)] : List (S36))) 1 0 0 aG.1).bind fun aF => (some aF)) else (some false))) else (some false)))) else (some false)) else (some false)) else (some false)))
theorem attestorlaw07_lives.mono : ∀ k, LeO (attestorlaw07_lives.f k ) (attestorlaw07_lives.f (k + 1) ) := by
  intro  k
  unfold attestorlaw07_lives.f
  repeat' first
      | (with_reducible exact attestorref07_Equal.mono _ _ _)
      | (with_reducible exact tree_Build.mono _ _ _ _)
      | (with_reducible exact tree_Cap.mono _ _ _ _ _)
      | (with_reducible exact tree_Path.mono _ _ _ _ _ _)
      | (with_reducible exact LeO.refl _)
      | (with_reducible exact LeO.none _)
      | (with_reducible refine LeO.ite ?_ ?_)
      | (with_reducible refine LeO.bind ?_ (fun _ => ?_))
      | exact attestorref07_Equal.mono _ _ _
      | exact tree_Build.mono _ _ _ _
      | exact tree_Cap.mono _ _ _ _ _
      | exact tree_Path.mono _ _ _ _ _ _
      | exact LeO.none _
      | refine LeO.ite ?_ ?_
      | refine LeO.bind ?_ (fun _ => ?_)
set_option maxHeartbeats 8000000 in
set_option maxRecDepth 100000 in
theorem attestorlaw07_lives.calls (k : Nat)  (r : Bool) (w : World) (hrG : GL w) (h : attestorlaw07_lives.f k  = some r) :
  Calls Tryd.prog 21 #[] w fun e w' => e = .returned (.bool r) ∧ Below w.heap.size w w' := by
 have hu36 := Tryd.underlying36
 have hu26 := Tryd.underlying26
 have HRG := aj hrG
 clear hrG
 have HB := aj (Below.refl w.heap.size w)
 have H : ((tree_Build.f k 0 (([(⟨0, 0⟩ : S36), (⟨0, 0⟩ : S36)] : List (S36))) 0).bind fun ay => ((tree_Path.f k ay.1 ay.2.1 ay.2.2.1 ay.2.2.2.1 1).bind fun aG => (if ay.2.2.2.2 = 0 then (if aG.2 = 0 then (if ay.2.1 = 1 then ((tree_Cap.f k ay.1 ay.2.1 ay.2.2.1 ay.2.2.2.1).bind fun aK => ((attestorref07_Equal.f k aK (([(⟨19, 58⟩ : S36)] : List (S36)))).bind fun aN => (if aN = true then ((attestorref07_Equal.f k aG.1 (([(⟨0, 0⟩ : S36)] : List (S36)))).bind fun aL => (if aL = true then ((tree_Check.f 0 (([(⟨19, 58⟩ : S36)] : List (S36))) 1 0 0 aG.1).bind fun aF => (some aF)) else (some false))) else (some false)))) else (some false)) else (some false)) else (some false)))) = some r := h
 clear h
 obtain ⟨aH, a4⟩ : ∃ y_ : List (S36), y_ = (([(⟨0, 0⟩ : S36), (⟨0, 0⟩ : S36)] : List (S36))) := ⟨_, rfl⟩
 (first | rw [← a4] at H | simp only [← a4] at H)
 have aM := aj a4
 clear a4
 replace H := Option.bind_eq_some_iff.mp H
 obtain ⟨⟨am, al, aq, ar, aO⟩, bM, H⟩ := H
 replace H : ((tree_Path.f k am al aq ar 1).bind fun aG => (if aO = 0 then (if aG.2 = 0 then (if al = 1 then ((tree_Cap.f k am al aq ar).bind fun aK => ((attestorref07_Equal.f k aK (([(⟨19, 58⟩ : S36)] : List (S36)))).bind fun aN => (if aN = true then ((attestorref07_Equal.f k aG.1 (([(⟨0, 0⟩ : S36)] : List (S36)))).bind fun aL => (if aL = true then ((tree_Check.f 0 (([(⟨19, 58⟩ : S36)] : List (S36))) 1 0 0 aG.1).bind fun aF => (some aF)) else (some false))) else (some false)))) else (some false)) else (some false)) else (some false))) = some r := H
 have A1 := aj bM
 clear bM
 replace H := Option.bind_eq_some_iff.mp H
 obtain ⟨⟨aI, aQ⟩, bN, H⟩ := H
 replace H : (if aO = 0 then (if aQ = 0 then (if al = 1 then ((tree_Cap.f k am al aq ar).bind fun aK => ((attestorref07_Equal.f k aK (([(⟨19, 58⟩ : S36)] : List (S36)))).bind fun aN => (if aN = true then ((attestorref07_Equal.f k aI (([(⟨0, 0⟩ : S36)] : List (S36)))).bind fun aL => (if aL = true then ((tree_Check.f 0 (([(⟨19, 58⟩ : S36)] : List (S36))) 1 0 0 aI).bind fun aF => (some aF)) else (some false))) else (some false)))) else (some false)) else (some false)) else (some false)) = some r := H
 have A2 := aj bN
 clear bN
 by_cases c3 : aO = 0
 ·rw [if_pos c3] at H
  have c3b0 : (aO == 0) = true := beq_iff_eq.mpr c3
  have c3b1 : (aO != 0) = false := bne_eq_false_iff_eq.mpr c3
  clear c3
  by_cases c4 : aQ = 0
  ·rw [if_pos c4] at H
   have c4b0 : (aQ == 0) = true := beq_iff_eq.mpr c4
   have c4b1 : (aQ != 0) = false := bne_eq_false_iff_eq.mpr c4
   clear c4
   by_cases c5 : al = 1
   ·rw [if_pos c5] at H
    have c5b0 : (al == 1) = true := beq_iff_eq.mpr c5
    have c5b1 : (al != 1) = false := bne_eq_false_iff_eq.mpr c5
    clear c5
    replace H := Option.bind_eq_some_iff.mp H
    obtain ⟨aK, bO, H⟩ := H
    have A6 := aj bO
    clear bO
    obtain ⟨bd, a5⟩ : ∃ y_ : List (S36), y_ = (([(⟨19, 58⟩ : S36)] : List (S36))) := ⟨_, rfl⟩
    replace H : ((attestorref07_Equal.f k aK bd).bind fun aN => (if aN = true then ((attestorref07_Equal.f k aI (([(⟨0, 0⟩ : S36)] : List (S36)))).bind fun aL => (if aL = true then ((tree_Check.f 0 (([(⟨19, 58⟩ : S36)] : List (S36))) 1 0 0 aI).bind fun aF => (some aF)) else (some false))) else (some false))) = some r := by first | (rw [a5]; with_reducible exact H) | (have aS := (Option.bind_some _ _).symm.trans H; rw [a5]; with_reducible exact aS) | (have aS := (Option.bind_some _ _).symm.trans H; with_reducible exact aS) | with_reducible exact H | (rw [a5]; exact H) | exact H
    have aZ := aj a5
    clear a5
    replace H := Option.bind_eq_some_iff.mp H
    obtain ⟨aN, bP, H⟩ := H
    have A7 := aj bP
    clear bP
    by_cases c8 : aN = true
    ·subst c8
     have H1 : ((attestorref07_Equal.f k aI (([(⟨0, 0⟩ : S36)] : List (S36)))).bind fun aL => (if aL = true then ((tree_Check.f 0 (([(⟨19, 58⟩ : S36)] : List (S36))) 1 0 0 aI).bind fun aF => (some aF)) else (some false))) = some r := by rw [if_pos rfl] at H; exact H
     clear H
     have H := H1
     clear H1
     obtain ⟨bg, a6⟩ : ∃ y_ : List (S36), y_ = (([(⟨0, 0⟩ : S36)] : List (S36))) := ⟨_, rfl⟩
     (first | rw [← a6] at H | simp only [← a6] at H)
     have a9 := aj a6
     clear a6
     replace H := Option.bind_eq_some_iff.mp H
     obtain ⟨aL, bQ, H⟩ := H
     have A9 := aj bQ
     clear bQ
     by_cases c10 : aL = true
     ·subst c10
      have H1 : ((tree_Check.f 0 (([(⟨19, 58⟩ : S36)] : List (S36))) 1 0 0 aI).bind fun aF => (some aF)) = some r := by rw [if_pos rfl] at H; exact H
      clear H
      have H := H1
      clear H1
      obtain ⟨bu, a7⟩ : ∃ y_ : List (S36), y_ = (([(⟨19, 58⟩ : S36)] : List (S36))) := ⟨_, rfl⟩
      (first | rw [← a7] at H | simp only [← a7] at H)
      have bh := aj a7
      clear a7
      replace H := Option.bind_eq_some_iff.mp H
      obtain ⟨aF, bv, H⟩ := H
      have eo := aj bv
      clear bv
      obtain rfl := Option.some.inj H
      go_enter Tryd.func21, Tryd.ntmps21
      go_wp2_with (first | ((with_reducible refine gate_dst (N := 1) rfl ?_); (try (refine gate_guard (by rfl) ?_; dsimp only)); refine box_event ?hg (N := 1) ?hd (cs := #[.int .u64 0, .int .u64 0]) (t := 36) ?hr ?_; (case hd => rfl); (case hg => rfl); (case hr => first | (go_simp; done) | (go_simp; rfl)); intro af hg bR hbox hb; have ai := aj (below_step (by repeat (first | (with_reducible first | exact HB.out | apply below_alloc | apply pw_below_drewN | apply below_drew1) | exact HB.out)) hb); have ak := aj (hbox); have ao := aj ((by rw [hg]; exact (below_size (by repeat (first | (with_reducible first | exact HB.out | apply below_alloc | apply pw_below_drewN | apply below_drew1) | exact HB.out))) : w.heap.size ≤ af)); clear HB; have HB := ai; have aa := ak; have ah := ao; clear ai ak ao; clear hb hbox hg; have cz : bR.cell? ⟨af, 0, none⟩ = some (.int .u64 0) := bq_ aa 0; have cA : bR.cell? ⟨af, 1, none⟩ = some (.int .u64 0) := bq_ aa 1; have cB := blk_frozen aa.out 0; have cC := blk_frozen aa.out 1) | ((with_reducible refine gate_dst (N := 9) rfl ?_); (try (refine gate_guard (by rfl) ?_; dsimp only)); refine Kd.R_lit k36 _ 36 ?hg (N := 9) ?hd (xs := ([(⟨0, 0⟩ : S36), (⟨0, 0⟩ : S36)] : List (S36))) (inner := [.int .u64 0, .int .u64 0, .int .u64 0, .int .u64 0]) (ok := fun _ => True) (okp := fun _ => True) ?hr ?hp (fun _ hk => hk) trivial (Below.refl _ _) (Nat.le_refl _) (by simp) ?_; (case hd => rfl); (case hg => rfl); (case hr => first | (go_simp; done) | (go_simp; rfl)); (case hp => exact (Reps.c2 (show Kd.M k36 _ _ _ (⟨0, 0⟩ : S36) [.int .u64 0, .int .u64 0] from (k36_mkM _ _ _ (⟨0, 0⟩ : S36) )) (Reps.c2 (show Kd.M k36 _ _ _ (⟨0, 0⟩ : S36) [.int .u64 0, .int .u64 0] from (k36_mkM _ _ _ (⟨0, 0⟩ : S36) )) (Reps.none _ _)))); intro ba e4 ho15 hb hg_ hnew_; clear hg_ hnew_; (first | rw [← aM.out] at ho15 | (simp only [Int.reduceToNat] at ho15; rw [← aM.out] at ho15)); have ai := aj (Kd.R_lower (Kd.R_newB ho15 (g := af) (o := .cells #[.int .u64 0, .int .u64 0] 36 (0, 0)) (by exact aa.out)) (below_size (by repeat (first | (with_reducible first | exact HB.out | apply below_alloc | apply pw_below_drewN | apply below_drew1 | refine below_set ?_ ah.out) | exact HB.out)))); have ak := aj (blk_below (g := af) (o := .cells #[.int .u64 0, .int .u64 0] 36 (0, 0)) (by exact aa.out) hb); have ap := aj (below_step (by repeat (first | (with_reducible first | exact HB.out | apply below_alloc | apply pw_below_drewN | apply below_drew1 | refine below_set ?_ ah.out) | exact HB.out)) hb); clear aa; clear HB; have ac := ai; have aa := ak; have HB := ap; clear ai ak ap; clear hb ho15; obtain ⟨bw, bx, bZ⟩ := Kd.R_slice ac.out; subst bZ) | ((with_reducible refine gate_callee (f := 13) rfl ?_); refine goesL_ (some 10) rfl rfl Tryd.func13 (by kernel_rfl) rfl #[.int .i64 0, .slice bw aH.length bx, .int .i64 0] rfl (by (try simp only [List.map_toArray, List.map_cons, List.map_nil]); first | done | rfl | (go_simp; done)) ?_; (with_reducible refine (tree_Build.calls k 0 _ _ aH 0 am al aq ar aO _ ?side1 ?side2 ?side3 A1.out).mono ?_); (case side1 => exact (Kd.R_reads' ac.out).2.2); (case side2 => exact (Kd.R_reads' ac.out).2.1); (case side3 => repeat (first | exact (GL.below HRG.out HB.out) | (with_reducible refine GL.alloc ?_ _) | (with_reducible refine GL.drewN ?_ _) | (with_reducible refine GL.drew ?_))); rintro e e5 ⟨bb, rfl, ho0, hb⟩; refine ⟨_, rfl, ?_⟩; have ai := aj (Kd.R_below (by (with_reducible repeat (first | apply Kd.R_alloc | apply Kd.R_drewN | apply Kd.R_drew)); exact ac.out) hb); have ak := aj (Kd.S_lower (Kd.S_newB (Kd.S_new' ho0 (Kd.R_lt (by (with_reducible repeat (first | apply Kd.R_alloc | apply Kd.R_drewN | apply Kd.R_drew)); exact ac.out))) (g := af) (o := .cells #[.int .u64 0, .int .u64 0] 36 (0, 0)) (by exact aa.out)) (below_size (by repeat (first | (with_reducible first | exact HB.out | apply below_alloc | apply pw_below_drewN | apply below_drew1 | refine below_set ?_ ah.out) | exact HB.out)))); have ap := aj (blk_below (g := af) (o := .cells #[.int .u64 0, .int .u64 0] 36 (0, 0)) (by exact aa.out) hb); have ao := aj (below_step (by repeat (first | (with_reducible first | exact HB.out | apply below_alloc | apply pw_below_drewN | apply below_drew1 | refine below_set ?_ ah.out) | exact HB.out)) hb); clear ac; clear aa; clear HB; have ac := ai; have ag := ak; have aa := ap; have HB := ao; clear ai ak ap ao; (try clear hb); (try clear hb2); (try clear hk); (try clear hi); (try clear ho0)) | ((with_reducible refine gate_dst (N := 2) rfl ?_); (try (refine gate_guard (by rfl) ?_; dsimp only)); refine box_event ?hg (N := 2) ?hd (cs := #[.int .i64 0, .int .i64 0, .int .i64 0, .slice none 0 0]) (t := 26) ?hr ?_; (case hd => rfl); (case hg => rfl); (case hr => first | (go_simp; done) | (go_simp; rfl)); intro ab hg bi hbox hb; have ai := aj (Kd.R_below (by (with_reducible repeat (first | apply Kd.R_alloc | apply Kd.R_drewN | apply Kd.R_drew)); exact ac.out) hb); have ak := aj (Kd.S_below (by (with_reducible repeat (first | apply Kd.S_alloc | apply Kd.S_drewN | apply Kd.S_drew)); exact ag.out) hb); have ap := aj (blk_below (g := af) (o := .cells #[.int .u64 0, .int .u64 0] 36 (0, 0)) (by exact aa.out) hb); have ao := aj (below_step (by repeat (first | (with_reducible first | exact HB.out | apply below_alloc | apply pw_below_drewN | apply below_drew1 | refine below_set ?_ ah.out) | exact HB.out)) hb); have aw := aj (hbox); have az := aj ((by rw [hg]; exact (below_size (by repeat (first | (with_reducible first | exact HB.out | apply below_alloc | apply pw_below_drewN | apply below_drew1 | refine below_set ?_ ah.out) | exact HB.out))) : w.heap.size ≤ ab)); have aC := aj ((by rw [hg]; exact Nat.ne_of_lt (blk_lt (g := af) (o := .cells #[.int .u64 0, .int .u64 0] 36 (0, 0)) (by exact aa.out)) : af ≠ ab)); have aE := aj ((by rw [hg]; exact Nat.ne_of_gt (blk_lt (g := af) (o := .cells #[.int .u64 0, .int .u64 0] 36 (0, 0)) (by exact aa.out)) : ab ≠ af)); clear ac; clear ag; clear aa; clear HB; have ac := ai; have ag := ak; have aa := ap; have HB := ao; have ad := aw; have av := az; have ae := aC; have aD := aE; clear ai ak ap ao aw az aC aE; clear hb hbox hg; have er := aD.out; have et := ae.out; have cD : bi.cell? ⟨ab, 0, none⟩ = some (.int .i64 0) := bq_ ad 0; have cE : bi.cell? ⟨ab, 1, none⟩ = some (.int .i64 0) := bq_ ad 1; have cF : bi.cell? ⟨ab, 2, none⟩ = some (.int .i64 0) := bq_ ad 2; have cG : bi.cell? ⟨ab, 3, none⟩ = some (.slice none 0 0) := bq_ ad 3; have cH := blk_frozen ad.out 0; have cI := blk_frozen ad.out 1; have cJ := blk_frozen ad.out 2; have cK := blk_frozen ad.out 3; obtain ⟨aR, aP, b0⟩ := Kd.S_slice ag.out; subst b0) | ((with_reducible refine gate_callee (f := 23) rfl ?_); refine goesL_ (some 15) rfl rfl Tryd.func23 (by kernel_rfl) rfl #[.agg #[.int .i64 am, .int .i64 al, .int .i64 aq, .slice aR ar.length aP], .int .i64 1] rfl (by (try simp only [List.map_toArray, List.map_cons, List.map_nil]); first | done | rfl | (go_simp; done)) ?_; (with_reducible refine (tree_Path.calls k am al aq _ _ ar 1 aI aQ _ ?side1 ?side2 ?side3 A2.out).mono ?_); (case side1 => refine (Kd.S_reads' (e := 22) (base := w.heap.size) (ok := fun k_ => ((True ∧ some k_ ≠ (.slice bw aH.length bx : Value).ownBlock) ∧ k_ ≠ af)) (n := ar.length) (c := aP) ?_).2.2; exact (by (with_reducible repeat (first | apply Kd.S_alloc | apply Kd.S_drewN | apply Kd.S_drew)); exact (Kd.S_mono (Kd.S_far (p := ⟨ab, 3, none⟩) (Kd.S_far (p := ⟨ab, 2, none⟩) (Kd.S_far (p := ⟨ab, 1, none⟩) (Kd.S_far (p := ⟨ab, 0, none⟩) (Kd.S_types ag.out ad.out (by decide)) (fun _ hk => hk.2) (.int .i64 am)) (fun _ hk => hk.2) (.int .i64 al)) (fun _ hk => hk.2) (.int .i64 aq)) (fun _ hk => hk.2) (.slice aR ar.length aP)) (fun _ h_ => h_.1)))); (case side2 => exact (Kd.S_reads' ag.out).2.1); (case side3 => exact GL.below HRG.out (by repeat (first | (with_reducible first | exact HB.out | apply below_alloc | apply pw_below_drewN | apply below_drew1 | refine below_set ?_ ah.out | refine below_set ?_ av.out) | exact HB.out))); rintro e bj ⟨bc, rfl, ho0, hb⟩; refine ⟨_, rfl, ?_⟩; have ai := aj (Kd.R_elder' (by (with_reducible repeat (first | apply Kd.R_alloc | apply Kd.R_drewN | apply Kd.R_drew)); exact (Kd.R_mono (Kd.R_far (p := ⟨ab, 3, none⟩) (Kd.R_far (p := ⟨ab, 2, none⟩) (Kd.R_far (p := ⟨ab, 1, none⟩) (Kd.R_far (p := ⟨ab, 0, none⟩) (Kd.R_types ac.out ad.out (by decide)) (fun _ hk => hk.2) (.int .i64 am)) (fun _ hk => hk.2) (.int .i64 al)) (fun _ hk => hk.2) (.int .i64 aq)) (fun _ hk => hk.2) (.slice aR ar.length aP)) (fun _ h_ => h_.1))) (Kd.R_base ho0) hb); have ak := aj (Kd.S_elder' (by (with_reducible repeat (first | apply Kd.S_alloc | apply Kd.S_drewN | apply Kd.S_drew)); exact (Kd.S_mono (Kd.S_far (p := ⟨ab, 3, none⟩) (Kd.S_far (p := ⟨ab, 2, none⟩) (Kd.S_far (p := ⟨ab, 1, none⟩) (Kd.S_far (p := ⟨ab, 0, none⟩) (Kd.S_types ag.out ad.out (by decide)) (fun _ hk => hk.2) (.int .i64 am)) (fun _ hk => hk.2) (.int .i64 al)) (fun _ hk => hk.2) (.int .i64 aq)) (fun _ hk => hk.2) (.slice aR ar.length aP)) (fun _ h_ => h_.1))) (Kd.R_base ho0) hb); have ap := aj (Kd.R_lower (Kd.R_newB (Kd.R_new' ho0 (Kd.R_lt (by (with_reducible repeat (first | apply Kd.R_alloc | apply Kd.R_drewN | apply Kd.R_drew)); exact (Kd.R_mono (Kd.R_far (p := ⟨ab, 3, none⟩) (Kd.R_far (p := ⟨ab, 2, none⟩) (Kd.R_far (p := ⟨ab, 1, none⟩) (Kd.R_far (p := ⟨ab, 0, none⟩) (Kd.R_types ac.out ad.out (by decide)) (fun _ hk => hk.2) (.int .i64 am)) (fun _ hk => hk.2) (.int .i64 al)) (fun _ hk => hk.2) (.int .i64 aq)) (fun _ hk => hk.2) (.slice aR ar.length aP)) (fun _ h_ => h_.1))))) (g := af) (o := .cells #[.int .u64 0, .int .u64 0] 36 (0, 0)) (by refine blk_far ?_ ae.out _; refine blk_far ?_ ae.out _; refine blk_far ?_ ae.out _; refine blk_far ?_ ae.out _; exact aa.out)) (below_size (by repeat (first | (with_reducible first | exact HB.out | apply below_alloc | apply pw_below_drewN | apply below_drew1 | refine below_set ?_ ah.out | refine below_set ?_ av.out) | exact HB.out)))); have ao := aj (blk_below (g := af) (o := .cells #[.int .u64 0, .int .u64 0] 36 (0, 0)) (by refine blk_far ?_ ae.out _; refine blk_far ?_ ae.out _; refine blk_far ?_ ae.out _; refine blk_far ?_ ae.out _; exact aa.out) hb); have aw := aj (blk_below (g := ab) (o := .cells #[.int .i64 am, .int .i64 al, .int .i64 aq, .slice aR ar.length aP] 26 (0, 0)) (by refine blk_put (cs := #[.int .i64 am, .int .i64 al, .int .i64 aq, .slice none 0 0]) ?_ 3 _ rfl; refine blk_put (cs := #[.int .i64 am, .int .i64 al, .int .i64 0, .slice none 0 0]) ?_ 2 _ rfl; refine blk_put (cs := #[.int .i64 am, .int .i64 0, .int .i64 0, .slice none 0 0]) ?_ 1 _ rfl; refine blk_put (cs := #[.int .i64 0, .int .i64 0, .int .i64 0, .slice none 0 0]) ?_ 0 _ rfl; exact ad.out) hb); have aA := aj (below_step (by repeat (first | (with_reducible first | exact HB.out | apply below_alloc | apply pw_below_drewN | apply below_drew1 | refine below_set ?_ ah.out | refine below_set ?_ av.out) | exact HB.out)) hb); clear ac; clear ag; clear aa; clear ad; clear HB; have ac := ai; have ag := ak; have au := ap; have aa := ao; have ad := aw; have HB := aA; clear ai ak ap ao aw aA; (try clear hb); (try clear hb2); (try clear hk); (try clear hi); (try clear ho0); have cL : bj.cell? ⟨ab, 0, none⟩ = some (.int .i64 am) := bq_ ad 0; have cM : bj.cell? ⟨ab, 1, none⟩ = some (.int .i64 al) := bq_ ad 1; have cN : bj.cell? ⟨ab, 2, none⟩ = some (.int .i64 aq) := bq_ ad 2; have cO : bj.cell? ⟨ab, 3, none⟩ = some (.slice aR ar.length aP) := bq_ ad 3; have cP := blk_frozen ad.out 0; have cQ := blk_frozen ad.out 1; have cR := blk_frozen ad.out 2; have cS := blk_frozen ad.out 3) | (go_at_call 19; (with_reducible refine (tree_Cap.calls k am al aq _ _ ar aK _ ?side1 ?side2 ?side3 A6.out).mono ?_); (case side1 => exact (Kd.S_reads' ag.out).2.2); (case side2 => exact (Kd.S_reads' ag.out).2.1); (case side3 => repeat (first | exact (GL.below HRG.out HB.out) | (with_reducible refine GL.alloc ?_ _) | (with_reducible refine GL.drewN ?_ _) | (with_reducible refine GL.drew ?_))); rintro e e6 ⟨bz, rfl, ho0, hb⟩; have ai := aj (Kd.R_elder' (by (with_reducible repeat (first | apply Kd.R_alloc | apply Kd.R_drewN | apply Kd.R_drew)); exact ac.out) (Kd.R_base ho0) hb); have ak := aj (Kd.S_elder' (by (with_reducible repeat (first | apply Kd.S_alloc | apply Kd.S_drewN | apply Kd.S_drew)); exact ag.out) (Kd.R_base ho0) hb); have ap := aj (Kd.R_elder' (by (with_reducible repeat (first | apply Kd.R_alloc | apply Kd.R_drewN | apply Kd.R_drew)); exact au.out) (Kd.R_base ho0) hb); have ao := aj (Kd.R_lower (Kd.R_newB (Kd.R_new' (Kd.R_new' ho0 (Kd.R_lt (by (with_reducible repeat (first | apply Kd.R_alloc | apply Kd.R_drewN | apply Kd.R_drew)); exact ac.out))) (Kd.R_lt (by (with_reducible repeat (first | apply Kd.R_alloc | apply Kd.R_drewN | apply Kd.R_drew)); exact au.out))) (g := af) (o := .cells #[.int .u64 0, .int .u64 0] 36 (0, 0)) (by exact aa.out)) (below_size (by repeat (first | (with_reducible first | exact HB.out | apply below_alloc | apply pw_below_drewN | apply below_drew1 | refine below_set ?_ ah.out | refine below_set ?_ av.out) | exact HB.out)))); have aw := aj (blk_below (g := af) (o := .cells #[.int .u64 0, .int .u64 0] 36 (0, 0)) (by exact aa.out) hb); have aA := aj (blk_below (g := ab) (o := .cells #[.int .i64 am, .int .i64 al, .int .i64 aq, .slice aR ar.length aP] 26 (0, 0)) (by exact ad.out) hb); have az := aj (below_step (by repeat (first | (with_reducible first | exact HB.out | apply below_alloc | apply pw_below_drewN | apply below_drew1 | refine below_set ?_ ah.out | refine below_set ?_ av.out) | exact HB.out)) hb); clear ac; clear ag; clear au; clear aa; clear ad; clear HB; have ac := ai; have ag := ak; have au := ap; have ax := ao; have aa := aw; have ad := aA; have HB := az; clear ai ak ap ao aw aA az; (try clear hb); (try clear hb2); (try clear hk); (try clear hi); (try clear ho0)) | ((with_reducible refine gate_dst (N := 33) rfl ?_); (try (refine gate_guard (by rfl) ?_; dsimp only)); refine Kd.R_lit k36 _ 36 ?hg (N := 33) ?hd (xs := ([(⟨19, 58⟩ : S36)] : List (S36))) (inner := [.int .u64 19, .int .u64 58]) (ok := fun _ => True) (okp := fun _ => True) ?hr ?hp (fun _ hk => hk) trivial (Below.refl _ _) (Nat.le_refl _) (by simp) ?_; (case hd => rfl); (case hg => rfl); (case hr => first | (go_simp; done) | (go_simp; rfl)); (case hp => exact (Reps.c2 (show Kd.M k36 _ _ _ (⟨19, 58⟩ : S36) [.int .u64 19, .int .u64 58] from (k36_mkM _ _ _ (⟨19, 58⟩ : S36) )) (Reps.none _ _))); intro bA bS ho26 hb hg_ hnew_; clear hg_ hnew_; (first | rw [← aZ.out] at ho26 | (simp only [Int.reduceToNat] at ho26; rw [← aZ.out] at ho26)); have ai := aj (Kd.R_elder' (by (with_reducible repeat (first | apply Kd.R_alloc | apply Kd.R_drewN | apply Kd.R_drew)); exact ac.out) (Kd.R_base ho26) hb); have ak := aj (Kd.S_elder' (by (with_reducible repeat (first | apply Kd.S_alloc | apply Kd.S_drewN | apply Kd.S_drew)); exact ag.out) (Kd.R_base ho26) hb); have ap := aj (Kd.R_elder' (by (with_reducible repeat (first | apply Kd.R_alloc | apply Kd.R_drewN | apply Kd.R_drew)); exact au.out) (Kd.R_base ho26) hb); have ao := aj (Kd.R_elder' (by (with_reducible repeat (first | apply Kd.R_alloc | apply Kd.R_drewN | apply Kd.R_drew)); exact ax.out) (Kd.R_base ho26) hb); have aw := aj (Kd.R_lower (Kd.R_newB (Kd.R_new' (Kd.R_new' (Kd.R_new' ho26 (Kd.R_lt (by (with_reducible repeat (first | apply Kd.R_alloc | apply Kd.R_drewN | apply Kd.R_drew)); exact ac.out))) (Kd.R_lt (by (with_reducible repeat (first | apply Kd.R_alloc | apply Kd.R_drewN | apply Kd.R_drew)); exact au.out))) (Kd.R_lt (by (with_reducible repeat (first | apply Kd.R_alloc | apply Kd.R_drewN | apply Kd.R_drew)); exact ax.out))) (g := af) (o := .cells #[.int .u64 0, .int .u64 0] 36 (0, 0)) (by exact aa.out)) (below_size (by repeat (first | (with_reducible first | exact HB.out | apply below_alloc | apply pw_below_drewN | apply below_drew1 | refine below_set ?_ ah.out | refine below_set ?_ av.out) | exact HB.out)))); have aA := aj (blk_below (g := af) (o := .cells #[.int .u64 0, .int .u64 0] 36 (0, 0)) (by exact aa.out) hb); have az := aj (blk_below (g := ab) (o := .cells #[.int .i64 am, .int .i64 al, .int .i64 aq, .slice aR ar.length aP] 26 (0, 0)) (by exact ad.out) hb); have aC := aj (below_step (by repeat (first | (with_reducible first | exact HB.out | apply below_alloc | apply pw_below_drewN | apply below_drew1 | refine below_set ?_ ah.out | refine below_set ?_ av.out) | exact HB.out)) hb); clear ac; clear ag; clear au; clear ax; clear aa; clear ad; clear HB; have ac := ai; have ag := ak; have au := ap; have ax := ao; have aB := aw; have aa := aA; have ad := az; have HB := aC; clear ai ak ap ao aw aA az aC; clear hb ho26; obtain ⟨eD, eE, b1⟩ := Kd.R_slice ax.out; subst b1; obtain ⟨eF, eG, b2⟩ := Kd.R_slice aB.out; subst b2) | (go_at_call 18; (with_reducible refine (attestorref07_Equal.calls k _ _ aK _ _ bd true _ ?side1 ?side2 ?side3 ?side4 A7.out).mono ?_); (case side1 => exact (Kd.R_reads' ax.out).2.2); (case side2 => exact (Kd.R_reads' ax.out).2.1); (case side3 => exact (Kd.R_reads' aB.out).2.2); (case side4 => exact (Kd.R_reads' aB.out).2.1); rintro e w' ⟨rfl, ⟨nd, rfl⟩⟩; have cT : bS.cell? ⟨af, 0, none⟩ = some (.int .u64 0) := bq_ aa 0; have cU : bS.cell? ⟨af, 1, none⟩ = some (.int .u64 0) := bq_ aa 1; have cV := blk_frozen aa.out 0; have cW := blk_frozen aa.out 1) | ((with_reducible refine gate_dst (N := 39) rfl ?_); (try (refine gate_guard (by rfl) ?_; dsimp only)); refine Kd.R_lit k36 _ 36 ?hg (N := 39) ?hd (xs := ([(⟨0, 0⟩ : S36)] : List (S36))) (inner := [.int .u64 0, .int .u64 0]) (ok := fun _ => True) (okp := fun _ => True) ?hr ?hp (fun _ hk => hk) trivial (Below.refl _ _) (Nat.le_refl _) (by simp) ?_; (case hd => rfl); (case hg => rfl); (case hr => first | (go_simp; done) | (go_simp; rfl)); (case hp => exact (Reps.c2 (show Kd.M k36 _ _ _ (⟨0, 0⟩ : S36) [.int .u64 0, .int .u64 0] from (k36_mkM _ _ _ (⟨0, 0⟩ : S36) )) (Reps.none _ _))); intro b3 e7 ho31 hb hg_ hnew_; clear hg_ hnew_; (first | rw [← a9.out] at ho31 | (simp only [Int.reduceToNat] at ho31; rw [← a9.out] at ho31)); have ai := aj (Kd.R_elder' (by (with_reducible repeat (first | apply Kd.R_alloc | apply Kd.R_drewN | apply Kd.R_drew)); exact ac.out) (Kd.R_base ho31) hb); have ak := aj (Kd.S_elder' (by (with_reducible repeat (first | apply Kd.S_alloc | apply Kd.S_drewN | apply Kd.S_drew)); exact ag.out) (Kd.R_base ho31) hb); have ap := aj (Kd.R_elder' (by (with_reducible repeat (first | apply Kd.R_alloc | apply Kd.R_drewN | apply Kd.R_drew)); exact au.out) (Kd.R_base ho31) hb); have ao := aj (Kd.R_elder' (by (with_reducible repeat (first | apply Kd.R_alloc | apply Kd.R_drewN | apply Kd.R_drew)); exact ax.out) (Kd.R_base ho31) hb); have aw := aj (Kd.R_elder' (by (with_reducible repeat (first | apply Kd.R_alloc | apply Kd.R_drewN | apply Kd.R_drew)); exact aB.out) (Kd.R_base ho31) hb); have aA := aj (Kd.R_lower (Kd.R_newB (Kd.R_new' (Kd.R_new' (Kd.R_new' (Kd.R_new' ho31 (Kd.R_lt (by (with_reducible repeat (first | apply Kd.R_alloc | apply Kd.R_drewN | apply Kd.R_drew)); exact ac.out))) (Kd.R_lt (by (with_reducible repeat (first | apply Kd.R_alloc | apply Kd.R_drewN | apply Kd.R_drew)); exact au.out))) (Kd.R_lt (by (with_reducible repeat (first | apply Kd.R_alloc | apply Kd.R_drewN | apply Kd.R_drew)); exact ax.out))) (Kd.R_lt (by (with_reducible repeat (first | apply Kd.R_alloc | apply Kd.R_drewN | apply Kd.R_drew)); exact aB.out))) (g := af) (o := .cells #[.int .u64 0, .int .u64 0] 36 (0, 0)) (by exact aa.out)) (below_size (by repeat (first | (with_reducible first | exact HB.out | apply below_alloc | apply pw_below_drewN | apply below_drew1 | refine below_set ?_ ah.out | refine below_set ?_ av.out) | exact HB.out)))); have az := aj (blk_below (g := af) (o := .cells #[.int .u64 0, .int .u64 0] 36 (0, 0)) (by exact aa.out) hb); have aC := aj (blk_below (g := ab) (o := .cells #[.int .i64 am, .int .i64 al, .int .i64 aq, .slice aR ar.length aP] 26 (0, 0)) (by exact ad.out) hb); have aE := aj (below_step (by repeat (first | (with_reducible first | exact HB.out | apply below_alloc | apply pw_below_drewN | apply below_drew1 | refine below_set ?_ ah.out | refine below_set ?_ av.out) | exact HB.out)) hb); clear ac; clear ag; clear au; clear ax; clear aB; clear aa; clear ad; clear HB; have ac := ai; have ag := ak; have au := ap; have ax := ao; have aB := aw; have aJ := aA; have aa := az; have ad := aC; have HB := aE; clear ai ak ap ao aw aA az aC aE; clear hb ho31; obtain ⟨eH, eI, b4⟩ := Kd.R_slice au.out; subst b4; obtain ⟨eJ, eK, b5⟩ := Kd.R_slice aJ.out; subst b5) | (go_at_call 18; (with_reducible refine (attestorref07_Equal.calls k _ _ aI _ _ bg true _ ?side1 ?side2 ?side3 ?side4 A9.out).mono ?_); (case side1 => exact (Kd.R_reads' au.out).2.2); (case side2 => exact (Kd.R_reads' au.out).2.1); (case side3 => exact (Kd.R_reads' aJ.out).2.2); (case side4 => exact (Kd.R_reads' aJ.out).2.1); rintro e w' ⟨rfl, ⟨nd, rfl⟩⟩) | ((with_reducible refine gate_dst (N := 44) rfl ?_); (try (refine gate_guard (by rfl) ?_; dsimp only)); refine Kd.R_lit k36 _ 36 ?hg (N := 44) ?hd (xs := ([(⟨19, 58⟩ : S36)] : List (S36))) (inner := [.int .u64 19, .int .u64 58]) (ok := fun _ => True) (okp := fun _ => True) ?hr ?hp (fun _ hk => hk) trivial (Below.refl _ _) (Nat.le_refl _) (by simp) ?_; (case hd => rfl); (case hg => rfl); (case hr => first | (go_simp; done) | (go_simp; rfl)); (case hp => exact (Reps.c2 (show Kd.M k36 _ _ _ (⟨19, 58⟩ : S36) [.int .u64 19, .int .u64 58] from (k36_mkM _ _ _ (⟨19, 58⟩ : S36) )) (Reps.none _ _))); intro eL bT ho35 hb hg_ hnew_; clear hg_ hnew_; (first | rw [← bh.out] at ho35 | (simp only [Int.reduceToNat] at ho35; rw [← bh.out] at ho35)); have ai := aj (Kd.R_elder' (by (with_reducible repeat (first | apply Kd.R_alloc | apply Kd.R_drewN | apply Kd.R_drew)); exact ac.out) (Kd.R_base ho35) hb); have ak := aj (Kd.S_elder' (by (with_reducible repeat (first | apply Kd.S_alloc | apply Kd.S_drewN | apply Kd.S_drew)); exact ag.out) (Kd.R_base ho35) hb); have ap := aj (Kd.R_elder' (by (with_reducible repeat (first | apply Kd.R_alloc | apply Kd.R_drewN | apply Kd.R_drew)); exact au.out) (Kd.R_base ho35) hb); have ao := aj (Kd.R_elder' (by (with_reducible repeat (first | apply Kd.R_alloc | apply Kd.R_drewN | apply Kd.R_drew)); exact ax.out) (Kd.R_base ho35) hb); have aw := aj (Kd.R_elder' (by (with_reducible repeat (first | apply Kd.R_alloc | apply Kd.R_drewN | apply Kd.R_drew)); exact aB.out) (Kd.R_base ho35) hb); have aA := aj (Kd.R_elder' (by (with_reducible repeat (first | apply Kd.R_alloc | apply Kd.R_drewN | apply Kd.R_drew)); exact aJ.out) (Kd.R_base ho35) hb); have az := aj (Kd.R_lower (Kd.R_newB (Kd.R_new' (Kd.R_new' (Kd.R_new' (Kd.R_new' (Kd.R_new' ho35 (Kd.R_lt (by (with_reducible repeat (first | apply Kd.R_alloc | apply Kd.R_drewN | apply Kd.R_drew)); exact ac.out))) (Kd.R_lt (by (with_reducible repeat (first | apply Kd.R_alloc | apply Kd.R_drewN | apply Kd.R_drew)); exact au.out))) (Kd.R_lt (by (with_reducible repeat (first | apply Kd.R_alloc | apply Kd.R_drewN | apply Kd.R_drew)); exact ax.out))) (Kd.R_lt (by (with_reducible repeat (first | apply Kd.R_alloc | apply Kd.R_drewN | apply Kd.R_drew)); exact aB.out))) (Kd.R_lt (by (with_reducible repeat (first | apply Kd.R_alloc | apply Kd.R_drewN | apply Kd.R_drew)); exact aJ.out))) (g := af) (o := .cells #[.int .u64 0, .int .u64 0] 36 (0, 0)) (by exact aa.out)) (below_size (by repeat (first | (with_reducible first | exact HB.out | apply below_alloc | apply pw_below_drewN | apply below_drew1 | refine below_set ?_ ah.out | refine below_set ?_ av.out) | exact HB.out)))); have aC := aj (blk_below (g := af) (o := .cells #[.int .u64 0, .int .u64 0] 36 (0, 0)) (by exact aa.out) hb); have aE := aj (blk_below (g := ab) (o := .cells #[.int .i64 am, .int .i64 al, .int .i64 aq, .slice aR ar.length aP] 26 (0, 0)) (by exact ad.out) hb); have bf := aj (below_step (by repeat (first | (with_reducible first | exact HB.out | apply below_alloc | apply pw_below_drewN | apply below_drew1 | refine below_set ?_ ah.out | refine below_set ?_ av.out) | exact HB.out)) hb); clear ac; clear ag; clear au; clear ax; clear aB; clear aJ; clear aa; clear ad; clear HB; have ac := ai; have ag := ak; have au := ap; have ax := ao; have aB := aw; have aJ := aA; have a0 := az; have aa := aC; have ad := aE; have HB := bf; clear ai ak ap ao aw aA az aC aE bf; clear hb ho35; have cX : bT.cell? ⟨af, 0, none⟩ = some (.int .u64 0) := bq_ aa 0; have cY : bT.cell? ⟨af, 1, none⟩ = some (.int .u64 0) := bq_ aa 1; have cZ := blk_frozen aa.out 0; have c0 := blk_frozen aa.out 1; obtain ⟨eM, eN, b6⟩ := Kd.R_slice a0.out; subst b6) | (go_at_call 26; (with_reducible refine (tree_Check.calls 0 _ _ bu 1 0 0 _ _ aI aF _ ?side1 ?side2 ?side3 ?side4 ?side5 eo.out).mono ?_); (case side1 => exact (Kd.R_reads' a0.out).2.2); (case side2 => exact (Kd.R_reads' a0.out).2.1); (case side3 => exact (Kd.R_reads' au.out).2.2); (case side4 => exact (Kd.R_reads' au.out).2.1); (case side5 => repeat (first | exact (GL.below HRG.out HB.out) | (with_reducible refine GL.alloc ?_ _) | (with_reducible refine GL.drewN ?_ _) | (with_reducible refine GL.drew ?_))); rintro e e8 ⟨rfl, hb⟩; have ai := aj (Kd.R_below (by (with_reducible repeat (first | apply Kd.R_alloc | apply Kd.R_drewN | apply Kd.R_drew)); exact ac.out) hb); have ak := aj (Kd.S_below (by (with_reducible repeat (first | apply Kd.S_alloc | apply Kd.S_drewN | apply Kd.S_drew)); exact ag.out) hb); have ap := aj (Kd.R_below (by (with_reducible repeat (first | apply Kd.R_alloc | apply Kd.R_drewN | apply Kd.R_drew)); exact au.out) hb); have ao := aj (Kd.R_below (by (with_reducible repeat (first | apply Kd.R_alloc | apply Kd.R_drewN | apply Kd.R_drew)); exact ax.out) hb); have aw := aj (Kd.R_below (by (with_reducible repeat (first | apply Kd.R_alloc | apply Kd.R_drewN | apply Kd.R_drew)); exact aB.out) hb); have aA := aj (Kd.R_below (by (with_reducible repeat (first | apply Kd.R_alloc | apply Kd.R_drewN | apply Kd.R_drew)); exact aJ.out) hb); have az := aj (Kd.R_below (by (with_reducible repeat (first | apply Kd.R_alloc | apply Kd.R_drewN | apply Kd.R_drew)); exact a0.out) hb); have aC := aj (blk_below (g := af) (o := .cells #[.int .u64 0, .int .u64 0] 36 (0, 0)) (by exact aa.out) hb); have aE := aj (blk_below (g := ab) (o := .cells #[.int .i64 am, .int .i64 al, .int .i64 aq, .slice aR ar.length aP] 26 (0, 0)) (by exact ad.out) hb); have bf := aj (below_step (by repeat (first | (with_reducible first | exact HB.out | apply below_alloc | apply pw_below_drewN | apply below_drew1 | refine below_set ?_ ah.out | refine below_set ?_ av.out) | exact HB.out)) hb); clear ac; clear ag; clear au; clear ax; clear aB; clear aJ; clear a0; clear aa; clear ad; clear HB; have ac := ai; have ag := ak; have au := ap; have ax := ao; have aB := aw; have aJ := aA; have a0 := az; have aa := aC; have ad := aE; have HB := bf; clear ai ak ap ao aw aA az aC aE bf; (try clear hb); (try clear hb2); (try clear hk); (try clear hi)))
      go_ret
      exact ⟨by first | rfl | (simp [errW_none, errW_some] <;> rfl) | (simp [*, errW_none, errW_some] <;> rfl), HB.out⟩
     ·replace c10 := Bool.eq_false_iff.mpr c10
      subst c10
      have H1 : (some false) = some r := by rw [if_neg (show ¬ (false = true) by decide)] at H; exact H
      clear H
      have H := H1
      clear H1
      obtain rfl := Option.some.inj H
      go_enter Tryd.func21, Tryd.ntmps21
      go_wp2_with (first | ((with_reducible refine gate_dst (N := 1) rfl ?_); (try (refine gate_guard (by rfl) ?_; dsimp only)); refine box_event ?hg (N := 1) ?hd (cs := #[.int .u64 0, .int .u64 0]) (t := 36) ?hr ?_; (case hd => rfl); (case hg => rfl); (case hr => first | (go_simp; done) | (go_simp; rfl)); intro af hg bU hbox hb; have ai := aj (below_step (by repeat (first | (with_reducible first | exact HB.out | apply below_alloc | apply pw_below_drewN | apply below_drew1) | exact HB.out)) hb); have ak := aj (hbox); have ao := aj ((by rw [hg]; exact (below_size (by repeat (first | (with_reducible first | exact HB.out | apply below_alloc | apply pw_below_drewN | apply below_drew1) | exact HB.out))) : w.heap.size ≤ af)); clear HB; have HB := ai; have aa := ak; have ah := ao; clear ai ak ao; clear hb hbox hg; have c1 : bU.cell? ⟨af, 0, none⟩ = some (.int .u64 0) := bq_ aa 0; have da : bU.cell? ⟨af, 1, none⟩ = some (.int .u64 0) := bq_ aa 1; have db := blk_frozen aa.out 0; have dc := blk_frozen aa.out 1) | ((with_reducible refine gate_dst (N := 9) rfl ?_); (try (refine gate_guard (by rfl) ?_; dsimp only)); refine Kd.R_lit k36 _ 36 ?hg (N := 9) ?hd (xs := ([(⟨0, 0⟩ : S36), (⟨0, 0⟩ : S36)] : List (S36))) (inner := [.int .u64 0, .int .u64 0, .int .u64 0, .int .u64 0]) (ok := fun _ => True) (okp := fun _ => True) ?hr ?hp (fun _ hk => hk) trivial (Below.refl _ _) (Nat.le_refl _) (by simp) ?_; (case hd => rfl); (case hg => rfl); (case hr => first | (go_simp; done) | (go_simp; rfl)); (case hp => exact (Reps.c2 (show Kd.M k36 _ _ _ (⟨0, 0⟩ : S36) [.int .u64 0, .int .u64 0] from (k36_mkM _ _ _ (⟨0, 0⟩ : S36) )) (Reps.c2 (show Kd.M k36 _ _ _ (⟨0, 0⟩ : S36) [.int .u64 0, .int .u64 0] from (k36_mkM _ _ _ (⟨0, 0⟩ : S36) )) (Reps.none _ _)))); intro ba e9 ho42 hb hg_ hnew_; clear hg_ hnew_; (first | rw [← aM.out] at ho42 | (simp only [Int.reduceToNat] at ho42; rw [← aM.out] at ho42)); have ai := aj (Kd.R_lower (Kd.R_newB ho42 (g := af) (o := .cells #[.int .u64 0, .int .u64 0] 36 (0, 0)) (by exact aa.out)) (below_size (by repeat (first | (with_reducible first | exact HB.out | apply below_alloc | apply pw_below_drewN | apply below_drew1 | refine below_set ?_ ah.out) | exact HB.out)))); have ak := aj (blk_below (g := af) (o := .cells #[.int .u64 0, .int .u64 0] 36 (0, 0)) (by exact aa.out) hb); have ap := aj (below_step (by repeat (first | (with_reducible first | exact HB.out | apply below_alloc | apply pw_below_drewN | apply below_drew1 | refine below_set ?_ ah.out) | exact HB.out)) hb); clear aa; clear HB; have ac := ai; have aa := ak; have HB := ap; clear ai ak ap; clear hb ho42; obtain ⟨bB, bC, b7⟩ := Kd.R_slice ac.out; subst b7) | ((with_reducible refine gate_callee (f := 13) rfl ?_); refine goesL_ (some 10) rfl rfl Tryd.func13 (by kernel_rfl) rfl #[.int .i64 0, .slice bB aH.length bC, .int .i64 0] rfl (by (try simp only [List.map_toArray, List.map_cons, List.map_nil]); first | done | rfl | (go_simp; done)) ?_; (with_reducible refine (tree_Build.calls k 0 _ _ aH 0 am al aq ar aO _ ?side1 ?side2 ?side3 A1.out).mono ?_); (case side1 => exact (Kd.R_reads' ac.out).2.2); (case side2 => exact (Kd.R_reads' ac.out).2.1); (case side3 => repeat (first | exact (GL.below HRG.out HB.out) | (with_reducible refine GL.alloc ?_ _) | (with_reducible refine GL.drewN ?_ _) | (with_reducible refine GL.drew ?_))); rintro e fa ⟨bb, rfl, ho0, hb⟩; refine ⟨_, rfl, ?_⟩; have ai := aj (Kd.R_below (by (with_reducible repeat (first | apply Kd.R_alloc | apply Kd.R_drewN | apply Kd.R_drew)); exact ac.out) hb); have ak := aj (Kd.S_lower (Kd.S_newB (Kd.S_new' ho0 (Kd.R_lt (by (with_reducible repeat (first | apply Kd.R_alloc | apply Kd.R_drewN | apply Kd.R_drew)); exact ac.out))) (g := af) (o := .cells #[.int .u64 0, .int .u64 0] 36 (0, 0)) (by exact aa.out)) (below_size (by repeat (first | (with_reducible first | exact HB.out | apply below_alloc | apply pw_below_drewN | apply below_drew1 | refine below_set ?_ ah.out) | exact HB.out)))); have ap := aj (blk_below (g := af) (o := .cells #[.int .u64 0, .int .u64 0] 36 (0, 0)) (by exact aa.out) hb); have ao := aj (below_step (by repeat (first | (with_reducible first | exact HB.out | apply below_alloc | apply pw_below_drewN | apply below_drew1 | refine below_set ?_ ah.out) | exact HB.out)) hb); clear ac; clear aa; clear HB; have ac := ai; have ag := ak; have aa := ap; have HB := ao; clear ai ak ap ao; (try clear hb); (try clear hb2); (try clear hk); (try clear hi); (try clear ho0)) | ((with_reducible refine gate_dst (N := 2) rfl ?_); (try (refine gate_guard (by rfl) ?_; dsimp only)); refine box_event ?hg (N := 2) ?hd (cs := #[.int .i64 0, .int .i64 0, .int .i64 0, .slice none 0 0]) (t := 26) ?hr ?_; (case hd => rfl); (case hg => rfl); (case hr => first | (go_simp; done) | (go_simp; rfl)); intro ab hg bk hbox hb; have ai := aj (Kd.R_below (by (with_reducible repeat (first | apply Kd.R_alloc | apply Kd.R_drewN | apply Kd.R_drew)); exact ac.out) hb); have ak := aj (Kd.S_below (by (with_reducible repeat (first | apply Kd.S_alloc | apply Kd.S_drewN | apply Kd.S_drew)); exact ag.out) hb); have ap := aj (blk_below (g := af) (o := .cells #[.int .u64 0, .int .u64 0] 36 (0, 0)) (by exact aa.out) hb); have ao := aj (below_step (by repeat (first | (with_reducible first | exact HB.out | apply below_alloc | apply pw_below_drewN | apply below_drew1 | refine below_set ?_ ah.out) | exact HB.out)) hb); have aw := aj (hbox); have az := aj ((by rw [hg]; exact (below_size (by repeat (first | (with_reducible first | exact HB.out | apply below_alloc | apply pw_below_drewN | apply below_drew1 | refine below_set ?_ ah.out) | exact HB.out))) : w.heap.size ≤ ab)); have aC := aj ((by rw [hg]; exact Nat.ne_of_lt (blk_lt (g := af) (o := .cells #[.int .u64 0, .int .u64 0] 36 (0, 0)) (by exact aa.out)) : af ≠ ab)); have aE := aj ((by rw [hg]; exact Nat.ne_of_gt (blk_lt (g := af) (o := .cells #[.int .u64 0, .int .u64 0] 36 (0, 0)) (by exact aa.out)) : ab ≠ af)); clear ac; clear ag; clear aa; clear HB; have ac := ai; have ag := ak; have aa := ap; have HB := ao; have ad := aw; have av := az; have ae := aC; have aD := aE; clear ai ak ap ao aw az aC aE; clear hb hbox hg; have eu := aD.out; have ev := ae.out; have dd : bk.cell? ⟨ab, 0, none⟩ = some (.int .i64 0) := bq_ ad 0; have de : bk.cell? ⟨ab, 1, none⟩ = some (.int .i64 0) := bq_ ad 1; have df : bk.cell? ⟨ab, 2, none⟩ = some (.int .i64 0) := bq_ ad 2; have dg : bk.cell? ⟨ab, 3, none⟩ = some (.slice none 0 0) := bq_ ad 3; have dh := blk_frozen ad.out 0; have di := blk_frozen ad.out 1; have dj := blk_frozen ad.out 2; have dk := blk_frozen ad.out 3; obtain ⟨aU, aT, b8⟩ := Kd.S_slice ag.out; subst b8) | ((with_reducible refine gate_callee (f := 23) rfl ?_); refine goesL_ (some 15) rfl rfl Tryd.func23 (by kernel_rfl) rfl #[.agg #[.int .i64 am, .int .i64 al, .int .i64 aq, .slice aU ar.length aT], .int .i64 1] rfl (by (try simp only [List.map_toArray, List.map_cons, List.map_nil]); first | done | rfl | (go_simp; done)) ?_; (with_reducible refine (tree_Path.calls k am al aq _ _ ar 1 aI aQ _ ?side1 ?side2 ?side3 A2.out).mono ?_); (case side1 => refine (Kd.S_reads' (e := 22) (base := w.heap.size) (ok := fun k_ => ((True ∧ some k_ ≠ (.slice bB aH.length bC : Value).ownBlock) ∧ k_ ≠ af)) (n := ar.length) (c := aT) ?_).2.2; exact (by (with_reducible repeat (first | apply Kd.S_alloc | apply Kd.S_drewN | apply Kd.S_drew)); exact (Kd.S_mono (Kd.S_far (p := ⟨ab, 3, none⟩) (Kd.S_far (p := ⟨ab, 2, none⟩) (Kd.S_far (p := ⟨ab, 1, none⟩) (Kd.S_far (p := ⟨ab, 0, none⟩) (Kd.S_types ag.out ad.out (by decide)) (fun _ hk => hk.2) (.int .i64 am)) (fun _ hk => hk.2) (.int .i64 al)) (fun _ hk => hk.2) (.int .i64 aq)) (fun _ hk => hk.2) (.slice aU ar.length aT)) (fun _ h_ => h_.1)))); (case side2 => exact (Kd.S_reads' ag.out).2.1); (case side3 => exact GL.below HRG.out (by repeat (first | (with_reducible first | exact HB.out | apply below_alloc | apply pw_below_drewN | apply below_drew1 | refine below_set ?_ ah.out | refine below_set ?_ av.out) | exact HB.out))); rintro e bl ⟨bc, rfl, ho0, hb⟩; refine ⟨_, rfl, ?_⟩; have ai := aj (Kd.R_elder' (by (with_reducible repeat (first | apply Kd.R_alloc | apply Kd.R_drewN | apply Kd.R_drew)); exact (Kd.R_mono (Kd.R_far (p := ⟨ab, 3, none⟩) (Kd.R_far (p := ⟨ab, 2, none⟩) (Kd.R_far (p := ⟨ab, 1, none⟩) (Kd.R_far (p := ⟨ab, 0, none⟩) (Kd.R_types ac.out ad.out (by decide)) (fun _ hk => hk.2) (.int .i64 am)) (fun _ hk => hk.2) (.int .i64 al)) (fun _ hk => hk.2) (.int .i64 aq)) (fun _ hk => hk.2) (.slice aU ar.length aT)) (fun _ h_ => h_.1))) (Kd.R_base ho0) hb); have ak := aj (Kd.S_elder' (by (with_reducible repeat (first | apply Kd.S_alloc | apply Kd.S_drewN | apply Kd.S_drew)); exact (Kd.S_mono (Kd.S_far (p := ⟨ab, 3, none⟩) (Kd.S_far (p := ⟨ab, 2, none⟩) (Kd.S_far (p := ⟨ab, 1, none⟩) (Kd.S_far (p := ⟨ab, 0, none⟩) (Kd.S_types ag.out ad.out (by decide)) (fun _ hk => hk.2) (.int .i64 am)) (fun _ hk => hk.2) (.int .i64 al)) (fun _ hk => hk.2) (.int .i64 aq)) (fun _ hk => hk.2) (.slice aU ar.length aT)) (fun _ h_ => h_.1))) (Kd.R_base ho0) hb); have ap := aj (Kd.R_lower (Kd.R_newB (Kd.R_new' ho0 (Kd.R_lt (by (with_reducible repeat (first | apply Kd.R_alloc | apply Kd.R_drewN | apply Kd.R_drew)); exact (Kd.R_mono (Kd.R_far (p := ⟨ab, 3, none⟩) (Kd.R_far (p := ⟨ab, 2, none⟩) (Kd.R_far (p := ⟨ab, 1, none⟩) (Kd.R_far (p := ⟨ab, 0, none⟩) (Kd.R_types ac.out ad.out (by decide)) (fun _ hk => hk.2) (.int .i64 am)) (fun _ hk => hk.2) (.int .i64 al)) (fun _ hk => hk.2) (.int .i64 aq)) (fun _ hk => hk.2) (.slice aU ar.length aT)) (fun _ h_ => h_.1))))) (g := af) (o := .cells #[.int .u64 0, .int .u64 0] 36 (0, 0)) (by refine blk_far ?_ ae.out _; refine blk_far ?_ ae.out _; refine blk_far ?_ ae.out _; refine blk_far ?_ ae.out _; exact aa.out)) (below_size (by repeat (first | (with_reducible first | exact HB.out | apply below_alloc | apply pw_below_drewN | apply below_drew1 | refine below_set ?_ ah.out | refine below_set ?_ av.out) | exact HB.out)))); have ao := aj (blk_below (g := af) (o := .cells #[.int .u64 0, .int .u64 0] 36 (0, 0)) (by refine blk_far ?_ ae.out _; refine blk_far ?_ ae.out _; refine blk_far ?_ ae.out _; refine blk_far ?_ ae.out _; exact aa.out) hb); have aw := aj (blk_below (g := ab) (o := .cells #[.int .i64 am, .int .i64 al, .int .i64 aq, .slice aU ar.length aT] 26 (0, 0)) (by refine blk_put (cs := #[.int .i64 am, .int .i64 al, .int .i64 aq, .slice none 0 0]) ?_ 3 _ rfl; refine blk_put (cs := #[.int .i64 am, .int .i64 al, .int .i64 0, .slice none 0 0]) ?_ 2 _ rfl; refine blk_put (cs := #[.int .i64 am, .int .i64 0, .int .i64 0, .slice none 0 0]) ?_ 1 _ rfl; refine blk_put (cs := #[.int .i64 0, .int .i64 0, .int .i64 0, .slice none 0 0]) ?_ 0 _ rfl; exact ad.out) hb); have aA := aj (below_step (by repeat (first | (with_reducible first | exact HB.out | apply below_alloc | apply pw_below_drewN | apply below_drew1 | refine below_set ?_ ah.out | refine below_set ?_ av.out) | exact HB.out)) hb); clear ac; clear ag; clear aa; clear ad; clear HB; have ac := ai; have ag := ak; have au := ap; have aa := ao; have ad := aw; have HB := aA; clear ai ak ap ao aw aA; (try clear hb); (try clear hb2); (try clear hk); (try clear hi); (try clear ho0); have dl : bl.cell? ⟨ab, 0, none⟩ = some (.int .i64 am) := bq_ ad 0; have dm : bl.cell? ⟨ab, 1, none⟩ = some (.int .i64 al) := bq_ ad 1; have dn : bl.cell? ⟨ab, 2, none⟩ = some (.int .i64 aq) := bq_ ad 2; have dp : bl.cell? ⟨ab, 3, none⟩ = some (.slice aU ar.length aT) := bq_ ad 3; have dq := blk_frozen ad.out 0; have dr := blk_frozen ad.out 1; have ds := blk_frozen ad.out 2; have dt := blk_frozen ad.out 3) | (go_at_call 19; (with_reducible refine (tree_Cap.calls k am al aq _ _ ar aK _ ?side1 ?side2 ?side3 A6.out).mono ?_); (case side1 => exact (Kd.S_reads' ag.out).2.2); (case side2 => exact (Kd.S_reads' ag.out).2.1); (case side3 => repeat (first | exact (GL.below HRG.out HB.out) | (with_reducible refine GL.alloc ?_ _) | (with_reducible refine GL.drewN ?_ _) | (with_reducible refine GL.drew ?_))); rintro e fb ⟨bz, rfl, ho0, hb⟩; have ai := aj (Kd.R_elder' (by (with_reducible repeat (first | apply Kd.R_alloc | apply Kd.R_drewN | apply Kd.R_drew)); exact ac.out) (Kd.R_base ho0) hb); have ak := aj (Kd.S_elder' (by (with_reducible repeat (first | apply Kd.S_alloc | apply Kd.S_drewN | apply Kd.S_drew)); exact ag.out) (Kd.R_base ho0) hb); have ap := aj (Kd.R_elder' (by (with_reducible repeat (first | apply Kd.R_alloc | apply Kd.R_drewN | apply Kd.R_drew)); exact au.out) (Kd.R_base ho0) hb); have ao := aj (Kd.R_lower (Kd.R_newB (Kd.R_new' (Kd.R_new' ho0 (Kd.R_lt (by (with_reducible repeat (first | apply Kd.R_alloc | apply Kd.R_drewN | apply Kd.R_drew)); exact ac.out))) (Kd.R_lt (by (with_reducible repeat (first | apply Kd.R_alloc | apply Kd.R_drewN | apply Kd.R_drew)); exact au.out))) (g := af) (o := .cells #[.int .u64 0, .int .u64 0] 36 (0, 0)) (by exact aa.out)) (below_size (by repeat (first | (with_reducible first | exact HB.out | apply below_alloc | apply pw_below_drewN | apply below_drew1 | refine below_set ?_ ah.out | refine below_set ?_ av.out) | exact HB.out)))); have aw := aj (blk_below (g := af) (o := .cells #[.int .u64 0, .int .u64 0] 36 (0, 0)) (by exact aa.out) hb); have aA := aj (blk_below (g := ab) (o := .cells #[.int .i64 am, .int .i64 al, .int .i64 aq, .slice aU ar.length aT] 26 (0, 0)) (by exact ad.out) hb); have az := aj (below_step (by repeat (first | (with_reducible first | exact HB.out | apply below_alloc | apply pw_below_drewN | apply below_drew1 | refine below_set ?_ ah.out | refine below_set ?_ av.out) | exact HB.out)) hb); clear ac; clear ag; clear au; clear aa; clear ad; clear HB; have ac := ai; have ag := ak; have au := ap; have ax := ao; have aa := aw; have ad := aA; have HB := az; clear ai ak ap ao aw aA az; (try clear hb); (try clear hb2); (try clear hk); (try clear hi); (try clear ho0)) | ((with_reducible refine gate_dst (N := 33) rfl ?_); (try (refine gate_guard (by rfl) ?_; dsimp only)); refine Kd.R_lit k36 _ 36 ?hg (N := 33) ?hd (xs := ([(⟨19, 58⟩ : S36)] : List (S36))) (inner := [.int .u64 19, .int .u64 58]) (ok := fun _ => True) (okp := fun _ => True) ?hr ?hp (fun _ hk => hk) trivial (Below.refl _ _) (Nat.le_refl _) (by simp) ?_; (case hd => rfl); (case hg => rfl); (case hr => first | (go_simp; done) | (go_simp; rfl)); (case hp => exact (Reps.c2 (show Kd.M k36 _ _ _ (⟨19, 58⟩ : S36) [.int .u64 19, .int .u64 58] from (k36_mkM _ _ _ (⟨19, 58⟩ : S36) )) (Reps.none _ _))); intro bA bV ho53 hb hg_ hnew_; clear hg_ hnew_; (first | rw [← aZ.out] at ho53 | (simp only [Int.reduceToNat] at ho53; rw [← aZ.out] at ho53)); have ai := aj (Kd.R_elder' (by (with_reducible repeat (first | apply Kd.R_alloc | apply Kd.R_drewN | apply Kd.R_drew)); exact ac.out) (Kd.R_base ho53) hb); have ak := aj (Kd.S_elder' (by (with_reducible repeat (first | apply Kd.S_alloc | apply Kd.S_drewN | apply Kd.S_drew)); exact ag.out) (Kd.R_base ho53) hb); have ap := aj (Kd.R_elder' (by (with_reducible repeat (first | apply Kd.R_alloc | apply Kd.R_drewN | apply Kd.R_drew)); exact au.out) (Kd.R_base ho53) hb); have ao := aj (Kd.R_elder' (by (with_reducible repeat (first | apply Kd.R_alloc | apply Kd.R_drewN | apply Kd.R_drew)); exact ax.out) (Kd.R_base ho53) hb); have aw := aj (Kd.R_lower (Kd.R_newB (Kd.R_new' (Kd.R_new' (Kd.R_new' ho53 (Kd.R_lt (by (with_reducible repeat (first | apply Kd.R_alloc | apply Kd.R_drewN | apply Kd.R_drew)); exact ac.out))) (Kd.R_lt (by (with_reducible repeat (first | apply Kd.R_alloc | apply Kd.R_drewN | apply Kd.R_drew)); exact au.out))) (Kd.R_lt (by (with_reducible repeat (first | apply Kd.R_alloc | apply Kd.R_drewN | apply Kd.R_drew)); exact ax.out))) (g := af) (o := .cells #[.int .u64 0, .int .u64 0] 36 (0, 0)) (by exact aa.out)) (below_size (by repeat (first | (with_reducible first | exact HB.out | apply below_alloc | apply pw_below_drewN | apply below_drew1 | refine below_set ?_ ah.out | refine below_set ?_ av.out) | exact HB.out)))); have aA := aj (blk_below (g := af) (o := .cells #[.int .u64 0, .int .u64 0] 36 (0, 0)) (by exact aa.out) hb); have az := aj (blk_below (g := ab) (o := .cells #[.int .i64 am, .int .i64 al, .int .i64 aq, .slice aU ar.length aT] 26 (0, 0)) (by exact ad.out) hb); have aC := aj (below_step (by repeat (first | (with_reducible first | exact HB.out | apply below_alloc | apply pw_below_drewN | apply below_drew1 | refine below_set ?_ ah.out | refine below_set ?_ av.out) | exact HB.out)) hb); clear ac; clear ag; clear au; clear ax; clear aa; clear ad; clear HB; have ac := ai; have ag := ak; have au := ap; have ax := ao; have aB := aw; have aa := aA; have ad := az; have HB := aC; clear ai ak ap ao aw aA az aC; clear hb ho53; obtain ⟨eO, eP, b9⟩ := Kd.R_slice ax.out; subst b9; obtain ⟨eQ, eR, ca⟩ := Kd.R_slice aB.out; subst ca) | (go_at_call 18; (with_reducible refine (attestorref07_Equal.calls k _ _ aK _ _ bd true _ ?side1 ?side2 ?side3 ?side4 A7.out).mono ?_); (case side1 => exact (Kd.R_reads' ax.out).2.2); (case side2 => exact (Kd.R_reads' ax.out).2.1); (case side3 => exact (Kd.R_reads' aB.out).2.2); (case side4 => exact (Kd.R_reads' aB.out).2.1); rintro e w' ⟨rfl, ⟨nd, rfl⟩⟩; have du : bV.cell? ⟨af, 0, none⟩ = some (.int .u64 0) := bq_ aa 0; have dv : bV.cell? ⟨af, 1, none⟩ = some (.int .u64 0) := bq_ aa 1; have dw := blk_frozen aa.out 0; have dx := blk_frozen aa.out 1) | ((with_reducible refine gate_dst (N := 39) rfl ?_); (try (refine gate_guard (by rfl) ?_; dsimp only)); refine Kd.R_lit k36 _ 36 ?hg (N := 39) ?hd (xs := ([(⟨0, 0⟩ : S36)] : List (S36))) (inner := [.int .u64 0, .int .u64 0]) (ok := fun _ => True) (okp := fun _ => True) ?hr ?hp (fun _ hk => hk) trivial (Below.refl _ _) (Nat.le_refl _) (by simp) ?_; (case hd => rfl); (case hg => rfl); (case hr => first | (go_simp; done) | (go_simp; rfl)); (case hp => exact (Reps.c2 (show Kd.M k36 _ _ _ (⟨0, 0⟩ : S36) [.int .u64 0, .int .u64 0] from (k36_mkM _ _ _ (⟨0, 0⟩ : S36) )) (Reps.none _ _))); intro b3 fc ho58 hb hg_ hnew_; clear hg_ hnew_; (first | rw [← a9.out] at ho58 | (simp only [Int.reduceToNat] at ho58; rw [← a9.out] at ho58)); have ai := aj (Kd.R_elder' (by (with_reducible repeat (first | apply Kd.R_alloc | apply Kd.R_drewN | apply Kd.R_drew)); exact ac.out) (Kd.R_base ho58) hb); have ak := aj (Kd.S_elder' (by (with_reducible repeat (first | apply Kd.S_alloc | apply Kd.S_drewN | apply Kd.S_drew)); exact ag.out) (Kd.R_base ho58) hb); have ap := aj (Kd.R_elder' (by (with_reducible repeat (first | apply Kd.R_alloc | apply Kd.R_drewN | apply Kd.R_drew)); exact au.out) (Kd.R_base ho58) hb); have ao := aj (Kd.R_elder' (by (with_reducible repeat (first | apply Kd.R_alloc | apply Kd.R_drewN | apply Kd.R_drew)); exact ax.out) (Kd.R_base ho58) hb); have aw := aj (Kd.R_elder' (by (with_reducible repeat (first | apply Kd.R_alloc | apply Kd.R_drewN | apply Kd.R_drew)); exact aB.out) (Kd.R_base ho58) hb); have aA := aj (Kd.R_lower (Kd.R_newB (Kd.R_new' (Kd.R_new' (Kd.R_new' (Kd.R_new' ho58 (Kd.R_lt (by (with_reducible repeat (first | apply Kd.R_alloc | apply Kd.R_drewN | apply Kd.R_drew)); exact ac.out))) (Kd.R_lt (by (with_reducible repeat (first | apply Kd.R_alloc | apply Kd.R_drewN | apply Kd.R_drew)); exact au.out))) (Kd.R_lt (by (with_reducible repeat (first | apply Kd.R_alloc | apply Kd.R_drewN | apply Kd.R_drew)); exact ax.out))) (Kd.R_lt (by (with_reducible repeat (first | apply Kd.R_alloc | apply Kd.R_drewN | apply Kd.R_drew)); exact aB.out))) (g := af) (o := .cells #[.int .u64 0, .int .u64 0] 36 (0, 0)) (by exact aa.out)) (below_size (by repeat (first | (with_reducible first | exact HB.out | apply below_alloc | apply pw_below_drewN | apply below_drew1 | refine below_set ?_ ah.out | refine below_set ?_ av.out) | exact HB.out)))); have az := aj (blk_below (g := af) (o := .cells #[.int .u64 0, .int .u64 0] 36 (0, 0)) (by exact aa.out) hb); have aC := aj (blk_below (g := ab) (o := .cells #[.int .i64 am, .int .i64 al, .int .i64 aq, .slice aU ar.length aT] 26 (0, 0)) (by exact ad.out) hb); have aE := aj (below_step (by repeat (first | (with_reducible first | exact HB.out | apply below_alloc | apply pw_below_drewN | apply below_drew1 | refine below_set ?_ ah.out | refine below_set ?_ av.out) | exact HB.out)) hb); clear ac; clear ag; clear au; clear ax; clear aB; clear aa; clear ad; clear HB; have ac := ai; have ag := ak; have au := ap; have ax := ao; have aB := aw; have aJ := aA; have aa := az; have ad := aC; have HB := aE; clear ai ak ap ao aw aA az aC aE; clear hb ho58; obtain ⟨eS, eT, cb⟩ := Kd.R_slice au.out; subst cb; obtain ⟨eU, eV, cc⟩ := Kd.R_slice aJ.out; subst cc) | (go_at_call 18; (with_reducible refine (attestorref07_Equal.calls k _ _ aI _ _ bg false _ ?side1 ?side2 ?side3 ?side4 A9.out).mono ?_); (case side1 => exact (Kd.R_reads' au.out).2.2); (case side2 => exact (Kd.R_reads' au.out).2.1); (case side3 => exact (Kd.R_reads' aJ.out).2.2); (case side4 => exact (Kd.R_reads' aJ.out).2.1); rintro e w' ⟨rfl, ⟨nd, rfl⟩⟩))
      go_ret
      exact ⟨by first | rfl | (simp [errW_none, errW_some] <;> rfl) | (simp [*, errW_none, errW_some] <;> rfl), (by first | exact HB.out | exact below_drew1 HB.out | exact pw_below_drewN HB.out _)⟩
    ·replace c8 := Bool.eq_false_iff.mpr c8
     subst c8
     have H1 : (some false) = some r := by rw [if_neg (show ¬ (false = true) by decide)] at H; exact H
     clear H
     have H := H1
     clear H1
     obtain rfl := Option.some.inj H
     go_enter Tryd.func21, Tryd.ntmps21
     go_wp2_with (first | ((with_reducible refine gate_dst (N := 1) rfl ?_); (try (refine gate_guard (by rfl) ?_; dsimp only)); refine box_event ?hg (N := 1) ?hd (cs := #[.int .u64 0, .int .u64 0]) (t := 36) ?hr ?_; (case hd => rfl); (case hg => rfl); (case hr => first | (go_simp; done) | (go_simp; rfl)); intro af hg bW hbox hb; have ai := aj (below_step (by repeat (first | (with_reducible first | exact HB.out | apply below_alloc | apply pw_below_drewN | apply below_drew1) | exact HB.out)) hb); have ak := aj (hbox); have ao := aj ((by rw [hg]; exact (below_size (by repeat (first | (with_reducible first | exact HB.out | apply below_alloc | apply pw_below_drewN | apply below_drew1) | exact HB.out))) : w.heap.size ≤ af)); clear HB; have HB := ai; have aa := ak; have ah := ao; clear ai ak ao; clear hb hbox hg; have dy : bW.cell? ⟨af, 0, none⟩ = some (.int .u64 0) := bq_ aa 0; have dz : bW.cell? ⟨af, 1, none⟩ = some (.int .u64 0) := bq_ aa 1; have dA := blk_frozen aa.out 0; have dB := blk_frozen aa.out 1) | ((with_reducible refine gate_dst (N := 9) rfl ?_); (try (refine gate_guard (by rfl) ?_; dsimp only)); refine Kd.R_lit k36 _ 36 ?hg (N := 9) ?hd (xs := ([(⟨0, 0⟩ : S36), (⟨0, 0⟩ : S36)] : List (S36))) (inner := [.int .u64 0, .int .u64 0, .int .u64 0, .int .u64 0]) (ok := fun _ => True) (okp := fun _ => True) ?hr ?hp (fun _ hk => hk) trivial (Below.refl _ _) (Nat.le_refl _) (by simp) ?_; (case hd => rfl); (case hg => rfl); (case hr => first | (go_simp; done) | (go_simp; rfl)); (case hp => exact (Reps.c2 (show Kd.M k36 _ _ _ (⟨0, 0⟩ : S36) [.int .u64 0, .int .u64 0] from (k36_mkM _ _ _ (⟨0, 0⟩ : S36) )) (Reps.c2 (show Kd.M k36 _ _ _ (⟨0, 0⟩ : S36) [.int .u64 0, .int .u64 0] from (k36_mkM _ _ _ (⟨0, 0⟩ : S36) )) (Reps.none _ _)))); intro ba ff ho64 hb hg_ hnew_; clear hg_ hnew_; (first | rw [← aM.out] at ho64 | (simp only [Int.reduceToNat] at ho64; rw [← aM.out] at ho64)); have ai := aj (Kd.R_lower (Kd.R_newB ho64 (g := af) (o := .cells #[.int .u64 0, .int .u64 0] 36 (0, 0)) aa.out) (below_size (by repeat (first | (with_reducible first | exact HB.out | apply below_alloc | apply pw_below_drewN | apply below_drew1 | refine below_set ?_ ah.out) | exact HB.out)))); have ak := aj (blk_below (g := af) (o := .cells #[.int .u64 0, .int .u64 0] 36 (0, 0)) aa.out hb); have ap := aj (below_step (by repeat (first | (with_reducible first | exact HB.out | apply below_alloc | apply pw_below_drewN | apply below_drew1 | refine below_set ?_ ah.out) | exact HB.out)) hb); clear aa; clear HB; have ac := ai; have aa := ak; have HB := ap; clear ai ak ap; clear hb ho64; obtain ⟨bD, bE, cd⟩ := Kd.R_slice ac.out; subst cd) | ((with_reducible refine gate_callee (f := 13) rfl ?_); refine goesL_ (some 10) rfl rfl Tryd.func13 (by kernel_rfl) rfl #[.int .i64 0, .slice bD aH.length bE, .int .i64 0] rfl (by (try simp only [List.map_toArray, List.map_cons, List.map_nil]); first | done | rfl | (go_simp; done)) ?_; (with_reducible refine (tree_Build.calls k 0 _ _ aH 0 am al aq ar aO _ ?side1 ?side2 ?side3 A1.out).mono ?_); (case side1 => exact (Kd.R_reads' ac.out).2.2); (case side2 => exact (Kd.R_reads' ac.out).2.1); (case side3 => repeat (first | exact (GL.below HRG.out HB.out) | (with_reducible refine GL.alloc ?_ _) | (with_reducible refine GL.drewN ?_ _) | (with_reducible refine GL.drew ?_))); rintro e fh ⟨bb, rfl, ho0, hb⟩; refine ⟨_, rfl, ?_⟩; have ai := aj (Kd.R_below (ac.out) hb); have ak := aj (Kd.S_lower (Kd.S_newB (Kd.S_new' ho0 (Kd.R_lt (ac.out))) (g := af) (o := .cells #[.int .u64 0, .int .u64 0] 36 (0, 0)) aa.out) (below_size (by repeat (first | (with_reducible first | exact HB.out | apply below_alloc | apply pw_below_drewN | apply below_drew1 | refine below_set ?_ ah.out) | exact HB.out)))); have ap := aj (blk_below (g := af) (o := .cells #[.int .u64 0, .int .u64 0] 36 (0, 0)) aa.out hb); have ao := aj (below_step (by repeat (first | (with_reducible first | exact HB.out | apply below_alloc | apply pw_below_drewN | apply below_drew1 | refine below_set ?_ ah.out) | exact HB.out)) hb); clear ac; clear aa; clear HB; have ac := ai; have ag := ak; have aa := ap; have HB := ao; clear ai ak ap ao; (try clear hb); (try clear hb2); (try clear hk); (try clear hi); (try clear ho0)) | ((with_reducible refine gate_dst (N := 2) rfl ?_); (try (refine gate_guard (by rfl) ?_; dsimp only)); refine box_event ?hg (N := 2) ?hd (cs := #[.int .i64 0, .int .i64 0, .int .i64 0, .slice none 0 0]) (t := 26) ?hr ?_; (case hd => rfl); (case hg => rfl); (case hr => first | (go_simp; done) | (go_simp; rfl)); intro ab hg bm hbox hb; have ai := aj (Kd.R_below (ac.out) hb); have ak := aj (Kd.S_below (ag.out) hb); have ap := aj (blk_below (g := af) (o := .cells #[.int .u64 0, .int .u64 0] 36 (0, 0)) aa.out hb); have ao := aj (below_step (by repeat (first | (with_reducible first | exact HB.out | apply below_alloc | apply pw_below_drewN | apply below_drew1 | refine below_set ?_ ah.out) | exact HB.out)) hb); have aw := aj (hbox); have az := aj ((by rw [hg]; exact (below_size (by repeat (first | (with_reducible first | exact HB.out | apply below_alloc | apply pw_below_drewN | apply below_drew1 | refine below_set ?_ ah.out) | exact HB.out))) : w.heap.size ≤ ab)); have aC := aj ((by rw [hg]; exact Nat.ne_of_lt (blk_lt (g := af) (o := .cells #[.int .u64 0, .int .u64 0] 36 (0, 0)) aa.out) : af ≠ ab)); have aE := aj ((by rw [hg]; exact Nat.ne_of_gt (blk_lt (g := af) (o := .cells #[.int .u64 0, .int .u64 0] 36 (0, 0)) aa.out) : ab ≠ af)); clear ac; clear ag; clear aa; clear HB; have ac := ai; have ag := ak; have aa := ap; have HB := ao; have ad := aw; have av := az; have ae := aC; have aD := aE; clear ai ak ap ao aw az aC aE; clear hb hbox hg; have ew := aD.out; have ey := ae.out; have dC : bm.cell? ⟨ab, 0, none⟩ = some (.int .i64 0) := bq_ ad 0; have dD : bm.cell? ⟨ab, 1, none⟩ = some (.int .i64 0) := bq_ ad 1; have dE : bm.cell? ⟨ab, 2, none⟩ = some (.int .i64 0) := bq_ ad 2; have dF : bm.cell? ⟨ab, 3, none⟩ = some (.slice none 0 0) := bq_ ad 3; have dG := blk_frozen ad.out 0; have dH := blk_frozen ad.out 1; have dI := blk_frozen ad.out 2; have dJ := blk_frozen ad.out 3; obtain ⟨aW, aV, ce⟩ := Kd.S_slice ag.out; subst ce) | ((with_reducible refine gate_callee (f := 23) rfl ?_); refine goesL_ (some 15) rfl rfl Tryd.func23 (by kernel_rfl) rfl #[.agg #[.int .i64 am, .int .i64 al, .int .i64 aq, .slice aW ar.length aV], .int .i64 1] rfl (by (try simp only [List.map_toArray, List.map_cons, List.map_nil]); first | done | rfl | (go_simp; done)) ?_; (with_reducible refine (tree_Path.calls k am al aq _ _ ar 1 aI aQ _ ?side1 ?side2 ?side3 A2.out).mono ?_); (case side1 => refine (Kd.S_reads' (e := 22) (base := w.heap.size) (ok := fun k_ => ((True ∧ some k_ ≠ (.slice bD aH.length bE : Value).ownBlock) ∧ k_ ≠ af)) (n := ar.length) (c := aV) ?_).2.2; exact (by (with_reducible repeat (first | apply Kd.S_alloc | apply Kd.S_drewN | apply Kd.S_drew)); exact (Kd.S_mono (Kd.S_far (p := ⟨ab, 3, none⟩) (Kd.S_far (p := ⟨ab, 2, none⟩) (Kd.S_far (p := ⟨ab, 1, none⟩) (Kd.S_far (p := ⟨ab, 0, none⟩) (Kd.S_types ag.out ad.out (by decide)) (fun _ hk => hk.2) (.int .i64 am)) (fun _ hk => hk.2) (.int .i64 al)) (fun _ hk => hk.2) (.int .i64 aq)) (fun _ hk => hk.2) (.slice aW ar.length aV)) (fun _ h_ => h_.1)))); (case side2 => exact (Kd.S_reads' ag.out).2.1); (case side3 => exact GL.below HRG.out (by repeat (first | (with_reducible first | exact HB.out | apply below_alloc | apply pw_below_drewN | apply below_drew1 | refine below_set ?_ ah.out | refine below_set ?_ av.out) | exact HB.out))); rintro e bn ⟨bc, rfl, ho0, hb⟩; refine ⟨_, rfl, ?_⟩; have ai := aj (Kd.R_elder' (by (with_reducible repeat (first | apply Kd.R_alloc | apply Kd.R_drewN | apply Kd.R_drew)); exact (Kd.R_mono (Kd.R_far (p := ⟨ab, 3, none⟩) (Kd.R_far (p := ⟨ab, 2, none⟩) (Kd.R_far (p := ⟨ab, 1, none⟩) (Kd.R_far (p := ⟨ab, 0, none⟩) (Kd.R_types ac.out ad.out (by decide)) (fun _ hk => hk.2) (.int .i64 am)) (fun _ hk => hk.2) (.int .i64 al)) (fun _ hk => hk.2) (.int .i64 aq)) (fun _ hk => hk.2) (.slice aW ar.length aV)) (fun _ h_ => h_.1))) (Kd.R_base ho0) hb); have ak := aj (Kd.S_elder' (by (with_reducible repeat (first | apply Kd.S_alloc | apply Kd.S_drewN | apply Kd.S_drew)); exact (Kd.S_mono (Kd.S_far (p := ⟨ab, 3, none⟩) (Kd.S_far (p := ⟨ab, 2, none⟩) (Kd.S_far (p := ⟨ab, 1, none⟩) (Kd.S_far (p := ⟨ab, 0, none⟩) (Kd.S_types ag.out ad.out (by decide)) (fun _ hk => hk.2) (.int .i64 am)) (fun _ hk => hk.2) (.int .i64 al)) (fun _ hk => hk.2) (.int .i64 aq)) (fun _ hk => hk.2) (.slice aW ar.length aV)) (fun _ h_ => h_.1))) (Kd.R_base ho0) hb); have ap := aj (Kd.R_lower (Kd.R_newB (Kd.R_new' ho0 (Kd.R_lt (by (with_reducible repeat (first | apply Kd.R_alloc | apply Kd.R_drewN | apply Kd.R_drew)); exact (Kd.R_mono (Kd.R_far (p := ⟨ab, 3, none⟩) (Kd.R_far (p := ⟨ab, 2, none⟩) (Kd.R_far (p := ⟨ab, 1, none⟩) (Kd.R_far (p := ⟨ab, 0, none⟩) (Kd.R_types ac.out ad.out (by decide)) (fun _ hk => hk.2) (.int .i64 am)) (fun _ hk => hk.2) (.int .i64 al)) (fun _ hk => hk.2) (.int .i64 aq)) (fun _ hk => hk.2) (.slice aW ar.length aV)) (fun _ h_ => h_.1))))) (g := af) (o := .cells #[.int .u64 0, .int .u64 0] 36 (0, 0)) (by refine blk_far ?_ ae.out _; refine blk_far ?_ ae.out _; refine blk_far ?_ ae.out _; refine blk_far ?_ ae.out _; exact aa.out)) (below_size (by repeat (first | (with_reducible first | exact HB.out | apply below_alloc | apply pw_below_drewN | apply below_drew1 | refine below_set ?_ ah.out | refine below_set ?_ av.out) | exact HB.out)))); have ao := aj (blk_below (g := af) (o := .cells #[.int .u64 0, .int .u64 0] 36 (0, 0)) (by refine blk_far ?_ ae.out _; refine blk_far ?_ ae.out _; refine blk_far ?_ ae.out _; refine blk_far ?_ ae.out _; exact aa.out) hb); have aw := aj (blk_below (g := ab) (o := .cells #[.int .i64 am, .int .i64 al, .int .i64 aq, .slice aW ar.length aV] 26 (0, 0)) (by refine blk_put (cs := #[.int .i64 am, .int .i64 al, .int .i64 aq, .slice none 0 0]) ?_ 3 _ rfl; refine blk_put (cs := #[.int .i64 am, .int .i64 al, .int .i64 0, .slice none 0 0]) ?_ 2 _ rfl; refine blk_put (cs := #[.int .i64 am, .int .i64 0, .int .i64 0, .slice none 0 0]) ?_ 1 _ rfl; refine blk_put (cs := #[.int .i64 0, .int .i64 0, .int .i64 0, .slice none 0 0]) ?_ 0 _ rfl; exact ad.out) hb); have aA := aj (below_step (by repeat (first | (with_reducible first | exact HB.out | apply below_alloc | apply pw_below_drewN | apply below_drew1 | refine below_set ?_ ah.out | refine below_set ?_ av.out) | exact HB.out)) hb); clear ac; clear ag; clear aa; clear ad; clear HB; have ac := ai; have ag := ak; have au := ap; have aa := ao; have ad := aw; have HB := aA; clear ai ak ap ao aw aA; (try clear hb); (try clear hb2); (try clear hk); (try clear hi); (try clear ho0); have dK : bn.cell? ⟨ab, 0, none⟩ = some (.int .i64 am) := bq_ ad 0; have dL : bn.cell? ⟨ab, 1, none⟩ = some (.int .i64 al) := bq_ ad 1; have dM : bn.cell? ⟨ab, 2, none⟩ = some (.int .i64 aq) := bq_ ad 2; have dN : bn.cell? ⟨ab, 3, none⟩ = some (.slice aW ar.length aV) := bq_ ad 3; have dO := blk_frozen ad.out 0; have dP := blk_frozen ad.out 1; have dQ := blk_frozen ad.out 2; have dR := blk_frozen ad.out 3) | (go_at_call 19; (with_reducible refine (tree_Cap.calls k am al aq _ _ ar aK _ ?side1 ?side2 ?side3 A6.out).mono ?_); (case side1 => exact (Kd.S_reads' ag.out).2.2); (case side2 => exact (Kd.S_reads' ag.out).2.1); (case side3 => repeat (first | exact (GL.below HRG.out HB.out) | (with_reducible refine GL.alloc ?_ _) | (with_reducible refine GL.drewN ?_ _) | (with_reducible refine GL.drew ?_))); rintro e fi ⟨bz, rfl, ho0, hb⟩; have ai := aj (Kd.R_elder' (ac.out) (Kd.R_base ho0) hb); have ak := aj (Kd.S_elder' (ag.out) (Kd.R_base ho0) hb); have ap := aj (Kd.R_elder' (au.out) (Kd.R_base ho0) hb); have ao := aj (Kd.R_lower (Kd.R_newB (Kd.R_new' (Kd.R_new' ho0 (Kd.R_lt (ac.out))) (Kd.R_lt (au.out))) (g := af) (o := .cells #[.int .u64 0, .int .u64 0] 36 (0, 0)) aa.out) (below_size (by repeat (first | (with_reducible first | exact HB.out | apply below_alloc | apply pw_below_drewN | apply below_drew1 | refine below_set ?_ ah.out | refine below_set ?_ av.out) | exact HB.out)))); have aw := aj (blk_below (g := af) (o := .cells #[.int .u64 0, .int .u64 0] 36 (0, 0)) aa.out hb); have aA := aj (blk_below (g := ab) (o := .cells #[.int .i64 am, .int .i64 al, .int .i64 aq, .slice aW ar.length aV] 26 (0, 0)) ad.out hb); have az := aj (below_step (by repeat (first | (with_reducible first | exact HB.out | apply below_alloc | apply pw_below_drewN | apply below_drew1 | refine below_set ?_ ah.out | refine below_set ?_ av.out) | exact HB.out)) hb); clear ac; clear ag; clear au; clear aa; clear ad; clear HB; have ac := ai; have ag := ak; have au := ap; have ax := ao; have aa := aw; have ad := aA; have HB := az; clear ai ak ap ao aw aA az; (try clear hb); (try clear hb2); (try clear hk); (try clear hi); (try clear ho0)) | ((with_reducible refine gate_dst (N := 33) rfl ?_); (try (refine gate_guard (by rfl) ?_; dsimp only)); refine Kd.R_lit k36 _ 36 ?hg (N := 33) ?hd (xs := ([(⟨19, 58⟩ : S36)] : List (S36))) (inner := [.int .u64 19, .int .u64 58]) (ok := fun _ => True) (okp := fun _ => True) ?hr ?hp (fun _ hk => hk) trivial (Below.refl _ _) (Nat.le_refl _) (by simp) ?_; (case hd => rfl); (case hg => rfl); (case hr => first | (go_simp; done) | (go_simp; rfl)); (case hp => exact (Reps.c2 (show Kd.M k36 _ _ _ (⟨19, 58⟩ : S36) [.int .u64 19, .int .u64 58] from (k36_mkM _ _ _ (⟨19, 58⟩ : S36) )) (Reps.none _ _))); intro bA fj ho75 hb hg_ hnew_; clear hg_ hnew_; (first | rw [← aZ.out] at ho75 | (simp only [Int.reduceToNat] at ho75; rw [← aZ.out] at ho75)); have ai := aj (Kd.R_elder' (ac.out) (Kd.R_base ho75) hb); have ak := aj (Kd.S_elder' (ag.out) (Kd.R_base ho75) hb); have ap := aj (Kd.R_elder' (au.out) (Kd.R_base ho75) hb); have ao := aj (Kd.R_elder' (ax.out) (Kd.R_base ho75) hb); have aw := aj (Kd.R_lower (Kd.R_newB (Kd.R_new' (Kd.R_new' (Kd.R_new' ho75 (Kd.R_lt (ac.out))) (Kd.R_lt (au.out))) (Kd.R_lt (ax.out))) (g := af) (o := .cells #[.int .u64 0, .int .u64 0] 36 (0, 0)) aa.out) (below_size (by repeat (first | (with_reducible first | exact HB.out | apply below_alloc | apply pw_below_drewN | apply below_drew1 | refine below_set ?_ ah.out | refine below_set ?_ av.out) | exact HB.out)))); have aA := aj (blk_below (g := af) (o := .cells #[.int .u64 0, .int .u64 0] 36 (0, 0)) aa.out hb); have az := aj (blk_below (g := ab) (o := .cells #[.int .i64 am, .int .i64 al, .int .i64 aq, .slice aW ar.length aV] 26 (0, 0)) ad.out hb); have aC := aj (below_step (by repeat (first | (with_reducible first | exact HB.out | apply below_alloc | apply pw_below_drewN | apply below_drew1 | refine below_set ?_ ah.out | refine below_set ?_ av.out) | exact HB.out)) hb); clear ac; clear ag; clear au; clear ax; clear aa; clear ad; clear HB; have ac := ai; have ag := ak; have au := ap; have ax := ao; have aB := aw; have aa := aA; have ad := az; have HB := aC; clear ai ak ap ao aw aA az aC; clear hb ho75; obtain ⟨eW, eX, cf⟩ := Kd.R_slice ax.out; subst cf; obtain ⟨eY, eZ, cg⟩ := Kd.R_slice aB.out; subst cg) | (go_at_call 18; (with_reducible refine (attestorref07_Equal.calls k _ _ aK _ _ bd false _ ?side1 ?side2 ?side3 ?side4 A7.out).mono ?_); (case side1 => exact (Kd.R_reads' ax.out).2.2); (case side2 => exact (Kd.R_reads' ax.out).2.1); (case side3 => exact (Kd.R_reads' aB.out).2.2); (case side4 => exact (Kd.R_reads' aB.out).2.1); rintro e w' ⟨rfl, ⟨nd, rfl⟩⟩))
     go_ret
     exact ⟨by first | rfl | (simp [errW_none, errW_some] <;> rfl) | (simp [*, errW_none, errW_some] <;> rfl), (by first | exact HB.out | exact below_drew1 HB.out | exact pw_below_drewN HB.out _)⟩
   ·rw [if_neg c5] at H
    have c5b0 : (al == 1) = false := beq_eq_false_iff_ne.mpr c5
    have c5b1 : (al != 1) = true := bne_iff_ne.mpr c5
    obtain rfl := Option.some.inj H
    go_enter Tryd.func21, Tryd.ntmps21
    go_wp2_with (first | ((with_reducible refine gate_dst (N := 1) rfl ?_); (try (refine gate_guard (by rfl) ?_; dsimp only)); refine box_event ?hg (N := 1) ?hd (cs := #[.int .u64 0, .int .u64 0]) (t := 36) ?hr ?_; (case hd => rfl); (case hg => rfl); (case hr => first | (go_simp; done) | (go_simp; rfl)); intro af hg bX hbox hb; have ai := aj (below_step (by repeat (first | (with_reducible first | exact HB.out | apply below_alloc | apply pw_below_drewN | apply below_drew1) | exact HB.out)) hb); have ak := aj (hbox); have ao := aj ((by rw [hg]; exact (below_size (by repeat (first | (with_reducible first | exact HB.out | apply below_alloc | apply pw_below_drewN | apply below_drew1) | exact HB.out))) : w.heap.size ≤ af)); clear HB; have HB := ai; have aa := ak; have ah := ao; clear ai ak ao; clear hb hbox hg; have dS : bX.cell? ⟨af, 0, none⟩ = some (.int .u64 0) := bq_ aa 0; have dT : bX.cell? ⟨af, 1, none⟩ = some (.int .u64 0) := bq_ aa 1; have dU := blk_frozen aa.out 0; have dV := blk_frozen aa.out 1) | ((with_reducible refine gate_dst (N := 9) rfl ?_); (try (refine gate_guard (by rfl) ?_; dsimp only)); refine Kd.R_lit k36 _ 36 ?hg (N := 9) ?hd (xs := ([(⟨0, 0⟩ : S36), (⟨0, 0⟩ : S36)] : List (S36))) (inner := [.int .u64 0, .int .u64 0, .int .u64 0, .int .u64 0]) (ok := fun _ => True) (okp := fun _ => True) ?hr ?hp (fun _ hk => hk) trivial (Below.refl _ _) (Nat.le_refl _) (by simp) ?_; (case hd => rfl); (case hg => rfl); (case hr => first | (go_simp; done) | (go_simp; rfl)); (case hp => exact (Reps.c2 (show Kd.M k36 _ _ _ (⟨0, 0⟩ : S36) [.int .u64 0, .int .u64 0] from (k36_mkM _ _ _ (⟨0, 0⟩ : S36) )) (Reps.c2 (show Kd.M k36 _ _ _ (⟨0, 0⟩ : S36) [.int .u64 0, .int .u64 0] from (k36_mkM _ _ _ (⟨0, 0⟩ : S36) )) (Reps.none _ _)))); intro ba fk ho81 hb hg_ hnew_; clear hg_ hnew_; (first | rw [← aM.out] at ho81 | (simp only [Int.reduceToNat] at ho81; rw [← aM.out] at ho81)); have ai := aj (Kd.R_lower (Kd.R_newB ho81 (g := af) (o := .cells #[.int .u64 0, .int .u64 0] 36 (0, 0)) aa.out) (below_size (by repeat (first | (with_reducible first | exact HB.out | apply below_alloc | apply pw_below_drewN | apply below_drew1 | refine below_set ?_ ah.out) | exact HB.out)))); have ak := aj (blk_below (g := af) (o := .cells #[.int .u64 0, .int .u64 0] 36 (0, 0)) aa.out hb); have ap := aj (below_step (by repeat (first | (with_reducible first | exact HB.out | apply below_alloc | apply pw_below_drewN | apply below_drew1 | refine below_set ?_ ah.out) | exact HB.out)) hb); clear aa; clear HB; have ac := ai; have aa := ak; have HB := ap; clear ai ak ap; clear hb ho81; obtain ⟨bF, bG, ci⟩ := Kd.R_slice ac.out; subst ci) | ((with_reducible refine gate_callee (f := 13) rfl ?_); refine goesL_ (some 10) rfl rfl Tryd.func13 (by kernel_rfl) rfl #[.int .i64 0, .slice bF aH.length bG, .int .i64 0] rfl (by (try simp only [List.map_toArray, List.map_cons, List.map_nil]); first | done | rfl | (go_simp; done)) ?_; (with_reducible refine (tree_Build.calls k 0 _ _ aH 0 am al aq ar aO _ ?side1 ?side2 ?side3 A1.out).mono ?_); (case side1 => exact (Kd.R_reads' ac.out).2.2); (case side2 => exact (Kd.R_reads' ac.out).2.1); (case side3 => repeat (first | exact (GL.below HRG.out HB.out) | (with_reducible refine GL.alloc ?_ _) | (with_reducible refine GL.drewN ?_ _) | (with_reducible refine GL.drew ?_))); rintro e fm ⟨bb, rfl, ho0, hb⟩; refine ⟨_, rfl, ?_⟩; have ai := aj (Kd.R_below (ac.out) hb); have ak := aj (Kd.S_lower (Kd.S_newB (Kd.S_new' ho0 (Kd.R_lt (ac.out))) (g := af) (o := .cells #[.int .u64 0, .int .u64 0] 36 (0, 0)) aa.out) (below_size (by repeat (first | (with_reducible first | exact HB.out | apply below_alloc | apply pw_below_drewN | apply below_drew1 | refine below_set ?_ ah.out) | exact HB.out)))); have ap := aj (blk_below (g := af) (o := .cells #[.int .u64 0, .int .u64 0] 36 (0, 0)) aa.out hb); have ao := aj (below_step (by repeat (first | (with_reducible first | exact HB.out | apply below_alloc | apply pw_below_drewN | apply below_drew1 | refine below_set ?_ ah.out) | exact HB.out)) hb); clear ac; clear aa; clear HB; have ac := ai; have ag := ak; have aa := ap; have HB := ao; clear ai ak ap ao; (try clear hb); (try clear hb2); (try clear hk); (try clear hi); (try clear ho0)) | ((with_reducible refine gate_dst (N := 2) rfl ?_); (try (refine gate_guard (by rfl) ?_; dsimp only)); refine box_event ?hg (N := 2) ?hd (cs := #[.int .i64 0, .int .i64 0, .int .i64 0, .slice none 0 0]) (t := 26) ?hr ?_; (case hd => rfl); (case hg => rfl); (case hr => first | (go_simp; done) | (go_simp; rfl)); intro ab hg bo hbox hb; have ai := aj (Kd.R_below (ac.out) hb); have ak := aj (Kd.S_below (ag.out) hb); have ap := aj (blk_below (g := af) (o := .cells #[.int .u64 0, .int .u64 0] 36 (0, 0)) aa.out hb); have ao := aj (below_step (by repeat (first | (with_reducible first | exact HB.out | apply below_alloc | apply pw_below_drewN | apply below_drew1 | refine below_set ?_ ah.out) | exact HB.out)) hb); have aw := aj (hbox); have az := aj ((by rw [hg]; exact (below_size (by repeat (first | (with_reducible first | exact HB.out | apply below_alloc | apply pw_below_drewN | apply below_drew1 | refine below_set ?_ ah.out) | exact HB.out))) : w.heap.size ≤ ab)); have aC := aj ((by rw [hg]; exact Nat.ne_of_lt (blk_lt (g := af) (o := .cells #[.int .u64 0, .int .u64 0] 36 (0, 0)) aa.out) : af ≠ ab)); have aE := aj ((by rw [hg]; exact Nat.ne_of_gt (blk_lt (g := af) (o := .cells #[.int .u64 0, .int .u64 0] 36 (0, 0)) aa.out) : ab ≠ af)); clear ac; clear ag; clear aa; clear HB; have ac := ai; have ag := ak; have aa := ap; have HB := ao; have ad := aw; have av := az; have ae := aC; have aD := aE; clear ai ak ap ao aw az aC aE; clear hb hbox hg; have ez := aD.out; have eA := ae.out; have dW : bo.cell? ⟨ab, 0, none⟩ = some (.int .i64 0) := bq_ ad 0; have dX : bo.cell? ⟨ab, 1, none⟩ = some (.int .i64 0) := bq_ ad 1; have dY : bo.cell? ⟨ab, 2, none⟩ = some (.int .i64 0) := bq_ ad 2; have dZ : bo.cell? ⟨ab, 3, none⟩ = some (.slice none 0 0) := bq_ ad 3; have d0 := blk_frozen ad.out 0; have d1 := blk_frozen ad.out 1; have d2 := blk_frozen ad.out 2; have d3 := blk_frozen ad.out 3; obtain ⟨a2, aY, cj⟩ := Kd.S_slice ag.out; subst cj) | ((with_reducible refine gate_callee (f := 23) rfl ?_); refine goesL_ (some 15) rfl rfl Tryd.func23 (by kernel_rfl) rfl #[.agg #[.int .i64 am, .int .i64 al, .int .i64 aq, .slice a2 ar.length aY], .int .i64 1] rfl (by (try simp only [List.map_toArray, List.map_cons, List.map_nil]); first | done | rfl | (go_simp; done)) ?_; (with_reducible refine (tree_Path.calls k am al aq _ _ ar 1 aI aQ _ ?side1 ?side2 ?side3 A2.out).mono ?_); (case side1 => refine (Kd.S_reads' (e := 22) (base := w.heap.size) (ok := fun k_ => ((True ∧ some k_ ≠ (.slice bF aH.length bG : Value).ownBlock) ∧ k_ ≠ af)) (n := ar.length) (c := aY) ?_).2.2; exact (by (with_reducible repeat (first | apply Kd.S_alloc | apply Kd.S_drewN | apply Kd.S_drew)); exact (Kd.S_mono (Kd.S_far (p := ⟨ab, 3, none⟩) (Kd.S_far (p := ⟨ab, 2, none⟩) (Kd.S_far (p := ⟨ab, 1, none⟩) (Kd.S_far (p := ⟨ab, 0, none⟩) (Kd.S_types ag.out ad.out (by decide)) (fun _ hk => hk.2) (.int .i64 am)) (fun _ hk => hk.2) (.int .i64 al)) (fun _ hk => hk.2) (.int .i64 aq)) (fun _ hk => hk.2) (.slice a2 ar.length aY)) (fun _ h_ => h_.1)))); (case side2 => exact (Kd.S_reads' ag.out).2.1); (case side3 => exact GL.below HRG.out (by repeat (first | (with_reducible first | exact HB.out | apply below_alloc | apply pw_below_drewN | apply below_drew1 | refine below_set ?_ ah.out | refine below_set ?_ av.out) | exact HB.out))); rintro e bp ⟨bc, rfl, ho0, hb⟩; refine ⟨_, rfl, ?_⟩; have ai := aj (Kd.R_elder' (by (with_reducible repeat (first | apply Kd.R_alloc | apply Kd.R_drewN | apply Kd.R_drew)); exact (Kd.R_mono (Kd.R_far (p := ⟨ab, 3, none⟩) (Kd.R_far (p := ⟨ab, 2, none⟩) (Kd.R_far (p := ⟨ab, 1, none⟩) (Kd.R_far (p := ⟨ab, 0, none⟩) (Kd.R_types ac.out ad.out (by decide)) (fun _ hk => hk.2) (.int .i64 am)) (fun _ hk => hk.2) (.int .i64 al)) (fun _ hk => hk.2) (.int .i64 aq)) (fun _ hk => hk.2) (.slice a2 ar.length aY)) (fun _ h_ => h_.1))) (Kd.R_base ho0) hb); have ak := aj (Kd.S_elder' (by (with_reducible repeat (first | apply Kd.S_alloc | apply Kd.S_drewN | apply Kd.S_drew)); exact (Kd.S_mono (Kd.S_far (p := ⟨ab, 3, none⟩) (Kd.S_far (p := ⟨ab, 2, none⟩) (Kd.S_far (p := ⟨ab, 1, none⟩) (Kd.S_far (p := ⟨ab, 0, none⟩) (Kd.S_types ag.out ad.out (by decide)) (fun _ hk => hk.2) (.int .i64 am)) (fun _ hk => hk.2) (.int .i64 al)) (fun _ hk => hk.2) (.int .i64 aq)) (fun _ hk => hk.2) (.slice a2 ar.length aY)) (fun _ h_ => h_.1))) (Kd.R_base ho0) hb); have ap := aj (Kd.R_lower (Kd.R_newB (Kd.R_new' ho0 (Kd.R_lt (by (with_reducible repeat (first | apply Kd.R_alloc | apply Kd.R_drewN | apply Kd.R_drew)); exact (Kd.R_mono (Kd.R_far (p := ⟨ab, 3, none⟩) (Kd.R_far (p := ⟨ab, 2, none⟩) (Kd.R_far (p := ⟨ab, 1, none⟩) (Kd.R_far (p := ⟨ab, 0, none⟩) (Kd.R_types ac.out ad.out (by decide)) (fun _ hk => hk.2) (.int .i64 am)) (fun _ hk => hk.2) (.int .i64 al)) (fun _ hk => hk.2) (.int .i64 aq)) (fun _ hk => hk.2) (.slice a2 ar.length aY)) (fun _ h_ => h_.1))))) (g := af) (o := .cells #[.int .u64 0, .int .u64 0] 36 (0, 0)) (by refine blk_far ?_ ae.out _; refine blk_far ?_ ae.out _; refine blk_far ?_ ae.out _; refine blk_far ?_ ae.out _; exact aa.out)) (below_size (by repeat (first | (with_reducible first | exact HB.out | apply below_alloc | apply pw_below_drewN | apply below_drew1 | refine below_set ?_ ah.out | refine below_set ?_ av.out) | exact HB.out)))); have ao := aj (blk_below (g := af) (o := .cells #[.int .u64 0, .int .u64 0] 36 (0, 0)) (by refine blk_far ?_ ae.out _; refine blk_far ?_ ae.out _; refine blk_far ?_ ae.out _; refine blk_far ?_ ae.out _; exact aa.out) hb); have aw := aj (blk_below (g := ab) (o := .cells #[.int .i64 am, .int .i64 al, .int .i64 aq, .slice a2 ar.length aY] 26 (0, 0)) (by refine blk_put (cs := #[.int .i64 am, .int .i64 al, .int .i64 aq, .slice none 0 0]) ?_ 3 _ rfl; refine blk_put (cs := #[.int .i64 am, .int .i64 al, .int .i64 0, .slice none 0 0]) ?_ 2 _ rfl; refine blk_put (cs := #[.int .i64 am, .int .i64 0, .int .i64 0, .slice none 0 0]) ?_ 1 _ rfl; refine blk_put (cs := #[.int .i64 0, .int .i64 0, .int .i64 0, .slice none 0 0]) ?_ 0 _ rfl; exact ad.out) hb); have aA := aj (below_step (by repeat (first | (with_reducible first | exact HB.out | apply below_alloc | apply pw_below_drewN | apply below_drew1 | refine below_set ?_ ah.out | refine below_set ?_ av.out) | exact HB.out)) hb); clear ac; clear ag; clear aa; clear ad; clear HB; have ac := ai; have ag := ak; have au := ap; have aa := ao; have ad := aw; have HB := aA; clear ai ak ap ao aw aA; (try clear hb); (try clear hb2); (try clear hk); (try clear hi); (try clear ho0); have d4 : bp.cell? ⟨ab, 0, none⟩ = some (.int .i64 am) := bq_ ad 0; have d5 : bp.cell? ⟨ab, 1, none⟩ = some (.int .i64 al) := bq_ ad 1; have d6 : bp.cell? ⟨ab, 2, none⟩ = some (.int .i64 aq) := bq_ ad 2; have d7 : bp.cell? ⟨ab, 3, none⟩ = some (.slice a2 ar.length aY) := bq_ ad 3; have d8 := blk_frozen ad.out 0; have d9 := blk_frozen ad.out 1; have ea := blk_frozen ad.out 2; have eb := blk_frozen ad.out 3))
    go_ret
    exact ⟨by first | rfl | (simp [errW_none, errW_some] <;> rfl) | (simp [*, errW_none, errW_some] <;> rfl), HB.out⟩
  ·rw [if_neg c4] at H
   have c4b0 : (aQ == 0) = false := beq_eq_false_iff_ne.mpr c4
   have c4b1 : (aQ != 0) = true := bne_iff_ne.mpr c4
   obtain rfl := Option.some.inj H
   go_enter Tryd.func21, Tryd.ntmps21
   go_wp2_with (first | ((with_reducible refine gate_dst (N := 1) rfl ?_); (try (refine gate_guard (by rfl) ?_; dsimp only)); refine box_event ?hg (N := 1) ?hd (cs := #[.int .u64 0, .int .u64 0]) (t := 36) ?hr ?_; (case hd => rfl); (case hg => rfl); (case hr => first | (go_simp; done) | (go_simp; rfl)); intro af hg bY hbox hb; have ai := aj (below_step (by repeat (first | (with_reducible first | exact HB.out | apply below_alloc | apply pw_below_drewN | apply below_drew1) | exact HB.out)) hb); have ak := aj (hbox); have ao := aj ((by rw [hg]; exact (below_size (by repeat (first | (with_reducible first | exact HB.out | apply below_alloc | apply pw_below_drewN | apply below_drew1) | exact HB.out))) : w.heap.size ≤ af)); clear HB; have HB := ai; have aa := ak; have ah := ao; clear ai ak ao; clear hb hbox hg; have ec : bY.cell? ⟨af, 0, none⟩ = some (.int .u64 0) := bq_ aa 0; have ed : bY.cell? ⟨af, 1, none⟩ = some (.int .u64 0) := bq_ aa 1; have ee := blk_frozen aa.out 0; have ef := blk_frozen aa.out 1) | ((with_reducible refine gate_dst (N := 9) rfl ?_); (try (refine gate_guard (by rfl) ?_; dsimp only)); refine Kd.R_lit k36 _ 36 ?hg (N := 9) ?hd (xs := ([(⟨0, 0⟩ : S36), (⟨0, 0⟩ : S36)] : List (S36))) (inner := [.int .u64 0, .int .u64 0, .int .u64 0, .int .u64 0]) (ok := fun _ => True) (okp := fun _ => True) ?hr ?hp (fun _ hk => hk) trivial (Below.refl _ _) (Nat.le_refl _) (by simp) ?_; (case hd => rfl); (case hg => rfl); (case hr => first | (go_simp; done) | (go_simp; rfl)); (case hp => exact (Reps.c2 (show Kd.M k36 _ _ _ (⟨0, 0⟩ : S36) [.int .u64 0, .int .u64 0] from (k36_mkM _ _ _ (⟨0, 0⟩ : S36) )) (Reps.c2 (show Kd.M k36 _ _ _ (⟨0, 0⟩ : S36) [.int .u64 0, .int .u64 0] from (k36_mkM _ _ _ (⟨0, 0⟩ : S36) )) (Reps.none _ _)))); intro ba fo ho93 hb hg_ hnew_; clear hg_ hnew_; (first | rw [← aM.out] at ho93 | (simp only [Int.reduceToNat] at ho93; rw [← aM.out] at ho93)); have ai := aj (Kd.R_lower (Kd.R_newB ho93 (g := af) (o := .cells #[.int .u64 0, .int .u64 0] 36 (0, 0)) aa.out) (below_size (by repeat (first | (with_reducible first | exact HB.out | apply below_alloc | apply pw_below_drewN | apply below_drew1 | refine below_set ?_ ah.out) | exact HB.out)))); have ak := aj (blk_below (g := af) (o := .cells #[.int .u64 0, .int .u64 0] 36 (0, 0)) aa.out hb); have ap := aj (below_step (by repeat (first | (with_reducible first | exact HB.out | apply below_alloc | apply pw_below_drewN | apply below_drew1 | refine below_set ?_ ah.out) | exact HB.out)) hb); clear aa; clear HB; have ac := ai; have aa := ak; have HB := ap; clear ai ak ap; clear hb ho93; obtain ⟨bH, bI, ck⟩ := Kd.R_slice ac.out; subst ck) | ((with_reducible refine gate_callee (f := 13) rfl ?_); refine goesL_ (some 10) rfl rfl Tryd.func13 (by kernel_rfl) rfl #[.int .i64 0, .slice bH aH.length bI, .int .i64 0] rfl (by (try simp only [List.map_toArray, List.map_cons, List.map_nil]); first | done | rfl | (go_simp; done)) ?_; (with_reducible refine (tree_Build.calls k 0 _ _ aH 0 am al aq ar aO _ ?side1 ?side2 ?side3 A1.out).mono ?_); (case side1 => exact (Kd.R_reads' ac.out).2.2); (case side2 => exact (Kd.R_reads' ac.out).2.1); (case side3 => repeat (first | exact (GL.below HRG.out HB.out) | (with_reducible refine GL.alloc ?_ _) | (with_reducible refine GL.drewN ?_ _) | (with_reducible refine GL.drew ?_))); rintro e fq ⟨bb, rfl, ho0, hb⟩; refine ⟨_, rfl, ?_⟩; have ai := aj (Kd.R_below (ac.out) hb); have ak := aj (Kd.S_lower (Kd.S_newB (Kd.S_new' ho0 (Kd.R_lt (ac.out))) (g := af) (o := .cells #[.int .u64 0, .int .u64 0] 36 (0, 0)) aa.out) (below_size (by repeat (first | (with_reducible first | exact HB.out | apply below_alloc | apply pw_below_drewN | apply below_drew1 | refine below_set ?_ ah.out) | exact HB.out)))); have ap := aj (blk_below (g := af) (o := .cells #[.int .u64 0, .int .u64 0] 36 (0, 0)) aa.out hb); have ao := aj (below_step (by repeat (first | (with_reducible first | exact HB.out | apply below_alloc | apply pw_below_drewN | apply below_drew1 | refine below_set ?_ ah.out) | exact HB.out)) hb); clear ac; clear aa; clear HB; have ac := ai; have ag := ak; have aa := ap; have HB := ao; clear ai ak ap ao; (try clear hb); (try clear hb2); (try clear hk); (try clear hi); (try clear ho0)) | ((with_reducible refine gate_dst (N := 2) rfl ?_); (try (refine gate_guard (by rfl) ?_; dsimp only)); refine box_event ?hg (N := 2) ?hd (cs := #[.int .i64 0, .int .i64 0, .int .i64 0, .slice none 0 0]) (t := 26) ?hr ?_; (case hd => rfl); (case hg => rfl); (case hr => first | (go_simp; done) | (go_simp; rfl)); intro ab hg bq hbox hb; have ai := aj (Kd.R_below (ac.out) hb); have ak := aj (Kd.S_below (ag.out) hb); have ap := aj (blk_below (g := af) (o := .cells #[.int .u64 0, .int .u64 0] 36 (0, 0)) aa.out hb); have ao := aj (below_step (by repeat (first | (with_reducible first | exact HB.out | apply below_alloc | apply pw_below_drewN | apply below_drew1 | refine below_set ?_ ah.out) | exact HB.out)) hb); have aw := aj (hbox); have az := aj ((by rw [hg]; exact (below_size (by repeat (first | (with_reducible first | exact HB.out | apply below_alloc | apply pw_below_drewN | apply below_drew1 | refine below_set ?_ ah.out) | exact HB.out))) : w.heap.size ≤ ab)); have aC := aj ((by rw [hg]; exact Nat.ne_of_lt (blk_lt (g := af) (o := .cells #[.int .u64 0, .int .u64 0] 36 (0, 0)) aa.out) : af ≠ ab)); have aE := aj ((by rw [hg]; exact Nat.ne_of_gt (blk_lt (g := af) (o := .cells #[.int .u64 0, .int .u64 0] 36 (0, 0)) aa.out) : ab ≠ af)); clear ac; clear ag; clear aa; clear HB; have ac := ai; have ag := ak; have aa := ap; have HB := ao; have ad := aw; have av := az; have ae := aC; have aD := aE; clear ai ak ap ao aw az aC aE; clear hb hbox hg; have eB := aD.out; have eC := ae.out; have eg : bq.cell? ⟨ab, 0, none⟩ = some (.int .i64 0) := bq_ ad 0; have eh : bq.cell? ⟨ab, 1, none⟩ = some (.int .i64 0) := bq_ ad 1; have ei : bq.cell? ⟨ab, 2, none⟩ = some (.int .i64 0) := bq_ ad 2; have ej : bq.cell? ⟨ab, 3, none⟩ = some (.slice none 0 0) := bq_ ad 3; have ek := blk_frozen ad.out 0; have el := blk_frozen ad.out 1; have em := blk_frozen ad.out 2; have en := blk_frozen ad.out 3; obtain ⟨a8, a3, cl⟩ := Kd.S_slice ag.out; subst cl) | ((with_reducible refine gate_callee (f := 23) rfl ?_); refine goesL_ (some 15) rfl rfl Tryd.func23 (by kernel_rfl) rfl #[.agg #[.int .i64 am, .int .i64 al, .int .i64 aq, .slice a8 ar.length a3], .int .i64 1] rfl (by (try simp only [List.map_toArray, List.map_cons, List.map_nil]); first | done | rfl | (go_simp; done)) ?_; (with_reducible refine (tree_Path.calls k am al aq _ _ ar 1 aI aQ _ ?side1 ?side2 ?side3 A2.out).mono ?_); (case side1 => refine (Kd.S_reads' (e := 22) (base := w.heap.size) (ok := fun k_ => ((True ∧ some k_ ≠ (.slice bH aH.length bI : Value).ownBlock) ∧ k_ ≠ af)) (n := ar.length) (c := a3) ?_).2.2; exact (by (with_reducible repeat (first | apply Kd.S_alloc | apply Kd.S_drewN | apply Kd.S_drew)); exact (Kd.S_mono (Kd.S_far (p := ⟨ab, 3, none⟩) (Kd.S_far (p := ⟨ab, 2, none⟩) (Kd.S_far (p := ⟨ab, 1, none⟩) (Kd.S_far (p := ⟨ab, 0, none⟩) (Kd.S_types ag.out ad.out (by decide)) (fun _ hk => hk.2) (.int .i64 am)) (fun _ hk => hk.2) (.int .i64 al)) (fun _ hk => hk.2) (.int .i64 aq)) (fun _ hk => hk.2) (.slice a8 ar.length a3)) (fun _ h_ => h_.1)))); (case side2 => exact (Kd.S_reads' ag.out).2.1); (case side3 => exact GL.below HRG.out (by repeat (first | (with_reducible first | exact HB.out | apply below_alloc | apply pw_below_drewN | apply below_drew1 | refine below_set ?_ ah.out | refine below_set ?_ av.out) | exact HB.out))); rintro e e0 ⟨bc, rfl, ho0, hb⟩; refine ⟨_, rfl, ?_⟩; have ai := aj (Kd.R_elder' (by (with_reducible repeat (first | apply Kd.R_alloc | apply Kd.R_drewN | apply Kd.R_drew)); exact (Kd.R_mono (Kd.R_far (p := ⟨ab, 3, none⟩) (Kd.R_far (p := ⟨ab, 2, none⟩) (Kd.R_far (p := ⟨ab, 1, none⟩) (Kd.R_far (p := ⟨ab, 0, none⟩) (Kd.R_types ac.out ad.out (by decide)) (fun _ hk => hk.2) (.int .i64 am)) (fun _ hk => hk.2) (.int .i64 al)) (fun _ hk => hk.2) (.int .i64 aq)) (fun _ hk => hk.2) (.slice a8 ar.length a3)) (fun _ h_ => h_.1))) (Kd.R_base ho0) hb); have ak := aj (Kd.S_elder' (by (with_reducible repeat (first | apply Kd.S_alloc | apply Kd.S_drewN | apply Kd.S_drew)); exact (Kd.S_mono (Kd.S_far (p := ⟨ab, 3, none⟩) (Kd.S_far (p := ⟨ab, 2, none⟩) (Kd.S_far (p := ⟨ab, 1, none⟩) (Kd.S_far (p := ⟨ab, 0, none⟩) (Kd.S_types ag.out ad.out (by decide)) (fun _ hk => hk.2) (.int .i64 am)) (fun _ hk => hk.2) (.int .i64 al)) (fun _ hk => hk.2) (.int .i64 aq)) (fun _ hk => hk.2) (.slice a8 ar.length a3)) (fun _ h_ => h_.1))) (Kd.R_base ho0) hb); have ap := aj (Kd.R_lower (Kd.R_newB (Kd.R_new' ho0 (Kd.R_lt (by (with_reducible repeat (first | apply Kd.R_alloc | apply Kd.R_drewN | apply Kd.R_drew)); exact (Kd.R_mono (Kd.R_far (p := ⟨ab, 3, none⟩) (Kd.R_far (p := ⟨ab, 2, none⟩) (Kd.R_far (p := ⟨ab, 1, none⟩) (Kd.R_far (p := ⟨ab, 0, none⟩) (Kd.R_types ac.out ad.out (by decide)) (fun _ hk => hk.2) (.int .i64 am)) (fun _ hk => hk.2) (.int .i64 al)) (fun _ hk => hk.2) (.int .i64 aq)) (fun _ hk => hk.2) (.slice a8 ar.length a3)) (fun _ h_ => h_.1))))) (g := af) (o := .cells #[.int .u64 0, .int .u64 0] 36 (0, 0)) (by refine blk_far ?_ ae.out _; refine blk_far ?_ ae.out _; refine blk_far ?_ ae.out _; refine blk_far ?_ ae.out _; exact aa.out)) (below_size (by repeat (first | (with_reducible first | exact HB.out | apply below_alloc | apply pw_below_drewN | apply below_drew1 | refine below_set ?_ ah.out | refine below_set ?_ av.out) | exact HB.out)))); have ao := aj (blk_below (g := af) (o := .cells #[.int .u64 0, .int .u64 0] 36 (0, 0)) (by refine blk_far ?_ ae.out _; refine blk_far ?_ ae.out _; refine blk_far ?_ ae.out _; refine blk_far ?_ ae.out _; exact aa.out) hb); have aw := aj (blk_below (g := ab) (o := .cells #[.int .i64 am, .int .i64 al, .int .i64 aq, .slice a8 ar.length a3] 26 (0, 0)) (by refine blk_put (cs := #[.int .i64 am, .int .i64 al, .int .i64 aq, .slice none 0 0]) ?_ 3 _ rfl; refine blk_put (cs := #[.int .i64 am, .int .i64 al, .int .i64 0, .slice none 0 0]) ?_ 2 _ rfl; refine blk_put (cs := #[.int .i64 am, .int .i64 0, .int .i64 0, .slice none 0 0]) ?_ 1 _ rfl; refine blk_put (cs := #[.int .i64 0, .int .i64 0, .int .i64 0, .slice none 0 0]) ?_ 0 _ rfl; exact ad.out) hb); have aA := aj (below_step (by repeat (first | (with_reducible first | exact HB.out | apply below_alloc | apply pw_below_drewN | apply below_drew1 | refine below_set ?_ ah.out | refine below_set ?_ av.out) | exact HB.out)) hb); clear ac; clear ag; clear aa; clear ad; clear HB; have ac := ai; have ag := ak; have au := ap; have aa := ao; have ad := aw; have HB := aA; clear ai ak ap ao aw aA; (try clear hb); (try clear hb2); (try clear hk); (try clear hi); (try clear ho0)))
   go_ret
   exact ⟨by first | rfl | (simp [errW_none, errW_some] <;> rfl) | (simp [*, errW_none, errW_some] <;> rfl), HB.out⟩
 ·rw [if_neg c3] at H
  have c3b0 : (aO == 0) = false := beq_eq_false_iff_ne.mpr c3
  have c3b1 : (aO != 0) = true := bne_iff_ne.mpr c3
  obtain rfl := Option.some.inj H
  go_enter Tryd.func21, Tryd.ntmps21
  go_wp2_with (first | ((with_reducible refine gate_dst (N := 1) rfl ?_); (try (refine gate_guard (by rfl) ?_; dsimp only)); refine box_event ?hg (N := 1) ?hd (cs := #[.int .u64 0, .int .u64 0]) (t := 36) ?hr ?_; (case hd => rfl); (case hg => rfl); (case hr => first | (go_simp; done) | (go_simp; rfl)); intro af hg bJ hbox hb; have ai := aj (below_step (by repeat (first | (with_reducible first | exact HB.out | apply below_alloc | apply pw_below_drewN | apply below_drew1) | exact HB.out)) hb); have ak := aj (hbox); have ao := aj ((by rw [hg]; exact (below_size (by repeat (first | (with_reducible first | exact HB.out | apply below_alloc | apply pw_below_drewN | apply below_drew1) | exact HB.out))) : w.heap.size ≤ af)); clear HB; have HB := ai; have aa := ak; have ah := ao; clear ai ak ao; clear hb hbox hg; have cm : bJ.cell? ⟨af, 0, none⟩ = some (.int .u64 0) := bq_ aa 0; have cn : bJ.cell? ⟨af, 1, none⟩ = some (.int .u64 0) := bq_ aa 1; have co := blk_frozen aa.out 0; have cp := blk_frozen aa.out 1) | ((with_reducible refine gate_dst (N := 9) rfl ?_); (try (refine gate_guard (by rfl) ?_; dsimp only)); refine Kd.R_lit k36 _ 36 ?hg (N := 9) ?hd (xs := ([(⟨0, 0⟩ : S36), (⟨0, 0⟩ : S36)] : List (S36))) (inner := [.int .u64 0, .int .u64 0, .int .u64 0, .int .u64 0]) (ok := fun _ => True) (okp := fun _ => True) ?hr ?hp (fun _ hk => hk) trivial (Below.refl _ _) (Nat.le_refl _) (by simp) ?_; (case hd => rfl); (case hg => rfl); (case hr => first | (go_simp; done) | (go_simp; rfl)); (case hp => exact (Reps.c2 (show Kd.M k36 _ _ _ (⟨0, 0⟩ : S36) [.int .u64 0, .int .u64 0] from (k36_mkM _ _ _ (⟨0, 0⟩ : S36) )) (Reps.c2 (show Kd.M k36 _ _ _ (⟨0, 0⟩ : S36) [.int .u64 0, .int .u64 0] from (k36_mkM _ _ _ (⟨0, 0⟩ : S36) )) (Reps.none _ _)))); intro ba e1 ho104 hb hg_ hnew_; clear hg_ hnew_; (first | rw [← aM.out] at ho104 | (simp only [Int.reduceToNat] at ho104; rw [← aM.out] at ho104)); have ai := aj (Kd.R_lower (Kd.R_newB ho104 (g := af) (o := .cells #[.int .u64 0, .int .u64 0] 36 (0, 0)) aa.out) (below_size (by repeat (first | (with_reducible first | exact HB.out | apply below_alloc | apply pw_below_drewN | apply below_drew1 | refine below_set ?_ ah.out) | exact HB.out)))); have ak := aj (blk_below (g := af) (o := .cells #[.int .u64 0, .int .u64 0] 36 (0, 0)) aa.out hb); have ap := aj (below_step (by repeat (first | (with_reducible first | exact HB.out | apply below_alloc | apply pw_below_drewN | apply below_drew1 | refine below_set ?_ ah.out) | exact HB.out)) hb); clear aa; clear HB; have ac := ai; have aa := ak; have HB := ap; clear ai ak ap; clear hb ho104; obtain ⟨br, bs, bK⟩ := Kd.R_slice ac.out; subst bK) | ((with_reducible refine gate_callee (f := 13) rfl ?_); refine goesL_ (some 10) rfl rfl Tryd.func13 (by kernel_rfl) rfl #[.int .i64 0, .slice br aH.length bs, .int .i64 0] rfl (by (try simp only [List.map_toArray, List.map_cons, List.map_nil]); first | done | rfl | (go_simp; done)) ?_; (with_reducible refine (tree_Build.calls k 0 _ _ aH 0 am al aq ar aO _ ?side1 ?side2 ?side3 A1.out).mono ?_); (case side1 => exact (Kd.R_reads' ac.out).2.2); (case side2 => exact (Kd.R_reads' ac.out).2.1); (case side3 => repeat (first | exact (GL.below HRG.out HB.out) | (with_reducible refine GL.alloc ?_ _) | (with_reducible refine GL.drewN ?_ _) | (with_reducible refine GL.drew ?_))); rintro e e2 ⟨bb, rfl, ho0, hb⟩; refine ⟨_, rfl, ?_⟩; have ai := aj (Kd.R_below (ac.out) hb); have ak := aj (Kd.S_lower (Kd.S_newB (Kd.S_new' ho0 (Kd.R_lt (ac.out))) (g := af) (o := .cells #[.int .u64 0, .int .u64 0] 36 (0, 0)) aa.out) (below_size (by repeat (first | (with_reducible first | exact HB.out | apply below_alloc | apply pw_below_drewN | apply below_drew1 | refine below_set ?_ ah.out) | exact HB.out)))); have ap := aj (blk_below (g := af) (o := .cells #[.int .u64 0, .int .u64 0] 36 (0, 0)) aa.out hb); have ao := aj (below_step (by repeat (first | (with_reducible first | exact HB.out | apply below_alloc | apply pw_below_drewN | apply below_drew1 | refine below_set ?_ ah.out) | exact HB.out)) hb); clear ac; clear aa; clear HB; have ac := ai; have ag := ak; have aa := ap; have HB := ao; clear ai ak ap ao; (try clear hb); (try clear hb2); (try clear hk); (try clear hi); (try clear ho0)) | ((with_reducible refine gate_dst (N := 2) rfl ?_); (try (refine gate_guard (by rfl) ?_; dsimp only)); refine box_event ?hg (N := 2) ?hd (cs := #[.int .i64 0, .int .i64 0, .int .i64 0, .slice none 0 0]) (t := 26) ?hr ?_; (case hd => rfl); (case hg => rfl); (case hr => first | (go_simp; done) | (go_simp; rfl)); intro ab hg be hbox hb; have ai := aj (Kd.R_below (ac.out) hb); have ak := aj (Kd.S_below (ag.out) hb); have ap := aj (blk_below (g := af) (o := .cells #[.int .u64 0, .int .u64 0] 36 (0, 0)) aa.out hb); have ao := aj (below_step (by repeat (first | (with_reducible first | exact HB.out | apply below_alloc | apply pw_below_drewN | apply below_drew1 | refine below_set ?_ ah.out) | exact HB.out)) hb); have aw := aj (hbox); have az := aj ((by rw [hg]; exact (below_size (by repeat (first | (with_reducible first | exact HB.out | apply below_alloc | apply pw_below_drewN | apply below_drew1 | refine below_set ?_ ah.out) | exact HB.out))) : w.heap.size ≤ ab)); have aC := aj ((by rw [hg]; exact Nat.ne_of_lt (blk_lt (g := af) (o := .cells #[.int .u64 0, .int .u64 0] 36 (0, 0)) aa.out) : af ≠ ab)); have aE := aj ((by rw [hg]; exact Nat.ne_of_gt (blk_lt (g := af) (o := .cells #[.int .u64 0, .int .u64 0] 36 (0, 0)) aa.out) : ab ≠ af)); clear ac; clear ag; clear aa; clear HB; have ac := ai; have ag := ak; have aa := ap; have HB := ao; have ad := aw; have av := az; have ae := aC; have aD := aE; clear ai ak ap ao aw az aC aE; clear hb hbox hg; have ep := aD.out; have eq := ae.out; have cq : be.cell? ⟨ab, 0, none⟩ = some (.int .i64 0) := bq_ ad 0; have cr : be.cell? ⟨ab, 1, none⟩ = some (.int .i64 0) := bq_ ad 1; have ct : be.cell? ⟨ab, 2, none⟩ = some (.int .i64 0) := bq_ ad 2; have cu : be.cell? ⟨ab, 3, none⟩ = some (.slice none 0 0) := bq_ ad 3; have cv := blk_frozen ad.out 0; have cw := blk_frozen ad.out 1; have cx := blk_frozen ad.out 2; have cy := blk_frozen ad.out 3; obtain ⟨a1, aX, bL⟩ := Kd.S_slice ag.out; subst bL) | ((with_reducible refine gate_callee (f := 23) rfl ?_); refine goesL_ (some 15) rfl rfl Tryd.func23 (by kernel_rfl) rfl #[.agg #[.int .i64 am, .int .i64 al, .int .i64 aq, .slice a1 ar.length aX], .int .i64 1] rfl (by (try simp only [List.map_toArray, List.map_cons, List.map_nil]); first | done | rfl | (go_simp; done)) ?_; (with_reducible refine (tree_Path.calls k am al aq _ _ ar 1 aI aQ _ ?side1 ?side2 ?side3 A2.out).mono ?_); (case side1 => refine (Kd.S_reads' (e := 22) (base := w.heap.size) (ok := fun k_ => ((True ∧ some k_ ≠ (.slice br aH.length bs : Value).ownBlock) ∧ k_ ≠ af)) (n := ar.length) (c := aX) ?_).2.2; exact (by (with_reducible repeat (first | apply Kd.S_alloc | apply Kd.S_drewN | apply Kd.S_drew)); exact (Kd.S_mono (Kd.S_far (p := ⟨ab, 3, none⟩) (Kd.S_far (p := ⟨ab, 2, none⟩) (Kd.S_far (p := ⟨ab, 1, none⟩) (Kd.S_far (p := ⟨ab, 0, none⟩) (Kd.S_types ag.out ad.out (by decide)) (fun _ hk => hk.2) (.int .i64 am)) (fun _ hk => hk.2) (.int .i64 al)) (fun _ hk => hk.2) (.int .i64 aq)) (fun _ hk => hk.2) (.slice a1 ar.length aX)) (fun _ h_ => h_.1)))); (case side2 => exact (Kd.S_reads' ag.out).2.1); (case side3 => exact GL.below HRG.out (by repeat (first | (with_reducible first | exact HB.out | apply below_alloc | apply pw_below_drewN | apply below_drew1 | refine below_set ?_ ah.out | refine below_set ?_ av.out) | exact HB.out))); rintro e e3 ⟨bc, rfl, ho0, hb⟩; refine ⟨_, rfl, ?_⟩; have ai := aj (Kd.R_elder' (by (with_reducible repeat (first | apply Kd.R_alloc | apply Kd.R_drewN | apply Kd.R_drew)); exact (Kd.R_mono (Kd.R_far (p := ⟨ab, 3, none⟩) (Kd.R_far (p := ⟨ab, 2, none⟩) (Kd.R_far (p := ⟨ab, 1, none⟩) (Kd.R_far (p := ⟨ab, 0, none⟩) (Kd.R_types ac.out ad.out (by decide)) (fun _ hk => hk.2) (.int .i64 am)) (fun _ hk => hk.2) (.int .i64 al)) (fun _ hk => hk.2) (.int .i64 aq)) (fun _ hk => hk.2) (.slice a1 ar.length aX)) (fun _ h_ => h_.1))) (Kd.R_base ho0) hb); have ak := aj (Kd.S_elder' (by (with_reducible repeat (first | apply Kd.S_alloc | apply Kd.S_drewN | apply Kd.S_drew)); exact (Kd.S_mono (Kd.S_far (p := ⟨ab, 3, none⟩) (Kd.S_far (p := ⟨ab, 2, none⟩) (Kd.S_far (p := ⟨ab, 1, none⟩) (Kd.S_far (p := ⟨ab, 0, none⟩) (Kd.S_types ag.out ad.out (by decide)) (fun _ hk => hk.2) (.int .i64 am)) (fun _ hk => hk.2) (.int .i64 al)) (fun _ hk => hk.2) (.int .i64 aq)) (fun _ hk => hk.2) (.slice a1 ar.length aX)) (fun _ h_ => h_.1))) (Kd.R_base ho0) hb); have ap := aj (Kd.R_lower (Kd.R_newB (Kd.R_new' ho0 (Kd.R_lt (by (with_reducible repeat (first | apply Kd.R_alloc | apply Kd.R_drewN | apply Kd.R_drew)); exact (Kd.R_mono (Kd.R_far (p := ⟨ab, 3, none⟩) (Kd.R_far (p := ⟨ab, 2, none⟩) (Kd.R_far (p := ⟨ab, 1, none⟩) (Kd.R_far (p := ⟨ab, 0, none⟩) (Kd.R_types ac.out ad.out (by decide)) (fun _ hk => hk.2) (.int .i64 am)) (fun _ hk => hk.2) (.int .i64 al)) (fun _ hk => hk.2) (.int .i64 aq)) (fun _ hk => hk.2) (.slice a1 ar.length aX)) (fun _ h_ => h_.1))))) (g := af) (o := .cells #[.int .u64 0, .int .u64 0] 36 (0, 0)) (by refine blk_far ?_ ae.out _; refine blk_far ?_ ae.out _; refine blk_far ?_ ae.out _; refine blk_far ?_ ae.out _; exact aa.out)) (below_size (by repeat (first | (with_reducible first | exact HB.out | apply below_alloc | apply pw_below_drewN | apply below_drew1 | refine below_set ?_ ah.out | refine below_set ?_ av.out) | exact HB.out)))); have ao := aj (blk_below (g := af) (o := .cells #[.int .u64 0, .int .u64 0] 36 (0, 0)) (by refine blk_far ?_ ae.out _; refine blk_far ?_ ae.out _; refine blk_far ?_ ae.out _; refine blk_far ?_ ae.out _; exact aa.out) hb); have aw := aj (blk_below (g := ab) (o := .cells #[.int .i64 am, .int .i64 al, .int .i64 aq, .slice a1 ar.length aX] 26 (0, 0)) (by refine blk_put (cs := #[.int .i64 am, .int .i64 al, .int .i64 aq, .slice none 0 0]) ?_ 3 _ rfl; refine blk_put (cs := #[.int .i64 am, .int .i64 al, .int .i64 0, .slice none 0 0]) ?_ 2 _ rfl; refine blk_put (cs := #[.int .i64 am, .int .i64 0, .int .i64 0, .slice none 0 0]) ?_ 1 _ rfl; refine blk_put (cs := #[.int .i64 0, .int .i64 0, .int .i64 0, .slice none 0 0]) ?_ 0 _ rfl; exact ad.out) hb); have aA := aj (below_step (by repeat (first | (with_reducible first | exact HB.out | apply below_alloc | apply pw_below_drewN | apply below_drew1 | refine below_set ?_ ah.out | refine below_set ?_ av.out) | exact HB.out)) hb); clear ac; clear ag; clear aa; clear ad; clear HB; have ac := ai; have ag := ak; have au := ap; have aa := ao; have ad := aw; have HB := aA; clear ai ak ap ao aw aA; (try clear hb); (try clear hb2); (try clear hk); (try clear hi); (try clear ho0)))
  go_ret
  exact ⟨by first | rfl | (simp [errW_none, errW_some] <;> rfl) | (simp [*, errW_none, errW_some] <;> rfl), HB.out⟩

end Go.Proofs.YtpnpmeogffodgaaDoor.Q
end
section
namespace Go.Proofs.YtpnpmeogffodgaaDoor.Q
open Go.RowKit Go.Proofs.YtpnpmeogffodgaaDoorW.PrintWords Go.Proofs.YtpnpmeogffodgaaDoorW.PrintLast Go.Proofs.YtpnpmeogffodgaaDoorW.PrintMore
attribute [local go_sem] max2_int min2_int max_two min_two max_three min_three max_four min_four run_store_fnV run_store_fnc run_store_nfn   -- for this text's walks alone
set_option linter.unusedVariables false
set_option linter.unusedSimpArgs false

/-! ### attestorref07_Proper: function 49 -/
def attestorref07_Proper.f (a0 : Int) (a1_0 : Int) (a1_1 : Int) : Option (Bool) := (attestorref01_P.f a0).bind fun t231 => (if a1_0 < t231 then (some (decide (a1_1 < t231))) else (some false))
set_option maxHeartbeats 8000000 in
set_option maxRecDepth 100000 in
theorem attestorref07_Proper.calls (a0 : Int) (a1_0 : Int) (a1_1 : Int) (r : Bool) (w : World) (h : attestorref07_Proper.f a0 a1_0 a1_1 = some r) :
    Calls Tryd.prog 49 #[.int .i64 a0, .agg #[.int .u64 a1_0, .int .u64 a1_1]] w fun e w' => e = .returned (.bool r) ∧ Below w.heap.size w w' := by
  have hu36 := Tryd.underlying36
  have HB := Aside0.mk (Below.refl w.heap.size w)
  have H : ((attestorref01_P.f a0).bind fun t231 => (if a1_0 < t231 then (some (decide (a1_1 < t231))) else (some false))) = some r := h
  clear h
  replace H := Option.bind_eq_some_iff.mp H
  obtain ⟨t231, A30, H⟩ := H
  replace H : (if a1_0 < t231 then (some (decide (a1_1 < t231))) else (some false)) = some r := H
  have A3 := Aside0.mk A30
  clear A30
  by_cases c4 : a1_0 < t231
  · rw [if_pos c4] at H
    have c4b0 : decide (a1_0 < t231) = true := decide_eq_true c4
    clear c4
    obtain rfl := Option.some.inj H
    go_enter Tryd.func49, Tryd.ntmps49
    go_wp2_with (first | ((with_reducible refine gate_dst (N := 3) rfl ?_); refine box_event ?hg (N := 3) ?hd (cs := #[.int .u64 a1_0, .int .u64 a1_1]) (t := 36) ?hr ?_; (case hd => rfl); (case hg => rfl); (case hr => first | (go_simp; done) | (go_simp; rfl)); intro gb230 hg w5 hbox hb; have n0_ := Aside0.mk (below_step (by repeat (first | (with_reducible first | exact HB.out | apply below_alloc | apply pw_below_drewN | apply below_drew1) | exact HB.out)) hb); have n1_ := Aside0.mk (hbox); have n2_ := Aside0.mk ((by rw [hg]; exact (below_size (by repeat (first | (with_reducible first | exact HB.out | apply below_alloc | apply pw_below_drewN | apply below_drew1) | exact HB.out))) : w.heap.size ≤ gb230)); have n3_ := Aside0.mk ((by rw [hg]; exact (below_size (by repeat (first | (with_reducible first | exact HB.out | apply below_alloc | apply pw_below_drewN | apply below_drew1) | exact HB.out))) : w.heap.size ≤ gb230)); clear HB; have HB := n0_; have BK230 := n1_; have GW230 := n2_; have GE230 := n3_; clear n0_ n1_ n2_ n3_; clear hb hbox hg; have hcz6_0 : w5.cell? ⟨gb230, 0, none⟩ = some (.int .u64 a1_0) := (blk_cell BK230.out 0).trans rfl; have hcz6_1 : w5.cell? ⟨gb230, 1, none⟩ = some (.int .u64 a1_1) := (blk_cell BK230.out 1).trans rfl; have hfz6_0 := blk_frozen BK230.out 0; have hfz6_1 := blk_frozen BK230.out 1) | (go_at_call 34; (with_reducible refine (attestorref01_P.calls a0 t231 _ A3.out).mono ?_); rintro e w' ⟨rfl, ⟨nd, rfl⟩⟩; (try first | exact ⟨rfl, _, World.drewN_drewN _ _ _⟩ | exact ⟨rfl, _, Eq.trans (World.drewN_drewN _ _ _) (congrArg (World.drewN _) (Nat.add_assoc _ _ _))⟩)))
    repeat (go_quiet (first | ((with_reducible refine gate_dst (N := 3) rfl ?_); refine box_event ?hg (N := 3) ?hd (cs := #[.int .u64 a1_0, .int .u64 a1_1]) (t := 36) ?hr ?_; (case hd => rfl); (case hg => rfl); (case hr => first | (go_simp; done) | (go_simp; rfl)); intro gb230 hg w5 hbox hb; have n0_ := Aside0.mk (below_step (by repeat (first | (with_reducible first | exact HB.out | apply below_alloc | apply pw_below_drewN | apply below_drew1) | exact HB.out)) hb); have n1_ := Aside0.mk (hbox); have n2_ := Aside0.mk ((by rw [hg]; exact (below_size (by repeat (first | (with_reducible first | exact HB.out | apply below_alloc | apply pw_below_drewN | apply below_drew1) | exact HB.out))) : w.heap.size ≤ gb230)); have n3_ := Aside0.mk ((by rw [hg]; exact (below_size (by repeat (first | (with_reducible first | exact HB.out | apply below_alloc | apply pw_below_drewN | apply below_drew1) | exact HB.out))) : w.heap.size ≤ gb230)); clear HB; have HB := n0_; have BK230 := n1_; have GW230 := n2_; have GE230 := n3_; clear n0_ n1_ n2_ n3_; clear hb hbox hg; have hcz6_0 : w5.cell? ⟨gb230, 0, none⟩ = some (.int .u64 a1_0) := (blk_cell BK230.out 0).trans rfl; have hcz6_1 : w5.cell? ⟨gb230, 1, none⟩ = some (.int .u64 a1_1) := (blk_cell BK230.out 1).trans rfl; have hfz6_0 := blk_frozen BK230.out 0; have hfz6_1 := blk_frozen BK230.out 1) | (go_at_call 34; (with_reducible refine (attestorref01_P.calls a0 t231 _ A3.out).mono ?_); rintro e w' ⟨rfl, ⟨nd, rfl⟩⟩; (try first | exact ⟨rfl, _, World.drewN_drewN _ _ _⟩ | exact ⟨rfl, _, Eq.trans (World.drewN_drewN _ _ _) (congrArg (World.drewN _) (Nat.add_assoc _ _ _))⟩))); try go_wp2_with (first | ((with_reducible refine gate_dst (N := 3) rfl ?_); refine box_event ?hg (N := 3) ?hd (cs := #[.int .u64 a1_0, .int .u64 a1_1]) (t := 36) ?hr ?_; (case hd => rfl); (case hg => rfl); (case hr => first | (go_simp; done) | (go_simp; rfl)); intro gb230 hg w5 hbox hb; have n0_ := Aside0.mk (below_step (by repeat (first | (with_reducible first | exact HB.out | apply below_alloc | apply pw_below_drewN | apply below_drew1) | exact HB.out)) hb); have n1_ := Aside0.mk (hbox); have n2_ := Aside0.mk ((by rw [hg]; exact (below_size (by repeat (first | (with_reducible first | exact HB.out | apply below_alloc | apply pw_below_drewN | apply below_drew1) | exact HB.out))) : w.heap.size ≤ gb230)); have n3_ := Aside0.mk ((by rw [hg]; exact (below_size (by repeat (first | (with_reducible first | exact HB.out | apply below_alloc | apply pw_below_drewN | apply below_drew1) | exact HB.out))) : w.heap.size ≤ gb230)); clear HB; have HB := n0_; have BK230 := n1_; have GW230 := n2_; have GE230 := n3_; clear n0_ n1_ n2_ n3_; clear hb hbox hg; have hcz6_0 : w5.cell? ⟨gb230, 0, none⟩ = some (.int .u64 a1_0) := (blk_cell BK230.out 0).trans rfl; have hcz6_1 : w5.cell? ⟨gb230, 1, none⟩ = some (.int .u64 a1_1) := (blk_cell BK230.out 1).trans rfl; have hfz6_0 := blk_frozen BK230.out 0; have hfz6_1 := blk_frozen BK230.out 1) | (go_at_call 34; (with_reducible refine (attestorref01_P.calls a0 t231 _ A3.out).mono ?_); rintro e w' ⟨rfl, ⟨nd, rfl⟩⟩; (try first | exact ⟨rfl, _, World.drewN_drewN _ _ _⟩ | exact ⟨rfl, _, Eq.trans (World.drewN_drewN _ _ _) (congrArg (World.drewN _) (Nat.add_assoc _ _ _))⟩))))
    go_ret
    exact ⟨by first | rfl | (simp [errW_none, errW_some] <;> rfl) | (simp [*, errW_none, errW_some] <;> rfl), by repeat (first | (with_reducible first | exact HB.out | apply below_alloc | apply pw_below_drewN | apply below_drew1 | refine below_set ?_ GE230.out) | exact HB.out)⟩
  · rw [if_neg c4] at H
    have c4b0 : decide (a1_0 < t231) = false := decide_eq_false c4
    clear c4
    obtain rfl := Option.some.inj H
    go_enter Tryd.func49, Tryd.ntmps49
    go_wp2_with (first | ((with_reducible refine gate_dst (N := 3) rfl ?_); refine box_event ?hg (N := 3) ?hd (cs := #[.int .u64 a1_0, .int .u64 a1_1]) (t := 36) ?hr ?_; (case hd => rfl); (case hg => rfl); (case hr => first | (go_simp; done) | (go_simp; rfl)); intro gb230 hg w7 hbox hb; have n0_ := Aside0.mk (below_step (by repeat (first | (with_reducible first | exact HB.out | apply below_alloc | apply pw_below_drewN | apply below_drew1) | exact HB.out)) hb); have n1_ := Aside0.mk (hbox); have n2_ := Aside0.mk ((by rw [hg]; exact (below_size (by repeat (first | (with_reducible first | exact HB.out | apply below_alloc | apply pw_below_drewN | apply below_drew1) | exact HB.out))) : w.heap.size ≤ gb230)); have n3_ := Aside0.mk ((by rw [hg]; exact (below_size (by repeat (first | (with_reducible first | exact HB.out | apply below_alloc | apply pw_below_drewN | apply below_drew1) | exact HB.out))) : w.heap.size ≤ gb230)); clear HB; have HB := n0_; have BK230 := n1_; have GW230 := n2_; have GE230 := n3_; clear n0_ n1_ n2_ n3_; clear hb hbox hg; have hcz8_0 : w7.cell? ⟨gb230, 0, none⟩ = some (.int .u64 a1_0) := (blk_cell BK230.out 0).trans rfl; have hcz8_1 : w7.cell? ⟨gb230, 1, none⟩ = some (.int .u64 a1_1) := (blk_cell BK230.out 1).trans rfl; have hfz8_0 := blk_frozen BK230.out 0; have hfz8_1 := blk_frozen BK230.out 1) | (go_at_call 34; (with_reducible refine (attestorref01_P.calls a0 t231 _ A3.out).mono ?_); rintro e w' ⟨rfl, ⟨nd, rfl⟩⟩; (try first | exact ⟨rfl, _, World.drewN_drewN _ _ _⟩ | exact ⟨rfl, _, Eq.trans (World.drewN_drewN _ _ _) (congrArg (World.drewN _) (Nat.add_assoc _ _ _))⟩)))
    repeat (go_quiet (first | ((with_reducible refine gate_dst (N := 3) rfl ?_); refine box_event ?hg (N := 3) ?hd (cs := #[.int .u64 a1_0, .int .u64 a1_1]) (t := 36) ?hr ?_; (case hd => rfl); (case hg => rfl); (case hr => first | (go_simp; done) | (go_simp; rfl)); intro gb230 hg w7 hbox hb; have n0_ := Aside0.mk (below_step (by repeat (first | (with_reducible first | exact HB.out | apply below_alloc | apply pw_below_drewN | apply below_drew1) | exact HB.out)) hb); have n1_ := Aside0.mk (hbox); have n2_ := Aside0.mk ((by rw [hg]; exact (below_size (by repeat (first | (with_reducible first | exact HB.out | apply below_alloc | apply pw_below_drewN | apply below_drew1) | exact HB.out))) : w.heap.size ≤ gb230)); have n3_ := Aside0.mk ((by rw [hg]; exact (below_size (by repeat (first | (with_reducible first | exact HB.out | apply below_alloc | apply pw_below_drewN | apply below_drew1) | exact HB.out))) : w.heap.size ≤ gb230)); clear HB; have HB := n0_; have BK230 := n1_; have GW230 := n2_; have GE230 := n3_; clear n0_ n1_ n2_ n3_; clear hb hbox hg; have hcz8_0 : w7.cell? ⟨gb230, 0, none⟩ = some (.int .u64 a1_0) := (blk_cell BK230.out 0).trans rfl; have hcz8_1 : w7.cell? ⟨gb230, 1, none⟩ = some (.int .u64 a1_1) := (blk_cell BK230.out 1).trans rfl; have hfz8_0 := blk_frozen BK230.out 0; have hfz8_1 := blk_frozen BK230.out 1) | (go_at_call 34; (with_reducible refine (attestorref01_P.calls a0 t231 _ A3.out).mono ?_); rintro e w' ⟨rfl, ⟨nd, rfl⟩⟩; (try first | exact ⟨rfl, _, World.drewN_drewN _ _ _⟩ | exact ⟨rfl, _, Eq.trans (World.drewN_drewN _ _ _) (congrArg (World.drewN _) (Nat.add_assoc _ _ _))⟩))); try go_wp2_with (first | ((with_reducible refine gate_dst (N := 3) rfl ?_); refine box_event ?hg (N := 3) ?hd (cs := #[.int .u64 a1_0, .int .u64 a1_1]) (t := 36) ?hr ?_; (case hd => rfl); (case hg => rfl); (case hr => first | (go_simp; done) | (go_simp; rfl)); intro gb230 hg w7 hbox hb; have n0_ := Aside0.mk (below_step (by repeat (first | (with_reducible first | exact HB.out | apply below_alloc | apply pw_below_drewN | apply below_drew1) | exact HB.out)) hb); have n1_ := Aside0.mk (hbox); have n2_ := Aside0.mk ((by rw [hg]; exact (below_size (by repeat (first | (with_reducible first | exact HB.out | apply below_alloc | apply pw_below_drewN | apply below_drew1) | exact HB.out))) : w.heap.size ≤ gb230)); have n3_ := Aside0.mk ((by rw [hg]; exact (below_size (by repeat (first | (with_reducible first | exact HB.out | apply below_alloc | apply pw_below_drewN | apply below_drew1) | exact HB.out))) : w.heap.size ≤ gb230)); clear HB; have HB := n0_; have BK230 := n1_; have GW230 := n2_; have GE230 := n3_; clear n0_ n1_ n2_ n3_; clear hb hbox hg; have hcz8_0 : w7.cell? ⟨gb230, 0, none⟩ = some (.int .u64 a1_0) := (blk_cell BK230.out 0).trans rfl; have hcz8_1 : w7.cell? ⟨gb230, 1, none⟩ = some (.int .u64 a1_1) := (blk_cell BK230.out 1).trans rfl; have hfz8_0 := blk_frozen BK230.out 0; have hfz8_1 := blk_frozen BK230.out 1) | (go_at_call 34; (with_reducible refine (attestorref01_P.calls a0 t231 _ A3.out).mono ?_); rintro e w' ⟨rfl, ⟨nd, rfl⟩⟩; (try first | exact ⟨rfl, _, World.drewN_drewN _ _ _⟩ | exact ⟨rfl, _, Eq.trans (World.drewN_drewN _ _ _) (congrArg (World.drewN _) (Nat.add_assoc _ _ _))⟩))))
    go_ret
    exact ⟨by first | rfl | (simp [errW_none, errW_some] <;> rfl) | (simp [*, errW_none, errW_some] <;> rfl), by repeat (first | (with_reducible first | exact HB.out | apply below_alloc | apply pw_below_drewN | apply below_drew1 | refine below_set ?_ GE230.out) | exact HB.out)⟩

end Go.Proofs.YtpnpmeogffodgaaDoor.Q
end
section
namespace Go.Proofs.YtpnpmeogffodgaaDoor.Q
open Go.RowKit Go.Proofs.YtpnpmeogffodgaaDoorW.PrintWords Go.Proofs.YtpnpmeogffodgaaDoorW.PrintLast Go.Proofs.YtpnpmeogffodgaaDoorW.PrintMore
attribute [local go_sem] max2_int min2_int max_two min_two max_three min_three max_four min_four run_store_fnV run_store_fnc run_store_nfn   -- for this text's walks alone
set_option linter.unusedVariables false
set_option linter.unusedSimpArgs false

/-! ### attestorref07_All: function 43 -/
def attestorref07_All.l0 : Nat → Int → List (S36) → Int → Option (Bool)
  | 0, _, _, _ => none
  | k + 1, x0, x1, x5 => if x5 < (x1.length : Int) then (if 0 ≤ x5 then ((attestorref07_Proper.f x0 ((rd_T36 x1 x5).f0) ((rd_T36 x1 x5).f1)).bind fun t233 => (if t233 = true then (attestorref07_All.l0 k x0 x1 (wrap64 (x5 + 1))) else (some false))) else (none)) else (some true)
def attestorref07_All.f (k : Nat) (a0 : Int) (l1 : List (S36)) : Option (Bool) := attestorref07_All.l0 k a0 l1 0
theorem attestorref07_All.mono_l : ∀ k, (∀ y0 y1 y2, LeO (attestorref07_All.l0 k y0 y1 y2) (attestorref07_All.l0 (k + 1) y0 y1 y2))
  | 0 => fun _ _ _ r h => by simp [attestorref07_All.l0] at h
  | k + 1 => by
    have ih0 := attestorref07_All.mono_l k
    · intro y0 y1 y2
      unfold attestorref07_All.l0
      repeat' first
      | (with_reducible exact ih0 _ _ _)
      | (with_reducible exact LeO.refl _)
      | (with_reducible exact LeO.none _)
      | (with_reducible refine LeO.ite ?_ ?_)
      | (with_reducible refine LeO.bind ?_ (fun _ => ?_))
      | exact ih0 _ _ _
      | exact LeO.none _
      | refine LeO.ite ?_ ?_
      | refine LeO.bind ?_ (fun _ => ?_)
theorem attestorref07_All.mono : ∀ a0 a1 k, LeO (attestorref07_All.f k a0 a1) (attestorref07_All.f (k + 1) a0 a1) := by
  intro a0 a1 k
  have ih0 := attestorref07_All.mono_l k
  unfold attestorref07_All.f
  repeat' first
      | (with_reducible exact ih0 _ _ _)
      | (with_reducible exact LeO.refl _)
      | (with_reducible exact LeO.none _)
      | (with_reducible refine LeO.ite ?_ ?_)
      | (with_reducible refine LeO.bind ?_ (fun _ => ?_))
      | exact ih0 _ _ _
      | exact LeO.none _
      | refine LeO.ite ?_ ?_
      | refine LeO.bind ?_ (fun _ => ?_)
set_option maxHeartbeats 8000000 in
set_option maxRecDepth 100000 in
theorem attestorref07_All.calls (k : Nat) (a0 : Int) (A1 : Option Addr) (c1 : Nat) (l1 : List (S36)) (r : Bool) (w : World) (hr1 : Kd.C k36 w A1 l1.length l1) (hc1 : l1.length ≤ c1) (h : attestorref07_All.f k a0 l1 = some r) :
    Calls Tryd.prog 43 #[.int .i64 a0, .slice A1 l1.length c1] w fun e w' => e = .returned (.bool r) ∧ Below w.heap.size w w' := by
  have hu36 := Tryd.underlying36
  have HR1 := Aside0.mk hr1
  have HC1 := Aside0.mk hc1
  clear hr1 hc1
  have HB := Aside0.mk (Below.refl w.heap.size w)
  have H : (attestorref07_All.l0 k a0 l1 0) = some r := h
  clear h
  have H' := Aside0.mk H
  clear H
  go_enter Tryd.func43, Tryd.ntmps43
  go_wp2
  go_loopg [5] k (fun kq v5 w' => ∃ (x5_1 : Int), v5 = .int .i64 x5_1 ∧ Aside0 (attestorref07_All.l0 kq a0 l1 x5_1 = some r) ∧ Aside0 (kq ≤ k) ∧ Aside0 (Below w.heap.size w w'))
  case atStart => exact ⟨(0), (by first | rfl | (simp; done) | (simp [*]; done) | (simp; rfl) | (simp; decide +kernel)), H', ⟨Nat.le_refl _⟩, ⟨by repeat (first | (with_reducible first | exact HB.out | apply below_alloc | apply pw_below_drewN | apply below_drew1) | exact HB.out)⟩⟩
  case round =>
    clear H'
    try clear c1
    try clear p2
    obtain ⟨x5_1, rfl, HA, HK1, HB⟩ := hrel
    cases gk with
    | zero => exact absurd HA.out (by simp [attestorref07_All.l0])
    | succ k1 =>
      have H := HA.out
      clear HA
      simp only [attestorref07_All.l0] at H
      by_cases c3 : x5_1 < (l1.length : Int)
      · rw [if_pos c3] at H
        have c3b0 : decide (x5_1 < (l1.length : Int)) = true := decide_eq_true c3
        clear c3
        by_cases c4 : 0 ≤ x5_1
        · rw [if_pos c4] at H
          have c4b0 : decide (0 ≤ x5_1) = true := decide_eq_true c4
          clear c4
          replace H := Option.bind_eq_some_iff.mp H
          obtain ⟨t233, A50, H⟩ := H
          replace H : (if t233 = true then (attestorref07_All.l0 k1 a0 l1 (wrap64 (x5_1 + 1))) else (some false)) = some r := H
          have A5 := Aside0.mk A50
          clear A50
          by_cases c6 : t233 = true
          · subst c6
            have H1 : (attestorref07_All.l0 k1 a0 l1 (wrap64 (x5_1 + 1))) = some r := by rw [if_pos rfl] at H; exact H
            clear H
            have H := H1
            clear H1
            have H' := Aside0.mk H
            clear H
            have p232 : 0 ≤ (x5_1 : Int) := of_decide_eq_true (by first | (with_reducible assumption) | assumption)
            have q232 : x5_1 < (l1.length : Int) := of_decide_eq_true (by first | (with_reducible assumption) | assumption)
            obtain ⟨ad232, e232, hx232_0, hx232_1⟩ := at_T36 HR1.out x5_1 p232 q232
            cases e232
            replace hx232_0 := (HB.out.cell (World.block_lt_of_cell? w _ hx232_0)).trans hx232_0
            replace hx232_1 := (HB.out.cell (World.block_lt_of_cell? w _ hx232_1)).trans hx232_1
            replace p232 := eq_true p232
            replace q232 := eq_true q232
            go_wp2_with (first | ((with_reducible refine gate_callee (f := 49) rfl ?_); refine goesL_ (some 17) rfl rfl Tryd.func49 (by kernel_rfl) rfl #[.int .i64 a0, .agg #[.int .u64 ((rd_T36 l1 x5_1).f0), .int .u64 ((rd_T36 l1 x5_1).f1)]] rfl (by (try simp only [List.map_toArray, List.map_cons, List.map_nil]); first | done | rfl | (simp only [List.length_drop, List.length_take]; rfl) | (go_simp; done) | (go_simp; rw [Int.tmod_eq_emod_of_nonneg (by omega)]; omega)) ?_; (with_reducible refine (attestorref07_Proper.calls a0 ((rd_T36 l1 x5_1).f0) ((rd_T36 l1 x5_1).f1) true _ A5.out).mono ?_); rintro e w7 ⟨rfl, hb⟩; refine ⟨_, rfl, ?_⟩; have n0_ := Aside0.mk (below_step (by repeat (first | (with_reducible first | exact HB.out | apply below_alloc | apply pw_below_drewN | apply below_drew1) | exact HB.out)) hb); clear HB; have HB := n0_; clear n0_; (try clear hb); (try clear hb2); (try clear hk); (try clear hi)))
            go_roundg k1
            case measure => have := HK1.out; omega
            case rel => exact ⟨(wrap64 (x5_1 + 1)), (by first | rfl | (simp; done) | (simp [*]; done) | (simp; rfl) | (simp; decide +kernel)), H', ⟨by have := HK1.out; omega⟩, ⟨by repeat (first | (with_reducible first | exact HB.out | apply below_alloc | apply pw_below_drewN | apply below_drew1) | exact HB.out)⟩⟩
          · replace c6 := Bool.eq_false_iff.mpr c6
            subst c6
            have H1 : (some false) = some r := by rw [if_neg (show ¬ (false = true) by decide)] at H; exact H
            clear H
            have H := H1
            clear H1
            obtain rfl := Option.some.inj H
            have p232 : 0 ≤ (x5_1 : Int) := of_decide_eq_true (by first | (with_reducible assumption) | assumption)
            have q232 : x5_1 < (l1.length : Int) := of_decide_eq_true (by first | (with_reducible assumption) | assumption)
            obtain ⟨ad232, e232, hx232_0, hx232_1⟩ := at_T36 HR1.out x5_1 p232 q232
            cases e232
            replace hx232_0 := (HB.out.cell (World.block_lt_of_cell? w _ hx232_0)).trans hx232_0
            replace hx232_1 := (HB.out.cell (World.block_lt_of_cell? w _ hx232_1)).trans hx232_1
            replace p232 := eq_true p232
            replace q232 := eq_true q232
            go_wp2_with (first | ((with_reducible refine gate_callee (f := 49) rfl ?_); refine goesL_ (some 17) rfl rfl Tryd.func49 (by kernel_rfl) rfl #[.int .i64 a0, .agg #[.int .u64 ((rd_T36 l1 x5_1).f0), .int .u64 ((rd_T36 l1 x5_1).f1)]] rfl (by (try simp only [List.map_toArray, List.map_cons, List.map_nil]); first | done | rfl | (simp only [List.length_drop, List.length_take]; rfl) | (go_simp; done) | (go_simp; rw [Int.tmod_eq_emod_of_nonneg (by omega)]; omega)) ?_; (with_reducible refine (attestorref07_Proper.calls a0 ((rd_T36 l1 x5_1).f0) ((rd_T36 l1 x5_1).f1) false _ A5.out).mono ?_); rintro e w8 ⟨rfl, hb⟩; refine ⟨_, rfl, ?_⟩; have n0_ := Aside0.mk (below_step (by repeat (first | (with_reducible first | exact HB.out | apply below_alloc | apply pw_below_drewN | apply below_drew1) | exact HB.out)) hb); clear HB; have HB := n0_; clear n0_; (try clear hb); (try clear hb2); (try clear hk); (try clear hi)))
            go_ret
            exact ⟨by first | rfl | (simp [errW_none, errW_some] <;> rfl) | (simp [*, errW_none, errW_some] <;> rfl), by repeat (first | (with_reducible first | exact HB.out | apply below_alloc | apply pw_below_drewN | apply below_drew1) | exact HB.out)⟩
        · rw [if_neg c4] at H
          exact absurd H (by simp)
      · rw [if_neg c3] at H
        have c3b0 : decide (x5_1 < (l1.length : Int)) = false := decide_eq_false c3
        clear c3
        obtain rfl := Option.some.inj H
        go_wp2
        go_ret
        exact ⟨by first | rfl | (simp [errW_none, errW_some] <;> rfl) | (simp [*, errW_none, errW_some] <;> rfl), by repeat (first | (with_reducible first | exact HB.out | apply below_alloc | apply pw_below_drewN | apply below_drew1) | exact HB.out)⟩

end Go.Proofs.YtpnpmeogffodgaaDoor.Q
end
section
namespace Go.Proofs.YtpnpmeogffodgaaDoor.Q
open Go.RowKit Go.Proofs.YtpnpmeogffodgaaDoorW.PrintWords Go.Proofs.YtpnpmeogffodgaaDoorW.PrintLast Go.Proofs.YtpnpmeogffodgaaDoorW.PrintMore
attribute [local go_sem] max2_int min2_int max_two min_two max_three min_three max_four min_four run_store_fnV run_store_fnc run_store_nfn   -- for this text's walks alone
set_option linter.unusedVariables false
set_option linter.unusedSimpArgs false

abbrev z44_0_ : Array Bool := #[false, false, false, false, false, false, false, false, false, false, false, false, false, false]
abbrev z44_1_ : Array Bool := #[true, false, false, false, false, false, false, false, false, false, false, false, false, false]
abbrev z44_2_ : Array Bool := #[true, true, false, false, false, false, false, false, false, false, false, false, false, false]
abbrev z44_3_ : Array Bool := #[true, true, false, true, false, false, false, false, false, false, false, false, false, false]
abbrev z44_4_ : Array Bool := #[true, true, false, true, false, false, true, false, false, false, false, false, false, false]
abbrev z44_5_ : Array Bool := #[true, true, false, true, false, false, true, true, false, false, false, false, false, false]
abbrev z44_6_ : Array Bool := #[true, true, false, true, false, false, true, true, false, true, false, false, false, false]
abbrev z44_7_ : Array Bool := #[true, true, true, true, false, false, true, true, false, true, false, false, false, false]
abbrev z44_8_ : Array Bool := #[true, true, true, true, true, false, true, true, false, true, false, false, false, false]
abbrev z44_9_ : Array Bool := #[true, true, true, true, true, false, true, true, true, true, false, false, false, false]
abbrev z44_10_ : Array Bool := #[true, true, true, true, true, false, true, true, true, true, true, false, false, false]
abbrev z44_11_ : Array Bool := #[true, true, true, true, true, true, true, true, true, true, true, false, false, false]
abbrev z44_12_ : Array Bool := #[true, true, true, true, true, true, true, true, true, true, true, true, false, false]
abbrev z44_13_ : Array Bool := #[true, true, true, true, true, true, true, true, true, true, true, true, true, false]
abbrev z44_14_ : Array Bool := #[true, true, true, true, true, true, true, true, true, true, true, true, true, true]
/-! ### attestorref06_Node: function 44 -/
def attestorref06_Node.f (k : Nat) (a0 : Int) (ae : Int) (af : Int) (ao : Int) (ap : Int) : Option (Int × Int) := (attestorref01_Valid.f a0).bind fun aY => (if aY = true then ((attestorref06_Perm.f k a0 ae af ao ap).bind fun aI => ((attestorref01_Add.f a0 aI.1 ae).bind fun aG => ((attestorref01_Add.f a0 aI.2.1 af).bind fun aK => (some (aG, aK))))) else (some (0, 0)))
theorem attestorref06_Node.mono : ∀ a0 a1 a2 a3 a4 k, LeO (attestorref06_Node.f k a0 a1 a2 a3 a4) (attestorref06_Node.f (k + 1) a0 a1 a2 a3 a4) := by
  intro a0 a1 a2 a3 a4 k
  unfold attestorref06_Node.f
  repeat' first
      | (with_reducible exact attestorref06_Perm.mono _ _ _ _ _ _)
      | (with_reducible exact LeO.refl _)
      | (with_reducible exact LeO.none _)
      | (with_reducible refine LeO.ite ?_ ?_)
      | (with_reducible refine LeO.bind ?_ (fun _ => ?_))
      | exact attestorref06_Perm.mono _ _ _ _ _ _
      | exact LeO.none _
      | refine LeO.ite ?_ ?_
      | refine LeO.bind ?_ (fun _ => ?_)
def attestorref06_Node.T4 : Bool × List (List Nat × List Nat) := (true, [([], []), ([], []), ([1], [1]), ([], []), ([3], [3]), ([0, 2, 4], [0, 2, 4]), ([], []), ([], []), ([7], [7]), ([], []), ([9], [9]), ([6, 8, 10, 5], [6, 8, 10]), ([5, 11], [5, 11]), ([12, 11, 0, 1, 2, 3, 4, 5, 6, 7, 8, 9, 10, 11, 12], [12])])
def attestorref06_Node.B4 : List Nat := [0, 0, 2, 0, 8, 31, 0, 0, 128, 0, 512, 2047, 4095, 8191]
theorem attestorref06_Node.tab4 : rtab .any (opsOf Tryd.f44 4) = attestorref06_Node.T4 := by kernel_rfl
theorem attestorref06_Node.bits4 : waitsOk attestorref06_Node.T4.2 attestorref06_Node.B4 = true := by kernel_rfl
set_option maxHeartbeats 8000000 in
set_option maxRecDepth 100000 in
theorem attestorref06_Node.calls (k : Nat) (a0 : Int) (ae : Int) (af : Int) (ao : Int) (ap : Int) (r1 : Int) (r2 : Int) (w : World) (h : attestorref06_Node.f k a0 ae af ao ap = some (r1, r2)) :
  Calls Tryd.prog 44 #[.int .i64 a0, .agg #[.int .u64 ae, .int .u64 af], .agg #[.int .u64 ao, .int .u64 ap]] w fun e w' => e = .returned (.agg #[.int .u64 r1, .int .u64 r2]) ∧ Below w.heap.size w w' := by
 have hu36 := Tryd.underlying36
 have hu80 := Tryd.underlying80
 have HB := aj (Below.refl w.heap.size w)
 have H : ((attestorref01_Valid.f a0).bind fun aY => (if aY = true then ((attestorref06_Perm.f k a0 ae af ao ap).bind fun aI => ((attestorref01_Add.f a0 aI.1 ae).bind fun aG => ((attestorref01_Add.f a0 aI.2.1 af).bind fun aK => (some (aG, aK))))) else (some (0, 0)))) = some (r1, r2) := h
 clear h
 replace H := Option.bind_eq_some_iff.mp H
 obtain ⟨aY, ba, H⟩ := H
 have A4 := aj ba
 clear ba
 by_cases c5 : aY = true
 ·subst c5
  have H1 : ((attestorref06_Perm.f k a0 ae af ao ap).bind fun aI => ((attestorref01_Add.f a0 aI.1 ae).bind fun aG => ((attestorref01_Add.f a0 aI.2.1 af).bind fun aK => (some (aG, aK))))) = some (r1, r2) := by rw [if_pos rfl] at H; exact H
  clear H
  have H := H1
  clear H1
  replace H := Option.bind_eq_some_iff.mp H
  obtain ⟨⟨az, aA, aL, aM⟩, bb, H⟩ := H
  replace H : ((attestorref01_Add.f a0 az ae).bind fun aG => ((attestorref01_Add.f a0 aA af).bind fun aK => (some (aG, aK)))) = some (r1, r2) := H
  have A6 := aj bb
  clear bb
  replace H := Option.bind_eq_some_iff.mp H
  obtain ⟨aG, bc, H⟩ := H
  have A7 := aj bc
  clear bc
  replace H := Option.bind_eq_some_iff.mp H
  obtain ⟨aK, bd, H⟩ := H
  have A8 := aj bd
  clear bd
  simp only [Option.some.injEq, Prod.mk.injEq] at H
  obtain ⟨rfl, rfl⟩ := H
  go_enter Tryd.func44, Tryd.ntmps44
  try go_wp2_with (first | ((with_reducible refine gate_dst (N := 4) rfl ?_); refine box_event ?hg (N := 4) ?hd (cs := #[.int .u64 ae, .int .u64 af]) (t := 36) ?hr ?_; (case hd => rfl); (case hg => rfl); (case hr => first | (go_simp; done) | (go_simp; rfl)); intro ag hg w9 hbox hb; have al := aj (below_step (by first | exact HB.out | exact below_drew1 HB.out | exact pw_below_drewN HB.out _) hb); have am := aj (hbox); have aq := aj ((by rw [hg]; exact (below_size (by first | exact HB.out | exact below_drew1 HB.out | exact pw_below_drewN HB.out _)) : w.heap.size ≤ ag)); clear HB; have HB := al; have aa := am; have au := aq; clear al am aq; clear hb hbox hg) | ((with_reducible refine gate_dst (N := 5) rfl ?_); refine box_event ?hg (N := 5) ?hd (cs := #[.int .u64 ao, .int .u64 ap]) (t := 36) ?hr ?_; (case hd => rfl); (case hg => rfl); (case hr => first | (go_simp; done) | (go_simp; rfl)); intro ak hg bX hbox hb; have al := aj (blk_below aa.out hb); have am := aj (below_step (by first | exact HB.out | exact below_drew1 HB.out | exact pw_below_drewN HB.out _) hb); have ar := aj (hbox); have aH := aj ((by rw [hg]; exact (below_size (by first | exact HB.out | exact below_drew1 HB.out | exact pw_below_drewN HB.out _)) : w.heap.size ≤ ak)); have aN := aj ((by rw [hg]; exact Nat.ne_of_lt (blk_lt aa.out) : ag ≠ ak)); have aJ := aj ((by rw [hg]; exact Nat.ne_of_gt (blk_lt aa.out) : ak ≠ ag)); clear aa; clear HB; have aa := al; have HB := am; have ac := ar; have ay := aH; have aS := aN; have aT := aJ; clear al am ar aH aN aJ; clear hb hbox hg) | ((with_reducible refine gate_dst (N := 6) rfl ?_); refine box_event ?hg (N := 6) ?hd (cs := #[.int .u64 0, .int .u64 0]) (t := 36) ?hr ?_; (case hd => rfl); (case hg => rfl); (case hr => first | (go_simp; done) | (go_simp; rfl)); intro ad hg aO hbox hb; have al := aj (blk_below aa.out hb); have am := aj (blk_below ac.out hb); have ar := aj (below_step (by first | exact HB.out | exact below_drew1 HB.out | exact pw_below_drewN HB.out _) hb); have aq := aj (hbox); have aN := aj ((by rw [hg]; exact (below_size (by first | exact HB.out | exact below_drew1 HB.out | exact pw_below_drewN HB.out _)) : w.heap.size ≤ ad)); have aJ := aj ((by rw [hg]; exact Nat.ne_of_lt (blk_lt aa.out) : ag ≠ ad)); have aU := aj ((by rw [hg]; exact Nat.ne_of_gt (blk_lt aa.out) : ad ≠ ag)); have aV := aj ((by rw [hg]; exact Nat.ne_of_lt (blk_lt ac.out) : ak ≠ ad)); have aW := aj ((by rw [hg]; exact Nat.ne_of_gt (blk_lt ac.out) : ad ≠ ak)); clear aa; clear ac; clear HB; have aa := al; have ac := am; have HB := ar; have ah := aq; have aF := aN; have aw := aJ; have aB := aU; have aP := aV; have aC := aW; clear al am ar aq aN aJ aU aV aW; clear hb hbox hg) | ((with_reducible refine gate_callee (f := 42) rfl ?_); refine goesL_ (some 9) rfl rfl Tryd.func42 (by kernel_rfl) rfl #[.int .i64 a0] rfl (by (try simp only [List.map_toArray, List.map_cons, List.map_nil]); first | done | rfl | (go_simp; done)) ?_; (with_reducible refine (attestorref01_Valid.calls a0 true _ A4.out).mono ?_); rintro e w' ⟨rfl, ⟨nd, rfl⟩⟩; refine ⟨_, rfl, ?_⟩; (try (rw [drewN_self aO]; generalize q_ : World.drewN aO _ = aO; have al : Aside0 (aO.heap[ag]? = some (.cells #[.int .u64 ae, .int .u64 af] 36 (0, 0))) := ⟨by rw [← q_]; exact aa.out⟩; have am : Aside0 (aO.heap[ak]? = some (.cells #[.int .u64 ao, .int .u64 ap] 36 (0, 0))) := ⟨by rw [← q_]; exact ac.out⟩; have ar : Aside0 (aO.heap[ad]? = some (.cells #[.int .u64 0, .int .u64 0] 36 (0, 0))) := ⟨by rw [← q_]; exact ah.out⟩; have aq : Aside0 (Below w.heap.size w aO) := ⟨by rw [← q_]; exact (by first | exact HB.out | exact below_drew1 HB.out | exact pw_below_drewN HB.out _)⟩; clear aa ac ah HB q_; have aa := al; have ac := am; have ah := ar; have HB := aq; clear al am ar aq)); have bH := aS.out; have bI := aT.out; have bJ := aw.out; have bK := aB.out; have be : aO.cell? ⟨ag, 0, none⟩ = some (.int .u64 ae) := bq_ aa 0; have bf : aO.cell? ⟨ag, 1, none⟩ = some (.int .u64 af) := bq_ aa 1; have bg := blk_frozen aa.out 0; have bh := blk_frozen aa.out 1; have bL := aP.out; have bM := aC.out; have bi : aO.cell? ⟨ak, 0, none⟩ = some (.int .u64 ao) := bq_ ac 0; have bj : aO.cell? ⟨ak, 1, none⟩ = some (.int .u64 ap) := bq_ ac 1; have bk := blk_frozen ac.out 0; have bl := blk_frozen ac.out 1) | ((with_reducible refine gate_callee (f := 62) rfl ?_); refine goesL_ (some 22) rfl rfl Tryd.func62 (by kernel_rfl) rfl #[.int .i64 a0, .agg #[.int .u64 ae, .int .u64 af, .int .u64 ao, .int .u64 ap]] rfl (by (try simp only [List.map_toArray, List.map_cons, List.map_nil]); first | done | rfl | (go_simp; done)) ?_; (with_reducible refine (attestorref06_Perm.calls k a0 ae af ao ap az aA aL aM _ A6.out).mono ?_); rintro e bY ⟨rfl, hb⟩; refine ⟨_, rfl, ?_⟩; have al := aj (blk_below aa.out hb); have am := aj (blk_below ac.out hb); have ar := aj (blk_below ah.out hb); have aq := aj (below_step (by first | exact HB.out | exact below_drew1 HB.out | exact pw_below_drewN HB.out _) hb); clear aa; clear ac; clear ah; clear HB; have aa := al; have ac := am; have ah := ar; have HB := aq; clear al am ar aq; (try clear hb); (try clear hb2); (try clear hk); (try clear hi)) | ((with_reducible refine gate_dst (N := 7) rfl ?_); refine box_event ?hg (N := 7) ?hd (cs := #[.int .u64 0, .int .u64 0, .int .u64 0, .int .u64 0]) (t := 80) ?hr ?_; (case hd => rfl); (case hg => rfl); (case hr => first | (go_simp; done) | (go_simp; rfl)); intro ab hg aQ hbox hb; have al := aj (blk_below aa.out hb); have am := aj (blk_below ac.out hb); have ar := aj (blk_below ah.out hb); have aq := aj (below_step (by first | exact HB.out | exact below_drew1 HB.out | exact pw_below_drewN HB.out _) hb); have aH := aj (hbox); have aJ := aj ((by rw [hg]; exact (below_size (by first | exact HB.out | exact below_drew1 HB.out | exact pw_below_drewN HB.out _)) : w.heap.size ≤ ab)); have aU := aj ((by rw [hg]; exact Nat.ne_of_lt (blk_lt aa.out) : ag ≠ ab)); have aV := aj ((by rw [hg]; exact Nat.ne_of_gt (blk_lt aa.out) : ab ≠ ag)); have aW := aj ((by rw [hg]; exact Nat.ne_of_lt (blk_lt ac.out) : ak ≠ ab)); have a7 := aj ((by rw [hg]; exact Nat.ne_of_gt (blk_lt ac.out) : ab ≠ ak)); have a8 := aj ((by rw [hg]; exact Nat.ne_of_lt (blk_lt ah.out) : ad ≠ ab)); have a9 := aj ((by rw [hg]; exact Nat.ne_of_gt (blk_lt ah.out) : ab ≠ ad)); clear aa; clear ac; clear ah; clear HB; have aa := al; have ac := am; have ah := ar; have HB := aq; have ai := aH; have a6 := aJ; have aD := aU; have aZ := aV; have aE := aW; have a5 := a7; have ax := a8; have av := a9; clear al am ar aq aH aJ aU aV aW a7 a8 a9; clear hb hbox hg; have bN := aZ.out; have bO := aD.out; have bP := a5.out; have bQ := aE.out; have bR := av.out; have bS := ax.out; have bm : aQ.cell? ⟨ab, 0, none⟩ = some (.int .u64 0) := bq_ ai 0; have bn : aQ.cell? ⟨ab, 1, none⟩ = some (.int .u64 0) := bq_ ai 1; have bo : aQ.cell? ⟨ab, 2, none⟩ = some (.int .u64 0) := bq_ ai 2; have bp : aQ.cell? ⟨ab, 3, none⟩ = some (.int .u64 0) := bq_ ai 3; have bq := blk_frozen ai.out 0; have br := blk_frozen ai.out 1; have bs := blk_frozen ai.out 2; have bu := blk_frozen ai.out 3))
  have al : Aside0 (((((aQ.setCell ⟨ab, 0, none⟩ (.int .u64 az)).setCell ⟨ab, 1, none⟩ (.int .u64 aA)).setCell ⟨ab, 2, none⟩ (.int .u64 aL)).setCell ⟨ab, 3, none⟩ (.int .u64 aM)).heap[ag]? = some (.cells #[.int .u64 ae, .int .u64 af] 36 (0, 0))) := ⟨by refine blk_far ?_ aD.out _; refine blk_far ?_ aD.out _; refine blk_far ?_ aD.out _; refine blk_far ?_ aD.out _; exact aa.out⟩
  have am : Aside0 (((((aQ.setCell ⟨ab, 0, none⟩ (.int .u64 az)).setCell ⟨ab, 1, none⟩ (.int .u64 aA)).setCell ⟨ab, 2, none⟩ (.int .u64 aL)).setCell ⟨ab, 3, none⟩ (.int .u64 aM)).heap[ak]? = some (.cells #[.int .u64 ao, .int .u64 ap] 36 (0, 0))) := ⟨by refine blk_far ?_ aE.out _; refine blk_far ?_ aE.out _; refine blk_far ?_ aE.out _; refine blk_far ?_ aE.out _; exact ac.out⟩
  have ar : Aside0 (((((aQ.setCell ⟨ab, 0, none⟩ (.int .u64 az)).setCell ⟨ab, 1, none⟩ (.int .u64 aA)).setCell ⟨ab, 2, none⟩ (.int .u64 aL)).setCell ⟨ab, 3, none⟩ (.int .u64 aM)).heap[ad]? = some (.cells #[.int .u64 0, .int .u64 0] 36 (0, 0))) := ⟨by refine blk_far ?_ ax.out _; refine blk_far ?_ ax.out _; refine blk_far ?_ ax.out _; refine blk_far ?_ ax.out _; exact ah.out⟩
  have aq : Aside0 (((((aQ.setCell ⟨ab, 0, none⟩ (.int .u64 az)).setCell ⟨ab, 1, none⟩ (.int .u64 aA)).setCell ⟨ab, 2, none⟩ (.int .u64 aL)).setCell ⟨ab, 3, none⟩ (.int .u64 aM)).heap[ab]? = some (.cells #[.int .u64 az, .int .u64 aA, .int .u64 aL, .int .u64 aM] 80 (0, 0))) := ⟨by refine blk_put (cs := #[.int .u64 az, .int .u64 aA, .int .u64 aL, .int .u64 0]) ?_ 3 _ rfl; refine blk_put (cs := #[.int .u64 az, .int .u64 aA, .int .u64 0, .int .u64 0]) ?_ 2 _ rfl; refine blk_put (cs := #[.int .u64 az, .int .u64 0, .int .u64 0, .int .u64 0]) ?_ 1 _ rfl; refine blk_put (cs := #[.int .u64 0, .int .u64 0, .int .u64 0, .int .u64 0]) ?_ 0 _ rfl; exact ai.out⟩
  have aH : Aside0 (Below w.heap.size w ((((aQ.setCell ⟨ab, 0, none⟩ (.int .u64 az)).setCell ⟨ab, 1, none⟩ (.int .u64 aA)).setCell ⟨ab, 2, none⟩ (.int .u64 aL)).setCell ⟨ab, 3, none⟩ (.int .u64 aM))) := ⟨by repeat (first | (with_reducible first | exact HB.out | apply below_alloc | apply pw_below_drewN | apply below_drew1 | refine below_set ?_ au.out | refine below_set ?_ ay.out | refine below_set ?_ aF.out | refine below_set ?_ a6.out) | exact HB.out)⟩
  generalize ((((aQ.setCell ⟨ab, 0, none⟩ (.int .u64 az)).setCell ⟨ab, 1, none⟩ (.int .u64 aA)).setCell ⟨ab, 2, none⟩ (.int .u64 aL)).setCell ⟨ab, 3, none⟩ (.int .u64 aM)) = bG at al am ar aq aH ⊢
  have aa := al
  have ac := am
  have ah := ar
  have ai := aq
  have HB := aH
  clear al am ar aq aH
  have al := aj (blk_drew aa.out)
  have am := aj (blk_drew ac.out)
  have ar := aj (blk_drew ah.out)
  have aq := aj (blk_drew ai.out)
  have aH := aj (below_drew1 HB.out)
  clear aa
  clear ac
  clear ah
  clear ai
  clear HB
  have aa := al
  have ac := am
  have ah := ar
  have ai := aq
  have HB := aH
  clear al am ar aq aH
  refine start_ (n := 14) (S := fun w' => w'.cell? ⟨ab, 0, none⟩ = some (.int .u64 az) ∧ w'.cell? ⟨ab, 1, none⟩ = some (.int .u64 aA) ∧ w'.cell? ⟨ab, 2, none⟩ = some (.int .u64 aL) ∧ w'.cell? ⟨ab, 3, none⟩ = some (.int .u64 aM) ∧ w'.cell? ⟨ag, 0, none⟩ = some (.int .u64 ae) ∧ w'.cell? ⟨ag, 1, none⟩ = some (.int .u64 af)) (ds := []) z44_0_ (by kernel_rfl) rfl rfl ⟨bq_ ai 0, bq_ ai 1, bq_ ai 2, bq_ ai 3, bq_ aa 0, bq_ aa 1⟩ (fun hL => ?_); refine with_tabW attestorref06_Node.tab4 attestorref06_Node.bits4 (fun T_ W_ => ?_)
  generalize bG.drew = aX at aa ac ah ai HB hL ⊢
  refine pure_ (i := 0) (N := some 23) (v := ?_) (a' := ?_) z44_1_ rfl rfl (an_ T_) (fun _ _ _ h => h) (Or.inl ⟨by rfl, ?_⟩) ?_ ?_
  rotate_left; · intro w'; go_simp; with_reducible rfl
  rotate_left; · simp only [Act.put, sa_, sb_, sc_, i64_w, i32_w]; rfl
  refine pure_ (i := 1) (N := some 24) (v := ?_) (a' := ?_) z44_2_ rfl rfl (an_ T_) (fun _ _ _ h => h) (Or.inl ⟨by rfl, ?_⟩) ?_ ?_
  rotate_left; · intro w'; go_simp; with_reducible rfl
  rotate_left; · simp only [Act.put, sa_, sb_, sc_, i64_w, i32_w]; rfl
  refine pure_ (i := 3) (N := some 26) (v := ?_) (a' := ?_) z44_3_ rfl rfl (an_ T_) (fun _ _ _ h => h) (Or.inl ⟨by rfl, ?_⟩) ?_ ?_
  rotate_left; · intro w'; go_simp; with_reducible rfl
  rotate_left; · simp only [Act.put, sa_, sb_, sc_, i64_w, i32_w]; rfl
  refine pure_ (i := 6) (N := some 29) (v := ?_) (a' := ?_) z44_4_ rfl rfl (an_ T_) (fun _ _ _ h => h) (Or.inl ⟨by rfl, ?_⟩) ?_ ?_
  rotate_left; · intro w'; go_simp; with_reducible rfl
  rotate_left; · simp only [Act.put, sa_, sb_, sc_, i64_w, i32_w]; rfl
  refine pure_ (i := 7) (N := some 30) (v := ?_) (a' := ?_) z44_5_ rfl rfl (an_ T_) (fun _ _ _ h => h) (Or.inl ⟨by rfl, ?_⟩) ?_ ?_
  rotate_left; · intro w'; go_simp; with_reducible rfl
  rotate_left; · simp only [Act.put, sa_, sb_, sc_, i64_w, i32_w]; rfl
  refine pure_ (i := 9) (N := some 32) (v := ?_) (a' := ?_) z44_6_ rfl rfl (an_ T_) (fun _ _ _ h => h) (Or.inl ⟨by rfl, ?_⟩) ?_ ?_
  rotate_left; · intro w'; go_simp; with_reducible rfl
  rotate_left; · simp only [Act.put, sa_, sb_, sc_, i64_w, i32_w]; rfl
  refine take_ (i := 2) (N := some 25) (v := ?_) (a' := ?_) z44_7_ rfl rfl (tk_ T_ W_) (fun _ _ _ h => h) (Or.inl ⟨by rfl, ?_⟩) hL ?_ ?_
  rotate_left
  ·rintro w' ⟨s0, s1, s2, s3, s4, s5⟩
   go_simp
   with_reducible rfl
  rotate_left
  ·simp only [Act.put, sa_, sb_, sc_, i64_w, i32_w]
   rfl
  refine take_ (i := 4) (N := some 27) (v := ?_) (a' := ?_) z44_8_ rfl rfl (tk_ T_ W_) (fun _ _ _ h => h) (Or.inl ⟨by rfl, ?_⟩) hL ?_ ?_
  rotate_left
  ·rintro w' ⟨s0, s1, s2, s3, s4, s5⟩
   go_simp
   with_reducible rfl
  rotate_left
  ·simp only [Act.put, sa_, sb_, sc_, i64_w, i32_w]
   rfl
  refine take_ (i := 8) (N := some 31) (v := ?_) (a' := ?_) z44_9_ rfl rfl (tk_ T_ W_) (fun _ _ _ h => h) (Or.inl ⟨by rfl, ?_⟩) hL ?_ ?_
  rotate_left
  ·rintro w' ⟨s0, s1, s2, s3, s4, s5⟩
   go_simp
   with_reducible rfl
  rotate_left
  ·simp only [Act.put, sa_, sb_, sc_, i64_w, i32_w]
   rfl
  refine take_ (i := 10) (N := some 33) (v := ?_) (a' := ?_) z44_10_ rfl rfl (tk_ T_ W_) (fun _ _ _ h => h) (Or.inl ⟨by rfl, ?_⟩) hL ?_ ?_
  rotate_left
  ·rintro w' ⟨s0, s1, s2, s3, s4, s5⟩
   go_simp
   with_reducible rfl
  rotate_left
  ·simp only [Act.put, sa_, sb_, sc_, i64_w, i32_w]
   rfl
  refine one_ (i := 5) (N := some 28) z44_11_ rfl rfl (on_ T_) (by decide) (fun K hK => ?_)
  refine goes_ Tryd.func63 (by kernel_rfl) rfl #[.int .i64 a0, .int .u64 az, .int .u64 ae] (by rfl) rfl rfl (by (try simp only [List.map_toArray, List.map_cons, List.map_nil]); first | done | rfl | (go_simp; done)) ?_
  with_reducible refine (attestorref01_Add.calls a0 az ae aG _ A7.out).mono ?_
  rintro e w' ⟨rfl, ⟨nd, rfl⟩⟩
  refine ⟨_, rfl, ?_⟩
  (try (rw [drewN_self aX]; generalize q_ : World.drewN aX _ = aX; replace aa := ra_ q_ aa; replace ac := ra_ q_ ac; replace ah := ra_ q_ ah; replace ai := ra_ q_ ai; replace HB := rb_ q_ HB; clear q_))
  refine hK.out _ _ ⟨bq_ ai 0, bq_ ai 1, bq_ ai 2, bq_ ai 3, bq_ aa 0, bq_ aa 1⟩ (fun hL => ?_)
  clear hK K
  refine norm_ (a' := ?_) ?_ ?_
  rotate_left
  ·show Act.put _ (some 28) _ = _
   simp only [Act.put, sa_, sb_, sc_, i64_w, i32_w]
   rfl
  refine one_ (i := 11) (N := some 34) z44_12_ rfl rfl (on_ T_) (by decide) (fun K hK => ?_)
  refine goes_ Tryd.func63 (by kernel_rfl) rfl #[.int .i64 a0, .int .u64 aA, .int .u64 af] (by rfl) rfl rfl (by (try simp only [List.map_toArray, List.map_cons, List.map_nil]); first | done | rfl | (go_simp; done)) ?_
  with_reducible refine (attestorref01_Add.calls a0 aA af aK _ A8.out).mono ?_
  rintro e w' ⟨rfl, ⟨nd, rfl⟩⟩
  refine ⟨_, rfl, ?_⟩
  (try (rw [drewN_self aX]; generalize q_ : World.drewN aX _ = aX; replace aa := ra_ q_ aa; replace ac := ra_ q_ ac; replace ah := ra_ q_ ah; replace ai := ra_ q_ ai; replace HB := rb_ q_ HB; clear q_))
  refine hK.out _ _ ⟨bq_ ai 0, bq_ ai 1, bq_ ai 2, bq_ ai 3, bq_ aa 0, bq_ aa 1⟩ (fun hL => ?_)
  clear hK K
  refine norm_ (a' := ?_) ?_ ?_
  rotate_left
  ·show Act.put _ (some 34) _ = _
   simp only [Act.put, sa_, sb_, sc_, i64_w, i32_w]
   rfl
  refine pure_ (i := 12) (N := some 35) (v := ?_) (a' := ?_) z44_13_ rfl rfl (an_ T_) (fun _ _ _ h => h) (Or.inl ⟨by rfl, ?_⟩) ?_ ?_
  rotate_left; · intro w'; go_simp; with_reducible rfl
  rotate_left; · simp only [Act.put, sa_, sb_, sc_, i64_w, i32_w]; rfl
  refine one_ (i := 13) (N := none) z44_14_ rfl rfl (on_ T_) (by decide) (fun K hK => ?_)
  have hs25 : aX.cell? ⟨ad, 0, none⟩ = some (.int .u64 0) := bq_ ah 0
  have hfs25 := blk_frozen ah.out 0
  have bv := aB.out
  have bw := aC.out
  have bx := ax.out
  have hs26 : aX.cell? ⟨ad, 1, none⟩ = some (.int .u64 0) := bq_ ah 1
  have hfs26 := blk_frozen ah.out 1
  have bz := aB.out
  have bA := aC.out
  have bB := ax.out
  refine skip_ (w1 := ?_) (by rfl) rfl ?_ ?_
  rotate_left
  ·go_simp
   rfl
  refine hK.out _ _ ⟨((cell_far (p := ⟨ad, _, none⟩) av.out _).trans (((cell_far (p := ⟨ad, _, none⟩) av.out _).trans (hL.1)))), ((cell_far (p := ⟨ad, _, none⟩) av.out _).trans (((cell_far (p := ⟨ad, _, none⟩) av.out _).trans (hL.2.1)))), ((cell_far (p := ⟨ad, _, none⟩) av.out _).trans (((cell_far (p := ⟨ad, _, none⟩) av.out _).trans (hL.2.2.1)))), ((cell_far (p := ⟨ad, _, none⟩) av.out _).trans (((cell_far (p := ⟨ad, _, none⟩) av.out _).trans (hL.2.2.2.1)))), ((cell_far (p := ⟨ad, _, none⟩) aw.out _).trans (((cell_far (p := ⟨ad, _, none⟩) aw.out _).trans (hL.2.2.2.2.1)))), ((cell_far (p := ⟨ad, _, none⟩) aw.out _).trans (((cell_far (p := ⟨ad, _, none⟩) aw.out _).trans (hL.2.2.2.2.2))))⟩ (fun hL => ?_)
  clear hK K
  refine done_ (done_of T_.out (by kernel_rfl)) ?_
  try go_wp2
  refine bodyPost_ret (results_cell_row rfl _ _ ad 36 #[.int .u64 aG, .int .u64 aK] (0, 0) _ rfl (by refine blk_put (cs := #[.int .u64 aG, .int .u64 0]) ?_ 1 _ rfl; refine blk_put (cs := #[.int .u64 0, .int .u64 0]) ?_ 0 _ rfl; exact ah.out) Tryd.underlying36 rfl (by kernel_rfl)) rfl ?_
  exact ⟨by first | rfl | (simp [errW_none, errW_some] <;> rfl) | (simp [*, errW_none, errW_some] <;> rfl), by repeat (first | (with_reducible first | exact HB.out | apply below_alloc | apply pw_below_drewN | apply below_drew1 | refine below_set ?_ au.out | refine below_set ?_ ay.out | refine below_set ?_ aF.out | refine below_set ?_ a6.out) | exact HB.out)⟩
 ·replace c5 := Bool.eq_false_iff.mpr c5
  subst c5
  have H1 : (some (0, 0)) = some (r1, r2) := by rw [if_neg (show ¬ (false = true) by decide)] at H; exact H
  clear H
  have H := H1
  clear H1
  simp only [Option.some.injEq, Prod.mk.injEq] at H
  obtain ⟨rfl, rfl⟩ := H
  go_enter Tryd.func44, Tryd.ntmps44
  go_wp2_with (first | ((with_reducible refine gate_dst (N := 4) rfl ?_); refine box_event ?hg (N := 4) ?hd (cs := #[.int .u64 ae, .int .u64 af]) (t := 36) ?hr ?_; (case hd => rfl); (case hg => rfl); (case hr => first | (go_simp; done) | (go_simp; rfl)); intro ag hg bZ hbox hb; have al := aj (below_step HB.out hb); have am := aj (hbox); have aq := aj ((by rw [hg]; exact (below_size HB.out) : w.heap.size ≤ ag)); clear HB; have HB := al; have aa := am; have au := aq; clear al am aq; clear hb hbox hg) | ((with_reducible refine gate_dst (N := 5) rfl ?_); refine box_event ?hg (N := 5) ?hd (cs := #[.int .u64 ao, .int .u64 ap]) (t := 36) ?hr ?_; (case hd => rfl); (case hg => rfl); (case hr => first | (go_simp; done) | (go_simp; rfl)); intro ak hg b0 hbox hb; have al := aj (blk_below aa.out hb); have am := aj (below_step HB.out hb); have ar := aj (hbox); have aH := aj ((by rw [hg]; exact (below_size HB.out) : w.heap.size ≤ ak)); have aN := aj ((by rw [hg]; exact Nat.ne_of_lt (blk_lt aa.out) : ag ≠ ak)); have aJ := aj ((by rw [hg]; exact Nat.ne_of_gt (blk_lt aa.out) : ak ≠ ag)); clear aa; clear HB; have aa := al; have HB := am; have ac := ar; have ay := aH; have aS := aN; have aT := aJ; clear al am ar aH aN aJ; clear hb hbox hg) | ((with_reducible refine gate_dst (N := 6) rfl ?_); refine box_event ?hg (N := 6) ?hd (cs := #[.int .u64 0, .int .u64 0]) (t := 36) ?hr ?_; (case hd => rfl); (case hg => rfl); (case hr => first | (go_simp; done) | (go_simp; rfl)); intro ad hg aR hbox hb; have al := aj (blk_below aa.out hb); have am := aj (blk_below ac.out hb); have ar := aj (below_step HB.out hb); have aq := aj (hbox); have aN := aj ((by rw [hg]; exact (below_size HB.out) : w.heap.size ≤ ad)); have aJ := aj ((by rw [hg]; exact Nat.ne_of_lt (blk_lt aa.out) : ag ≠ ad)); have aU := aj ((by rw [hg]; exact Nat.ne_of_gt (blk_lt aa.out) : ad ≠ ag)); have aV := aj ((by rw [hg]; exact Nat.ne_of_lt (blk_lt ac.out) : ak ≠ ad)); have aW := aj ((by rw [hg]; exact Nat.ne_of_gt (blk_lt ac.out) : ad ≠ ak)); clear aa; clear ac; clear HB; have aa := al; have ac := am; have HB := ar; have ah := aq; have aF := aN; have aw := aJ; have aB := aU; have aP := aV; have aC := aW; clear al am ar aq aN aJ aU aV aW; clear hb hbox hg) | ((with_reducible refine gate_callee (f := 42) rfl ?_); refine goesL_ (some 9) rfl rfl Tryd.func42 (by kernel_rfl) rfl #[.int .i64 a0] rfl (by (try simp only [List.map_toArray, List.map_cons, List.map_nil]); first | done | rfl | (go_simp; done)) ?_; (with_reducible refine (attestorref01_Valid.calls a0 false _ A4.out).mono ?_); rintro e w' ⟨rfl, ⟨nd, rfl⟩⟩; refine ⟨_, rfl, ?_⟩; (try (rw [drewN_self aR]; generalize q_ : World.drewN aR _ = aR; have al : Aside0 (aR.heap[ag]? = some (.cells #[.int .u64 ae, .int .u64 af] 36 (0, 0))) := ⟨by rw [← q_]; exact aa.out⟩; have am : Aside0 (aR.heap[ak]? = some (.cells #[.int .u64 ao, .int .u64 ap] 36 (0, 0))) := ⟨by rw [← q_]; exact ac.out⟩; have ar : Aside0 (aR.heap[ad]? = some (.cells #[.int .u64 0, .int .u64 0] 36 (0, 0))) := ⟨by rw [← q_]; exact ah.out⟩; have aq : Aside0 (Below w.heap.size w aR) := ⟨by rw [← q_]; exact HB.out⟩; clear aa ac ah HB q_; have aa := al; have ac := am; have ah := ar; have HB := aq; clear al am ar aq)); have bT := aB.out; have bU := aw.out; have bV := aC.out; have bW := aP.out; have bC : aR.cell? ⟨ad, 0, none⟩ = some (.int .u64 0) := bq_ ah 0; have bD : aR.cell? ⟨ad, 1, none⟩ = some (.int .u64 0) := bq_ ah 1; have bE := blk_frozen ah.out 0; have bF := blk_frozen ah.out 1))
  refine bodyPost_ret (results_cell_row rfl _ _ ad 36 #[.int .u64 0, .int .u64 0] (0, 0) _ rfl (by refine blk_put (cs := #[.int .u64 0, .int .u64 0]) ?_ 1 _ rfl; refine blk_put (cs := #[.int .u64 0, .int .u64 0]) ?_ 0 _ rfl; exact ah.out) Tryd.underlying36 rfl (by kernel_rfl)) rfl ?_
  exact ⟨by first | rfl | (simp [errW_none, errW_some] <;> rfl) | (simp [*, errW_none, errW_some] <;> rfl), by repeat (first | (with_reducible first | exact HB.out | apply below_alloc | apply pw_below_drewN | apply below_drew1 | refine below_set ?_ au.out | refine below_set ?_ ay.out | refine below_set ?_ aF.out) | exact HB.out)⟩

end Go.Proofs.YtpnpmeogffodgaaDoor.Q
end
section
namespace Go.Proofs.YtpnpmeogffodgaaDoor.Q
open Go.RowKit Go.Proofs.YtpnpmeogffodgaaDoorW.PrintWords Go.Proofs.YtpnpmeogffodgaaDoorW.PrintLast Go.Proofs.YtpnpmeogffodgaaDoorW.PrintMore
open Go.Proofs.YtpnpmeogffodgaaDoor.Num
set_option linter.unusedVariables false
set_option linter.unusedSimpArgs false
def okD (p : Int) (d : S36) : Bool := decide (d.f0 < p) && decide (d.f1 < p)
theorem bad_ok (p : Int) (d : S36) : badD p d = !(okD p d) := by
  unfold badD okD
  by_cases h0 : d.f0 < p
  · by_cases h1 : d.f1 < p
    · simp [h0, h1, Int.not_le.mpr h0, Int.not_le.mpr h1]
    · simp [h0, h1, Int.not_le.mpr h0, Int.not_lt.mp h1]
  · simp [h0, Int.not_lt.mp h0]
theorem proper_f (f : Int) (l : List S36) : tree_proper.f f l = some (l.all (okD (fp f))) := by
  have h : ∀ l : List S36, (!(l.any (badD (fp f)))) = l.all (okD (fp f)) := by
    intro l
    induction l with
    | nil => rfl
    | cons d l ih => rw [List.any_cons, List.all_cons, Bool.not_or, ih, bad_ok, Bool.not_not]
  unfold tree_proper.f
  rw [show field_P.f f = some (fp f) from rfl, Option.bind_some, h]
theorem P_f (f : Int) : attestorref01_P.f f = some (fp f) := by
  unfold attestorref01_P.f fp
  repeat' split
  all_goals rfl
theorem Proper_f (f a b : Int) : attestorref07_Proper.f f a b = some (okD (fp f) ⟨a, b⟩) := by
  unfold attestorref07_Proper.f okD
  rw [P_f, Option.bind_some]
  by_cases h : a < fp f
  · rw [if_pos h]; simp [h]
  · rw [if_neg h]; simp [h]
theorem All_l (f : Int) (l : List S36) (hl : l.length ≤ 4611686018427387904) : ∀ n j k, n + j = l.length → n < k → attestorref07_All.l0 k f l (j : Int) = some ((l.drop j).all (okD (fp f)))
  | n, j, 0, _, hk => by omega
  | 0, j, k + 1, hj, _ => by
    unfold attestorref07_All.l0
    rw [if_neg (by omega), List.drop_eq_nil_of_le (by omega)]
    rfl
  | n + 1, j, k + 1, hj, hk => by
    have ih := All_l f l hl n (j + 1) k (by omega) (by omega)
    unfold attestorref07_All.l0
    rw [if_pos (by omega), if_pos (by omega), Proper_f, Option.bind_some, drop_rd l j (by omega), List.all_cons]
    by_cases h : okD (fp f) (rd_T36 l (j : Int)) = true
    · rw [if_pos h, h, Bool.true_and, show wrap64 ((j : Int) + 1) = ((j + 1 : Nat) : Int) by unfold wrap64; omega]
      exact ih
    · rw [if_neg h, Bool.eq_false_iff.mpr h, Bool.false_and]
theorem All_f (f : Int) (l : List S36) (k : Nat) (hl : l.length ≤ 4611686018427387904) (hk : l.length < k) : attestorref07_All.f k f l = some (l.all (okD (fp f))) := All_l f l hl l.length 0 k rfl hk
theorem node_nat {f : Int} (hv : 0 ≤ f ∧ f < 4) (a b c d k : Nat) (hk : 130 < k) : ∃ x y : Nat, sponge_Node.f 200 f a b c d = some ((x : Int), (y : Int)) ∧ attestorref06_Node.f k f a b c d = some ((x : Int), (y : Int)) := by
  obtain ⟨p, g, e, D⟩ := fd_of hv.1 hv.2
  refine ⟨_, _, Node_f D 200 (by omega) ⟨a, b, c, d⟩, ?_⟩
  unfold attestorref06_Node.f
  refine bnd (rvalid_yes D.F) ?_
  rw [if_pos rfl]
  refine bnd (rPerm_f D k hk ⟨a, b, c, d⟩) (bnd (radd_f D.F _ _) (bnd (radd_f D.F _ _) ?_))
  rfl
def nnD (d : S36) : Prop := 0 ≤ d.f0 ∧ 0 ≤ d.f1
theorem cut_f (l : List S36) (n : Nat) (h : n ≤ 1000) : attestorlaw07_cut.f l (n : Int) = some (l.take n) := by
  have e : mn (l.length : Int) (n : Int) = ((min l.length n : Nat) : Int) := by unfold mn; split <;> omega
  unfold attestorlaw07_cut.f
  rw [e, if_pos (by omega), if_pos (by omega), Option.bind_some, Int.toNat_natCast, if_pos (by simp; omega), List.nil_append]
  congr 1
  rcases Nat.le_total l.length n with h1 | h1
  · rw [Nat.min_eq_left h1, List.take_of_length_le (Nat.le_refl _), List.take_of_length_le h1]
  · rw [Nat.min_eq_right h1]
set_option maxRecDepth 100000 in
theorem lives_true (k : Nat) (hk : 80 ≤ k) : attestorlaw07_lives.f k = some true :=
  at_rounds (g := fun k => attestorlaw07_lives.f k) attestorlaw07_lives.mono hk (by decide +kernel)
end Go.Proofs.YtpnpmeogffodgaaDoor.Q
end
section
namespace Go.Proofs.YtpnpmeogffodgaaDoor.Q
open Go.RowKit Go.Proofs.YtpnpmeogffodgaaDoor.Opn
theorem nn_of {l : List S36} (h : ∀ y ∈ l, wf36 y) : ∀ d ∈ l, nnD d := fun d hd => ⟨(wf_u64 (h d hd).1).1, (wf_u64 (h d hd).2).1⟩
end Go.Proofs.YtpnpmeogffodgaaDoor.Q
end
section
namespace Go.Proofs.YtpnpmeogffodgaaDoor.Q
open Go.RowKit Go.Proofs.YtpnpmeogffodgaaDoorW.PrintWords Go.Proofs.YtpnpmeogffodgaaDoorW.PrintLast Go.Proofs.YtpnpmeogffodgaaDoorW.PrintMore
open Go.Proofs.YtpnpmeogffodgaaDoor.Num
set_option linter.unusedVariables false
set_option linter.unusedSimpArgs false
theorem valid_f (f : Int) : field_Valid.f f = some (decide (0 ≤ f ∧ f < 4)) := by
  by_cases h : 0 ≤ f ∧ f < 4
  · obtain ⟨p, g, e, D⟩ := fd_of h.1 h.2
    rw [valid_yes D.F, decide_eq_true h]
  · rw [valid_no h, decide_eq_false h]
theorem rvalid_f (f : Int) : attestorref01_Valid.f f = some (decide (0 ≤ f ∧ f < 4)) := by
  by_cases h : 0 ≤ f ∧ f < 4
  · obtain ⟨p, g, e, D⟩ := fd_of h.1 h.2
    rw [rvalid_yes D.F, decide_eq_true h]
  · rw [rvalid_no h, decide_eq_false h]
def OpD (f i a b : Int) (l : List S36) : Prop := (0 ≤ f ∧ f < 4) ∧ 0 ≤ i ∧ l.length ≤ 18 ∧ okD (fp f) ⟨a, b⟩ = true ∧ l.all (okD (fp f)) = true
instance (f i a b : Int) (l : List S36) : Decidable (OpD f i a b l) := by unfold OpD; infer_instance
theorem shl_pow : ∀ j : Fin 40, shl .i64 1 ((j : Nat) : Int) = ((2 ^ (j : Nat) : Nat) : Int) := by decide +kernel
theorem shl_of (d : Nat) (h : d < 40) : shl .i64 1 (d : Int) = ((2 ^ d : Nat) : Int) := shl_pow ⟨d, h⟩
end Go.Proofs.YtpnpmeogffodgaaDoor.Q
end
section
namespace Go.Proofs.YtpnpmeogffodgaaDoor.Q
open Go.RowKit Go.Proofs.YtpnpmeogffodgaaDoorW.PrintWords Go.Proofs.YtpnpmeogffodgaaDoorW.PrintLast Go.Proofs.YtpnpmeogffodgaaDoorW.PrintMore
open Go.Proofs.YtpnpmeogffodgaaDoor.Num
set_option linter.unusedVariables false
set_option linter.unusedSimpArgs false
def pD (f : Int) (d : S36) : Prop := (0 ≤ d.f0 ∧ d.f0 < fp f) ∧ 0 ≤ d.f1 ∧ d.f1 < fp f
theorem pD.nn {f : Int} {d : S36} (h : pD f d) : nnD d := ⟨h.1.1, h.2.1⟩
def nodeS (f : Int) (a b : S36) : S36 := ((sponge_Node.f 200 f a.f0 a.f1 b.f0 b.f1).map fun n => (⟨n.1, n.2⟩ : S36)).getD z36
def upS (f : Int) : List S36 → List S36
  | a :: b :: l => nodeS f a b :: upS f l
  | _ => []
def top (f : Int) : Nat → List S36 → List S36
  | 0, l => l
  | n + 1, l => top f n (upS f l)
def xo (i : Nat) : Nat := if i % 2 = 0 then i + 1 else i - 1
theorem getD_mem {l : List S36} {i : Nat} (h : i < l.length) : l.getD i z36 ∈ l := by
  have e : l.getD i z36 = l[i] := by simp [List.getD, h]
  rw [e]; exact List.getElem_mem h
theorem xo_lt {i n : Nat} (h : i < 2 * n) : xo i < 2 * n := by unfold xo; split <;> omega
theorem bits_xor_one (i : Nat) (h : i < 4611686018427387904) : Go.bits .xor .i64 (i : Int) 1 = (xo i : Nat) := by
  have h1 : (BitVec.ofInt 64 1).toNat = 1 := by decide
  have key : (BitVec.ofInt 64 (i : Int) ^^^ BitVec.ofInt 64 1).toNat = i ^^^ 1 := by
    rw [BitVec.toNat_xor, BitVec.toNat_ofInt, h1]
    congr 1
    omega
  have hx : i ^^^ 1 = xo i := by
    have a := Nat.xor_div_two (a := i) (b := 1)
    have b := @Nat.xor_mod_two_eq_one i 1
    rw [show (1 : Nat) / 2 = 0 from rfl, Nat.xor_zero] at a
    unfold xo
    split
    · have : (i ^^^ 1) % 2 = 1 := b.mpr (by omega)
      omega
    · have : ¬ (i ^^^ 1) % 2 = 1 := fun hc => (b.mp hc) (by constructor <;> omega)
      omega
  show IntKind.i64.wrap ((BitVec.ofInt 64 (i : Int) ^^^ BitVec.ofInt 64 1).toNat : Nat) = _
  rw [key, hx, IntKind.wrap_i64]
  have : xo i ≤ i + 1 := by unfold xo; split <;> omega
  omega
theorem equal_self (p : List S36) (hb : p.length ≤ 1000) (k : Nat) (hk : 1000 < k) : attestorref07_Equal.f k p p = some true := by
  have hl : ∀ n j k, n + j = p.length → n < k → attestorref07_Equal.l0 k p p (j : Int) = some true := by
    intro n
    induction n with
    | zero => intro j k hj hk; obtain ⟨k, rfl⟩ : ∃ q, k = q + 1 := ⟨k - 1, by omega⟩; rw [attestorref07_Equal.l0, if_neg (by omega)]
    | succ n ih =>
      intro j k hj hk
      obtain ⟨k, rfl⟩ : ∃ q, k = q + 1 := ⟨k - 1, by omega⟩
      rw [attestorref07_Equal.l0, if_pos (by omega), if_pos (by omega), if_pos (by omega), show wrap64 ((j : Int) + 1) = ((j + 1 : Nat) : Int) by unfold wrap64; omega, ih (j + 1) k (by omega) (by omega)]
      simp
  unfold attestorref07_Equal.f
  rw [if_pos rfl]
  exact hl p.length 0 k rfl (by omega)
end Go.Proofs.YtpnpmeogffodgaaDoor.Q
end
section
namespace Go.Proofs.YtpnpmeogffodgaaDoor.Q
open Go.RowKit Go.Proofs.YtpnpmeogffodgaaDoorW.PrintWords Go.Proofs.YtpnpmeogffodgaaDoorW.PrintLast Go.Proofs.YtpnpmeogffodgaaDoorW.PrintMore
attribute [local go_sem] max2_int min2_int max_two min_two max_three min_three max_four min_four   -- for this text's walks alone
set_option linter.unusedVariables false
set_option linter.unusedSimpArgs false

/-! ### rows_Clone: function 53 -/
def rows_Clone.f (l0 : List (List Value)) : Option ((List (List Value))) := (some (([] : List (List Value)) : List (List Value))).bind fun y101 => (if y101.length + l0.length < 5864062014805 then (some (y101 ++ l0)) else (none))
set_option maxHeartbeats 8000000 in
set_option maxRecDepth 100000 in
theorem rows_Clone.calls_some (a0_ : Addr) (c0 : Nat) (l0 : List (List Value)) (r : List (List Value)) (w : World) (hr0 : Kd.C (Kd.raw 1) w (some a0_) l0.length l0) (hc0 : l0.length ≤ c0) (h : rows_Clone.f l0 = some r) :
    Calls Tryd.prog 53 #[.slice (some a0_) l0.length c0] w fun e w' => ∃ v0_ : Value, e = .returned (v0_) ∧ Kd.R (Kd.raw 1) 22 w' w.heap.size (fun _ => True) v0_ r ∧ Below w.heap.size w w' := by
  have HR0 := Aside0.mk hr0
  have HC0 := Aside0.mk hc0
  clear hr0 hc0
  have HB := Aside0.mk (Below.refl w.heap.size w)
  have H : ((some (([] : List (List Value)) : List (List Value))).bind fun y101 => (if y101.length + l0.length < 5864062014805 then (some (y101 ++ l0)) else (none))) = some r := h
  clear h
  obtain ⟨y101, hy101⟩ : ∃ y_ : List (List Value), y_ = (([] : List (List Value))) := ⟨_, rfl⟩
  replace H : (if y101.length + l0.length < 5864062014805 then (some (y101 ++ l0)) else (none)) = some r := by first | (rw [hy101]; with_reducible exact H) | (have H2_ := (Option.bind_some _ _).symm.trans H; rw [hy101]; with_reducible exact H2_) | (have H2_ := (Option.bind_some _ _).symm.trans H; with_reducible exact H2_) | with_reducible exact H | (rw [hy101]; exact H) | exact H
  have Ny101 := Aside0.mk hy101
  clear hy101
  by_cases c2 : y101.length + l0.length < 5864062014805
  · rw [if_pos c2] at H
    have LMc2 := Aside0.mk c2
    clear c2
    obtain ⟨y104, hy104⟩ : ∃ y_ : List (List Value), y_ = (y101 ++ l0) := ⟨_, rfl⟩
    replace H : (some y104) = some r := by first | (rw [hy104]; with_reducible exact H) | (have H2_ := (Option.bind_some _ _).symm.trans H; rw [hy104]; with_reducible exact H2_) | (have H2_ := (Option.bind_some _ _).symm.trans H; with_reducible exact H2_) | with_reducible exact H | (rw [hy104]; exact H) | exact H
    have Ny104 := Aside0.mk hy104
    clear hy104
    obtain rfl := Option.some.inj H
    have hnil := fun (W : World) => Lib.run_eql_slice_nil (P := Tryd.prog) W 24 22 (some a0_) l0.length c0 0 0 Tryd.underlying24
    go_enter Tryd.func53, Tryd.ntmps53
    go_wp2_with (first | ((with_reducible refine gate_dst (N := 5) rfl ?_); refine Kd.R_lit (Kd.raw 1) _ 22 ?hg (N := 5) ?hd (xs := ([] : List (List Value))) (inner := []) (ok := fun _ => True) (okp := fun _ => True) ?hr ?hp (fun _ hk => hk) trivial (Below.refl _ _) (Nat.le_refl _) (by simp) ?_; (case hd => rfl); (case hg => rfl); (case hr => first | (go_simp; done) | (go_simp; rfl)); (case hp => exact (Reps.none _ _)); intro v102 w3 ho4 hb hg_ hnew_; clear hg_ hnew_; (first | rw [← Ny101.out] at ho4 | (simp only [Int.reduceToNat] at ho4; rw [← Ny101.out] at ho4)); have n0_ := Aside0.mk (Kd.R_lower ho4 (below_size (by repeat (first | (with_reducible first | exact HB.out | apply below_alloc | apply pw_below_drewN | apply below_drew1) | exact HB.out)))); have n1_ := Aside0.mk (below_step (by repeat (first | (with_reducible first | exact HB.out | apply below_alloc | apply pw_below_drewN | apply below_drew1) | exact HB.out)) hb); clear HB; have HO103 := n0_; have HB := n1_; clear n0_ n1_; clear hb ho4) | ((with_reducible refine gate_builtin (b := .append) (xs := #[.tmp 5, .tmp 6]) rfl ?_); at_builtin; refine Kd.R_append_rows (Kd.raw 1) (w0 := w) w.heap.size rfl (.tmp 5) (.tmp 6) 24 22 (.slice none 0 0) 24 rfl Tryd.underlying24 info22 rfl (by decide) (by omega) v102 y101 l0 _ _ _ (fun _ => True) (fun _ => False) rfl rfl ?aO ?aR (fun _ _ h => h) (fun _ h => h.elim) ?aF ?aB ?aS ?aL ?_; (case aR => repeat (first | exact (Kd.C_below HR0.out HB.out) | (with_reducible refine Kd.C_alloc ?_ _) | (with_reducible refine Kd.C_drewN ?_ _) | (with_reducible refine Kd.C_drew ?_))); (case aB => exact (by repeat (first | (with_reducible first | exact HB.out | apply below_alloc | apply pw_below_drewN | apply below_drew1) | exact HB.out))); (case aF => exact (fun _ _ => trivial)); (case aO => exact (by (with_reducible repeat (first | apply Kd.R_alloc | apply Kd.R_drewN | apply Kd.R_drew)); exact HO103.out)); (case aS => exact (below_size (by repeat (first | (with_reducible first | exact HB.out | apply below_alloc | apply pw_below_drewN | apply below_drew1) | exact HB.out)))); (case aL => have := LMc2.out; omega); intro v105 w5 ho hb hg hat; rw [← Ny104.out] at ho; have n0_ := Aside0.mk (hb); have n1_ := Aside0.mk (ho); clear HB; clear HO103; have HB := n0_; have HO106 := n1_; clear n0_ n1_; clear ho hb hg hat))
    go_ret
    exact ⟨_, by first | rfl | (simp [errW_none, errW_some] <;> rfl) | (simp [*, errW_none, errW_some] <;> rfl), by (with_reducible repeat (first | apply Kd.R_alloc | apply Kd.R_drewN | apply Kd.R_drew)); exact HO106.out, by repeat (first | (with_reducible first | exact HB.out | apply below_alloc | apply pw_below_drewN | apply below_drew1) | exact HB.out)⟩
  · rw [if_neg c2] at H
    exact absurd H (by simp)
set_option maxHeartbeats 1000000 in
theorem rows_Clone.calls_none (c0 : Nat) (l0 : List (List Value)) (r : List (List Value)) (w : World) (hr0 : Kd.C (Kd.raw 1) w none l0.length l0) (hc0 : l0.length ≤ c0) (h : rows_Clone.f l0 = some r) :
    Calls Tryd.prog 53 #[.slice none l0.length c0] w fun e w' => ∃ v0_ : Value, e = .returned (v0_) ∧ Kd.R (Kd.raw 1) 22 w' w.heap.size (fun _ => True) v0_ r ∧ Below w.heap.size w w' := by
  have hl0 : l0 = [] := by
    by_cases hz : l0.length = 0
    · exact List.eq_nil_of_length_eq_zero hz
    · obtain ⟨ad, c, e, _⟩ := Kd.C_get hr0 [] 0 (by omega) (by omega)
      cases e
  subst hl0
  unfold rows_Clone.f at h
  have hr : r = [] := by simp at h; first | exact h | exact h.symm
  subst hr
  clear h hr0 hc0
  have hnil := fun (W : World) => Lib.run_eql_slice_nil (P := Tryd.prog) W 24 22 none 0 c0 0 0 Tryd.underlying24
  go_enter Tryd.func53, Tryd.ntmps53
  go_wp2
  go_ret
  exact ⟨_, rfl, by first | exact Kd.R_nil _ _ _ _ _ | exact Kd.S_nil _ _ _ _ _ | exact Kd.N_nil _ _ _ _ _ | exact Kd.V_nil _ _ _ _ _ | exact Kd.Q_nil _ _ _ _ _, Below.refl _ _⟩
theorem rows_Clone.calls (A0 : Option Addr) (c0 : Nat) (l0 : List (List Value)) (r : List (List Value)) (w : World) (hr0 : Kd.C (Kd.raw 1) w A0 l0.length l0) (hc0 : l0.length ≤ c0) (h : rows_Clone.f l0 = some r) :
    Calls Tryd.prog 53 #[.slice A0 l0.length c0] w fun e w' => ∃ v0_ : Value, e = .returned (v0_) ∧ Kd.R (Kd.raw 1) 22 w' w.heap.size (fun _ => True) v0_ r ∧ Below w.heap.size w w' := by
  cases A0 with
  | none => exact rows_Clone.calls_none c0 l0 r w hr0 hc0 h
  | some a => exact rows_Clone.calls_some a c0 l0 r w hr0 hc0 h
end Go.Proofs.YtpnpmeogffodgaaDoor.Q
end
section
namespace Go.Proofs.YtpnpmeogffodgaaDoor.Q
open Go.RowKit Go.Proofs.YtpnpmeogffodgaaDoorW.PrintWords Go.Proofs.YtpnpmeogffodgaaDoorW.PrintLast Go.Proofs.YtpnpmeogffodgaaDoorW.PrintMore
attribute [local go_sem] max2_int min2_int max_two min_two max_three min_three max_four min_four run_store_fnV run_store_fnc run_store_nfn   -- for this text's walks alone
set_option linter.unusedVariables false
set_option linter.unusedSimpArgs false

/-! ### attestorref07_Same: function 15 -/
mutual
def attestorref07_Same.j0 : Nat → Bool → Int → Int → Int → List (List (S36)) → Int → Int → Int → List (List (S36)) → Option (Bool)
  | 0, _, _, _, _, _, _, _, _, _ => none
  | k + 1, dt, aR, aS, aT, aG, aU, aV, aW, aH => if dt = true then (some false) else (attestorref07_Same.l0 k 0 aR aS aT aG aU aV aW aH)
def attestorref07_Same.l0 : Nat → Int → Int → Int → Int → List (List (S36)) → Int → Int → Int → List (List (S36)) → Option (Bool)
  | 0, _, _, _, _, _, _, _, _, _ => none
  | k + 1, x5, aR, aS, aT, aG, aU, aV, aW, aH => if x5 < (aG.length : Int) then (if 0 ≤ x5 then (if x5 < (aH.length : Int) then ((attestorref07_Equal.f k (rd_L3 aG x5) (rd_L3 aH x5)).bind fun bd => (if bd = true then (attestorref07_Same.l0 k (wrap64 (x5 + 1)) aR aS aT aG aU aV aW aH) else (some false))) else (none)) else (none)) else (some true)
end
def attestorref07_Same.f (k : Nat) (ae : Int) (af : Int) (ag : Int) (ad : List (List (S36))) (al : Int) (am : Int) (ao : Int) (ah : List (List (S36))) : Option (Bool) := if ae = al then (if af = am then (if ag = ao then (attestorref07_Same.j0 k ((ad.length : Int) != (ah.length : Int)) ae af ag ad al am ao ah) else (attestorref07_Same.j0 k true ae af ag ad al am ao ah)) else (attestorref07_Same.j0 k true ae af ag ad al am ao ah)) else (attestorref07_Same.j0 k true ae af ag ad al am ao ah)
theorem attestorref07_Same.mono_l : ∀ k, (∀ y0 y1 y2 y3 y4 y5 y6 y7 y8, LeO (attestorref07_Same.j0 k y0 y1 y2 y3 y4 y5 y6 y7 y8) (attestorref07_Same.j0 (k + 1) y0 y1 y2 y3 y4 y5 y6 y7 y8)) ∧ (∀ y0 y1 y2 y3 y4 y5 y6 y7 y8, LeO (attestorref07_Same.l0 k y0 y1 y2 y3 y4 y5 y6 y7 y8) (attestorref07_Same.l0 (k + 1) y0 y1 y2 y3 y4 y5 y6 y7 y8))
  | 0 => ⟨fun _ _ _ _ _ _ _ _ _ r h => by simp [attestorref07_Same.j0] at h, fun _ _ _ _ _ _ _ _ _ r h => by simp [attestorref07_Same.l0] at h⟩
  | k + 1 => by
    obtain ⟨ih0, ih1⟩ := attestorref07_Same.mono_l k
    refine ⟨?_, ?_⟩
    · intro y0 y1 y2 y3 y4 y5 y6 y7 y8
      unfold attestorref07_Same.j0
      repeat' first
      | (with_reducible exact ih0 _ _ _ _ _ _ _ _ _)
      | (with_reducible exact ih1 _ _ _ _ _ _ _ _ _)
      | (with_reducible exact attestorref07_Equal.mono _ _ _)
      | (with_reducible exact LeO.refl _)
      | (with_reducible exact LeO.none _)
      | (with_reducible refine LeO.ite ?_ ?_)
      | (with_reducible refine LeO.bind ?_ (fun _ => ?_))
      | exact ih0 _ _ _ _ _ _ _ _ _
      | exact ih1 _ _ _ _ _ _ _ _ _
      | exact attestorref07_Equal.mono _ _ _
      | exact LeO.none _
      | refine LeO.ite ?_ ?_
      | refine LeO.bind ?_ (fun _ => ?_)
    · intro y0 y1 y2 y3 y4 y5 y6 y7 y8
      unfold attestorref07_Same.l0
      repeat' first
      | (with_reducible exact ih0 _ _ _ _ _ _ _ _ _)
      | (with_reducible exact ih1 _ _ _ _ _ _ _ _ _)
      | (with_reducible exact attestorref07_Equal.mono _ _ _)
      | (with_reducible exact LeO.refl _)
      | (with_reducible exact LeO.none _)
      | (with_reducible refine LeO.ite ?_ ?_)
      | (with_reducible refine LeO.bind ?_ (fun _ => ?_))
      | exact ih0 _ _ _ _ _ _ _ _ _
      | exact ih1 _ _ _ _ _ _ _ _ _
      | exact attestorref07_Equal.mono _ _ _
      | exact LeO.none _
      | refine LeO.ite ?_ ?_
      | refine LeO.bind ?_ (fun _ => ?_)
theorem attestorref07_Same.mono : ∀ a0 a1 a2 a3 a4 a5 a6 a7 k, LeO (attestorref07_Same.f k a0 a1 a2 a3 a4 a5 a6 a7) (attestorref07_Same.f (k + 1) a0 a1 a2 a3 a4 a5 a6 a7) := by
  intro a0 a1 a2 a3 a4 a5 a6 a7 k
  obtain ⟨ih0, ih1⟩ := attestorref07_Same.mono_l k
  unfold attestorref07_Same.f
  repeat' first
      | (with_reducible exact ih0 _ _ _ _ _ _ _ _ _)
      | (with_reducible exact ih1 _ _ _ _ _ _ _ _ _)
      | (with_reducible exact attestorref07_Equal.mono _ _ _)
      | (with_reducible exact LeO.refl _)
      | (with_reducible exact LeO.none _)
      | (with_reducible refine LeO.ite ?_ ?_)
      | (with_reducible refine LeO.bind ?_ (fun _ => ?_))
      | exact ih0 _ _ _ _ _ _ _ _ _
      | exact ih1 _ _ _ _ _ _ _ _ _
      | exact attestorref07_Equal.mono _ _ _
      | exact LeO.none _
      | refine LeO.ite ?_ ?_
      | refine LeO.bind ?_ (fun _ => ?_)
set_option maxHeartbeats 8000000 in
set_option maxRecDepth 100000 in
theorem attestorref07_Same.calls (k : Nat) (ae : Int) (af : Int) (ag : Int) (ap : Option Addr) (aq : Nat) (ad : List (List (S36))) (al : Int) (am : Int) (ao : Int) (aE : Option Addr) (aF : Nat) (ah : List (List (S36))) (r : Bool) (w : World) (bg : Kd.C (Kd.slice 36 k36) w ap ad.length ad) (bh : ad.length ≤ aq) (bi : Kd.C (Kd.slice 36 k36) w aE ah.length ah) (bj : ah.length ≤ aF) (h : attestorref07_Same.f k ae af ag ad al am ao ah = some r) :
  Calls Tryd.prog 15 #[.agg #[.int .i64 ae, .int .i64 af, .int .i64 ag, .slice ap ad.length aq], .agg #[.int .i64 al, .int .i64 am, .int .i64 ao, .slice aE ah.length aF]] w fun e w' => e = .returned (.bool r) ∧ Below w.heap.size w w' := by
 have hu26 := Tryd.underlying26
 have bk := aj bg
 have dv := aj bh
 clear bg bh
 have bl := aj bi
 have dw := aj bj
 clear bi bj
 have HB := aj (Below.refl w.heap.size w)
 have H : (if ae = al then (if af = am then (if ag = ao then (attestorref07_Same.j0 k ((ad.length : Int) != (ah.length : Int)) ae af ag ad al am ao ah) else (attestorref07_Same.j0 k true ae af ag ad al am ao ah)) else (attestorref07_Same.j0 k true ae af ag ad al am ao ah)) else (attestorref07_Same.j0 k true ae af ag ad al am ao ah)) = some r := h
 clear h
 have bq := aj H
 clear H
 go_enter Tryd.func15, Tryd.ntmps15
 go_upto_region 1 with (first | ((with_reducible refine gate_dst (N := 2) rfl ?_); (try (refine gate_guard (by rfl) ?_; dsimp only)); refine box_event ?hg (N := 2) ?hd (cs := #[.int .i64 ae, .int .i64 af, .int .i64 ag, .slice ap ad.length aq]) (t := 26) ?hr ?_; (case hd => rfl); (case hg => rfl); (case hr => first | (go_simp; done) | (go_simp; rfl)); intro ac hg w4 hbox hb; have aC := aj (below_step HB.out hb); have aD := aj (hbox); have aX := aj ((by rw [hg]; exact (below_size HB.out) : w.heap.size ≤ ac)); clear HB; have HB := aC; have aa := aD; have av := aX; clear aC aD aX; clear hb hbox hg) | ((with_reducible refine gate_dst (N := 3) rfl ?_); (try (refine gate_guard (by rfl) ?_; dsimp only)); refine box_event ?hg (N := 3) ?hd (cs := #[.int .i64 al, .int .i64 am, .int .i64 ao, .slice aE ah.length aF]) (t := 26) ?hr ?_; (case hd => rfl); (case hg => rfl); (case hr => first | (go_simp; done) | (go_simp; rfl)); intro ak hg w5 hbox hb; have aC := aj (blk_below aa.out hb); have aD := aj (below_step HB.out hb); have aY := aj (hbox); have aZ := aj ((by rw [hg]; exact (below_size HB.out) : w.heap.size ≤ ak)); have a8 := aj ((by rw [hg]; exact Nat.ne_of_lt (blk_lt aa.out) : ac ≠ ak)); have a9 := aj ((by rw [hg]; exact Nat.ne_of_gt (blk_lt aa.out) : ak ≠ ac)); clear aa; clear HB; have aa := aC; have HB := aD; have ab := aY; have aM := aZ; have ar := a8; have au := a9; clear aC aD aY aZ a8 a9; clear hb hbox hg))
 repeat (go_quiet (first | ((with_reducible refine gate_dst (N := 2) rfl ?_); (try (refine gate_guard (by rfl) ?_; dsimp only)); refine box_event ?hg (N := 2) ?hd (cs := #[.int .i64 ae, .int .i64 af, .int .i64 ag, .slice ap ad.length aq]) (t := 26) ?hr ?_; (case hd => rfl); (case hg => rfl); (case hr => first | (go_simp; done) | (go_simp; rfl)); intro ac hg w4 hbox hb; have aC := aj (below_step HB.out hb); have aD := aj (hbox); have aX := aj ((by rw [hg]; exact (below_size HB.out) : w.heap.size ≤ ac)); clear HB; have HB := aC; have aa := aD; have av := aX; clear aC aD aX; clear hb hbox hg) | ((with_reducible refine gate_dst (N := 3) rfl ?_); (try (refine gate_guard (by rfl) ?_; dsimp only)); refine box_event ?hg (N := 3) ?hd (cs := #[.int .i64 al, .int .i64 am, .int .i64 ao, .slice aE ah.length aF]) (t := 26) ?hr ?_; (case hd => rfl); (case hg => rfl); (case hr => first | (go_simp; done) | (go_simp; rfl)); intro ak hg w5 hbox hb; have aC := aj (blk_below aa.out hb); have aD := aj (below_step HB.out hb); have aY := aj (hbox); have aZ := aj ((by rw [hg]; exact (below_size HB.out) : w.heap.size ≤ ak)); have a8 := aj ((by rw [hg]; exact Nat.ne_of_lt (blk_lt aa.out) : ac ≠ ak)); have a9 := aj ((by rw [hg]; exact Nat.ne_of_gt (blk_lt aa.out) : ak ≠ ac)); clear aa; clear HB; have aa := aC; have HB := aD; have ab := aY; have aM := aZ; have ar := a8; have au := a9; clear aC aD aY aZ a8 a9; clear hb hbox hg)); go_upto_region 1 with (first | ((with_reducible refine gate_dst (N := 2) rfl ?_); (try (refine gate_guard (by rfl) ?_; dsimp only)); refine box_event ?hg (N := 2) ?hd (cs := #[.int .i64 ae, .int .i64 af, .int .i64 ag, .slice ap ad.length aq]) (t := 26) ?hr ?_; (case hd => rfl); (case hg => rfl); (case hr => first | (go_simp; done) | (go_simp; rfl)); intro ac hg w4 hbox hb; have aC := aj (below_step HB.out hb); have aD := aj (hbox); have aX := aj ((by rw [hg]; exact (below_size HB.out) : w.heap.size ≤ ac)); clear HB; have HB := aC; have aa := aD; have av := aX; clear aC aD aX; clear hb hbox hg) | ((with_reducible refine gate_dst (N := 3) rfl ?_); (try (refine gate_guard (by rfl) ?_; dsimp only)); refine box_event ?hg (N := 3) ?hd (cs := #[.int .i64 al, .int .i64 am, .int .i64 ao, .slice aE ah.length aF]) (t := 26) ?hr ?_; (case hd => rfl); (case hg => rfl); (case hr => first | (go_simp; done) | (go_simp; rfl)); intro ak hg w5 hbox hb; have aC := aj (blk_below aa.out hb); have aD := aj (below_step HB.out hb); have aY := aj (hbox); have aZ := aj ((by rw [hg]; exact (below_size HB.out) : w.heap.size ≤ ak)); have a8 := aj ((by rw [hg]; exact Nat.ne_of_lt (blk_lt aa.out) : ac ≠ ak)); have a9 := aj ((by rw [hg]; exact Nat.ne_of_gt (blk_lt aa.out) : ak ≠ ac)); clear aa; clear HB; have aa := aC; have HB := aD; have ab := aY; have aM := aZ; have ar := a8; have au := a9; clear aC aD aY aZ a8 a9; clear hb hbox hg)))
 (try simp only [Act.put, List.setIfInBounds_toArray, List.set_cons_zero, List.set_cons_succ])
 go_cut [33] (fun du wc => ∃ (kq : Nat) (ba : Bool), du = .bool ba ∧ Aside0 (attestorref07_Same.j0 kq ba ae af ag ad al am ao ah = some r) ∧ Aside0 (kq ≤ k) ∧ Aside0 (wc.heap[ac]? = some (.cells #[.int .i64 ae, .int .i64 af, .int .i64 ag, (.slice ap ad.length aq)] 26 (0, 0))) ∧ Aside0 (wc.heap[ak]? = some (.cells #[.int .i64 al, .int .i64 am, .int .i64 ao, (.slice aE ah.length aF)] 26 (0, 0))) ∧ Aside0 (Below w.heap.size w wc))
 case first =>
  have H := bq.out
  clear bq
  by_cases c6 : ae = al
  ·rw [if_pos c6] at H
   have c6b0 : (ae == al) = true := beq_iff_eq.mpr c6
   have c6b1 : (ae != al) = false := bne_eq_false_iff_eq.mpr c6
   clear c6
   (first | rw [c6b0] | (simp only [i64_w, i32_w]; rw [c6b0]) | skip)
   by_cases c7 : af = am
   ·rw [if_pos c7] at H
    have c7b0 : (af == am) = true := beq_iff_eq.mpr c7
    have c7b1 : (af != am) = false := bne_eq_false_iff_eq.mpr c7
    clear c7
    by_cases c8 : ag = ao
    ·rw [if_pos c8] at H
     have c8b0 : (ag == ao) = true := beq_iff_eq.mpr c8
     have c8b1 : (ag != ao) = false := bne_eq_false_iff_eq.mpr c8
     clear c8
     have H' := aj H
     clear H
     have dF := ar.out
     have dG := au.out
     have bC := bq_ aa 0
     have bD := bq_ aa 1
     have bE := bq_ aa 2
     have bF := bq_ aa 3
     have bG := blk_frozen aa.out 0
     have bH := blk_frozen aa.out 1
     have bI := blk_frozen aa.out 2
     have bJ := blk_frozen aa.out 3
     have bK := bq_ ab 0
     have bL := bq_ ab 1
     have bM := bq_ ab 2
     have bN := bq_ ab 3
     have bO := blk_frozen ab.out 0
     have bP := blk_frozen ab.out 1
     have bQ := blk_frozen ab.out 2
     have bR := blk_frozen ab.out 3
     go_wp2
     repeat (go_quiet (fail); try go_wp2)
     go_meet
     case rel => exact ⟨_, (((ad.length : Int) != (ah.length : Int))), (by first | rfl | simp), H', ⟨by first | omega | exact Nat.le_refl _⟩, ⟨aa.out⟩, ⟨ab.out⟩, ⟨HB.out⟩⟩
    ·rw [if_neg c8] at H
     have c8b0 : (ag == ao) = false := beq_eq_false_iff_ne.mpr c8
     have c8b1 : (ag != ao) = true := bne_iff_ne.mpr c8
     have H' := aj H
     clear H
     have dx := ar.out
     have dy := au.out
     have bS := bq_ aa 0
     have bT := bq_ aa 1
     have bU := bq_ aa 2
     have bV := bq_ aa 3
     have bW := blk_frozen aa.out 0
     have bX := blk_frozen aa.out 1
     have bY := blk_frozen aa.out 2
     have bZ := blk_frozen aa.out 3
     have b0 := bq_ ab 0
     have b1 := bq_ ab 1
     have b2 := bq_ ab 2
     have b3 := bq_ ab 3
     have b4 := blk_frozen ab.out 0
     have b5 := blk_frozen ab.out 1
     have b6 := blk_frozen ab.out 2
     have b7 := blk_frozen ab.out 3
     go_wp2
     repeat (go_quiet (fail); try go_wp2)
     go_meet
     case rel => exact ⟨_, (true), (by first | rfl | simp), H', ⟨by first | omega | exact Nat.le_refl _⟩, ⟨aa.out⟩, ⟨ab.out⟩, ⟨HB.out⟩⟩
   ·rw [if_neg c7] at H
    have c7b0 : (af == am) = false := beq_eq_false_iff_ne.mpr c7
    have c7b1 : (af != am) = true := bne_iff_ne.mpr c7
    have H' := aj H
    clear H
    have dz := ar.out
    have dA := au.out
    have b8 := bq_ aa 0
    have b9 := bq_ aa 1
    have ca := bq_ aa 2
    have cb := bq_ aa 3
    have cc := blk_frozen aa.out 0
    have cd := blk_frozen aa.out 1
    have ce := blk_frozen aa.out 2
    have cf := blk_frozen aa.out 3
    have cg := bq_ ab 0
    have ci := bq_ ab 1
    have cj := bq_ ab 2
    have ck := bq_ ab 3
    have cl := blk_frozen ab.out 0
    have cm := blk_frozen ab.out 1
    have cn := blk_frozen ab.out 2
    have co := blk_frozen ab.out 3
    go_wp2
    repeat (go_quiet (fail); try go_wp2)
    go_meet
    case rel => exact ⟨_, (true), (by first | rfl | simp), H', ⟨by first | omega | exact Nat.le_refl _⟩, ⟨aa.out⟩, ⟨ab.out⟩, ⟨HB.out⟩⟩
  ·rw [if_neg c6] at H
   have c6b0 : (ae == al) = false := beq_eq_false_iff_ne.mpr c6
   have c6b1 : (ae != al) = true := bne_iff_ne.mpr c6
   (first | rw [c6b0] | (simp only [i64_w, i32_w]; rw [c6b0]) | skip)
   have H' := aj H
   clear H
   have dB := ar.out
   have dC := au.out
   have cp := bq_ aa 0
   have cq := bq_ aa 1
   have cr := bq_ aa 2
   have ct := bq_ aa 3
   have cu := blk_frozen aa.out 0
   have cv := blk_frozen aa.out 1
   have cw := blk_frozen aa.out 2
   have cx := blk_frozen aa.out 3
   have cy := bq_ ab 0
   have cz := bq_ ab 1
   have cA := bq_ ab 2
   have cB := bq_ ab 3
   have cC := blk_frozen ab.out 0
   have cD := blk_frozen ab.out 1
   have cE := blk_frozen ab.out 2
   have cF := blk_frozen ab.out 3
   go_wp2
   repeat (go_quiet (fail); try go_wp2)
   go_meet
   case rel => exact ⟨_, (true), (by first | rfl | simp), H', ⟨by first | omega | exact Nat.le_refl _⟩, ⟨aa.out⟩, ⟨ab.out⟩, ⟨HB.out⟩⟩
 case rest =>
  clear bq
  obtain ⟨kq, ba, rfl, HA, bA, aa, ab, HB⟩ := hcut
  cases kq with
  | zero => exact absurd HA.out (by simp [attestorref07_Same.j0])
  | succ kj2 =>
   have H := HA.out
   clear HA
   simp only [attestorref07_Same.j0] at H
   by_cases bm : ba = true
   ·subst bm
    have H1 : (some false) = some r := by rw [if_pos rfl] at H; exact H
    clear H
    have H := H1
    clear H1
    obtain rfl := Option.some.inj H
    go_wp2
    repeat (go_quiet (fail); try go_wp2)
    go_ret
    exact ⟨by first | rfl | (simp [errW_none, errW_some] <;> rfl) | (simp [*, errW_none, errW_some] <;> rfl), HB.out⟩
   ·replace bm := Bool.eq_false_iff.mpr bm
    subst bm
    have H1 : (attestorref07_Same.l0 kj2 0 ae af ag ad al am ao ah) = some r := by rw [if_neg (show ¬ (false = true) by decide)] at H; exact H
    clear H
    have H := H1
    clear H1
    have H' := aj H
    clear H
    go_wp2
    repeat (go_quiet (fail); try go_wp2)
    go_loopg [5] kj2 (fun kq v5 w' => ∃ (ai : Int), v5 = .int .i64 ai ∧ Aside0 (attestorref07_Same.l0 kq ai ae af ag ad al am ao ah = some r) ∧ Aside0 (kq ≤ kj2) ∧ Aside0 (w'.heap[ac]? = some (.cells #[.int .i64 ae, .int .i64 af, .int .i64 ag, (.slice ap ad.length aq)] 26 (0, 0))) ∧ Aside0 (w'.heap[ak]? = some (.cells #[.int .i64 al, .int .i64 am, .int .i64 ao, (.slice aE ah.length aF)] 26 (0, 0))) ∧ Aside0 (Below w.heap.size w w'))
    case atStart => exact ⟨(0), (by first | rfl | simp), H', ⟨Nat.le_refl _⟩, ⟨aa.out⟩, ⟨ab.out⟩, ⟨HB.out⟩⟩
    case round =>
     clear H'
     obtain ⟨ai, rfl, HA, bB, aa, ab, HB⟩ := hrel
     cases gk with
     | zero => exact absurd HA.out (by simp [attestorref07_Same.l0])
     | succ k2 =>
      have H := HA.out
      clear HA
      simp only [attestorref07_Same.l0] at H
      by_cases bb : ai < (ad.length : Int)
      ·rw [if_pos bb] at H
       have c22b0 : decide (ai < (ad.length : Int)) = true := decide_eq_true bb
       clear bb
       by_cases bn : 0 ≤ ai
       ·rw [if_pos bn] at H
        have c23b0 : decide (0 ≤ ai) = true := decide_eq_true bn
        clear bn
        by_cases bo : ai < (ah.length : Int)
        ·rw [if_pos bo] at H
         have c24b0 : decide (ai < (ah.length : Int)) = true := decide_eq_true bo
         clear bo
         replace H := Option.bind_eq_some_iff.mp H
         obtain ⟨bd, br, H⟩ := H
         replace H : (if bd = true then (attestorref07_Same.l0 k2 (wrap64 (ai + 1)) ae af ag ad al am ao ah) else (some false)) = some r := H
         have bc := aj br
         clear br
         by_cases bp : bd = true
         ·subst bp
          have H1 : (attestorref07_Same.l0 k2 (wrap64 (ai + 1)) ae af ag ad al am ao ah) = some r := by rw [if_pos rfl] at H; exact H
          clear H
          have H := H1
          clear H1
          have H' := aj H
          clear H
          obtain ⟨cG, cH, cI, cJ, cK, cL, cM, cN⟩ := bc4 aa
          have aN : 0 ≤ (ai : Int) := of_decide_eq_true (by assumption)
          have aO : ai < (ad.length : Int) := of_decide_eq_true (by assumption)
          obtain ⟨bx, bs, bu, be, aw, aI, aJ⟩ := at_L3 bk.out ai aN aO
          cases be
          replace aw := (HB.out.cell (World.block_lt_of_cell? w _ aw)).trans aw
          have ax := aj aJ
          have ay := aj aI
          clear aJ aI
          replace aN := eq_true aN
          replace aO := eq_true aO
          obtain ⟨cO, cP, cQ, cR, cS, cT, cU, cV⟩ := bc4 ab
          have aP : 0 ≤ (ai : Int) := of_decide_eq_true (by assumption)
          have aQ : ai < (ah.length : Int) := of_decide_eq_true (by assumption)
          obtain ⟨bz, bv, bw, bf, az, aK, aL⟩ := at_L3 bl.out ai aP aQ
          cases bf
          replace az := (HB.out.cell (World.block_lt_of_cell? w _ az)).trans az
          have aA := aj aL
          have aB := aj aK
          clear aL aK
          replace aP := eq_true aP
          replace aQ := eq_true aQ
          go_wp2_with (first | (go_at_call 18; (with_reducible refine (attestorref07_Equal.calls k2 _ _ (rd_L3 ad ai) _ _ (rd_L3 ah ai) true _ ?side1 ?side2 ?side3 ?side4 bc.out).mono ?_); (case side1 => exact (Kd.C_below ax.out HB.out)); (case side2 => exact ay.out); (case side3 => exact (Kd.C_below aA.out HB.out)); (case side4 => exact aB.out); rintro e w' ⟨rfl, ⟨nd, rfl⟩⟩; (try first | exact ⟨rfl, _, World.drewN_drewN _ _ _⟩ | exact ⟨rfl, _, Eq.trans (World.drewN_drewN _ _ _) (congrArg (World.drewN _) (Nat.add_assoc _ _ _))⟩)))
          repeat (go_quiet (first | (go_at_call 18; (with_reducible refine (attestorref07_Equal.calls k2 _ _ (rd_L3 ad ai) _ _ (rd_L3 ah ai) true _ ?side1 ?side2 ?side3 ?side4 bc.out).mono ?_); (case side1 => repeat (first | exact (Kd.C_below ax.out HB.out) | (with_reducible refine Kd.C_alloc ?_ _) | (with_reducible refine Kd.C_drewN ?_ _) | (with_reducible refine Kd.C_drew ?_))); (case side2 => exact ay.out); (case side3 => repeat (first | exact (Kd.C_below aA.out HB.out) | (with_reducible refine Kd.C_alloc ?_ _) | (with_reducible refine Kd.C_drewN ?_ _) | (with_reducible refine Kd.C_drew ?_))); (case side4 => exact aB.out); rintro e w' ⟨rfl, ⟨nd, rfl⟩⟩; (try first | exact ⟨rfl, _, World.drewN_drewN _ _ _⟩ | exact ⟨rfl, _, Eq.trans (World.drewN_drewN _ _ _) (congrArg (World.drewN _) (Nat.add_assoc _ _ _))⟩))); try go_wp2)
          go_roundg k2
          case measure => have := bA.out; have := bB.out; omega
          case rel => exact ⟨(wrap64 (ai + 1)), (by first | rfl | simp), H', ⟨by have := bA.out; have := bB.out; omega⟩, ⟨aa.out⟩, ⟨ab.out⟩, ⟨(by first | exact HB.out | exact below_drew1 HB.out | exact pw_below_drewN HB.out _)⟩⟩
         ·replace bp := Bool.eq_false_iff.mpr bp
          subst bp
          have H1 : (some false) = some r := by rw [if_neg (show ¬ (false = true) by decide)] at H; exact H
          clear H
          have H := H1
          clear H1
          obtain rfl := Option.some.inj H
          obtain ⟨cW, cX, cY, cZ, c0, c1, da, db⟩ := bc4 aa
          have aN : 0 ≤ (ai : Int) := of_decide_eq_true (by assumption)
          have aO : ai < (ad.length : Int) := of_decide_eq_true (by assumption)
          obtain ⟨bx, bs, bu, be, aw, aI, aJ⟩ := at_L3 bk.out ai aN aO
          cases be
          replace aw := (HB.out.cell (World.block_lt_of_cell? w _ aw)).trans aw
          have ax := aj aJ
          have ay := aj aI
          clear aJ aI
          replace aN := eq_true aN
          replace aO := eq_true aO
          obtain ⟨dc, dd, de, df, dg, dh, di, dj⟩ := bc4 ab
          have aP : 0 ≤ (ai : Int) := of_decide_eq_true (by assumption)
          have aQ : ai < (ah.length : Int) := of_decide_eq_true (by assumption)
          obtain ⟨bz, bv, bw, bf, az, aK, aL⟩ := at_L3 bl.out ai aP aQ
          cases bf
          replace az := (HB.out.cell (World.block_lt_of_cell? w _ az)).trans az
          have aA := aj aL
          have aB := aj aK
          clear aL aK
          replace aP := eq_true aP
          replace aQ := eq_true aQ
          go_wp2_with (first | (go_at_call 18; (with_reducible refine (attestorref07_Equal.calls k2 _ _ (rd_L3 ad ai) _ _ (rd_L3 ah ai) false _ ?side1 ?side2 ?side3 ?side4 bc.out).mono ?_); (case side1 => exact (Kd.C_below ax.out HB.out)); (case side2 => exact ay.out); (case side3 => exact (Kd.C_below aA.out HB.out)); (case side4 => exact aB.out); rintro e w' ⟨rfl, ⟨nd, rfl⟩⟩; (try first | exact ⟨rfl, _, World.drewN_drewN _ _ _⟩ | exact ⟨rfl, _, Eq.trans (World.drewN_drewN _ _ _) (congrArg (World.drewN _) (Nat.add_assoc _ _ _))⟩)))
          repeat (go_quiet (first | (go_at_call 18; (with_reducible refine (attestorref07_Equal.calls k2 _ _ (rd_L3 ad ai) _ _ (rd_L3 ah ai) false _ ?side1 ?side2 ?side3 ?side4 bc.out).mono ?_); (case side1 => repeat (first | exact (Kd.C_below ax.out HB.out) | (with_reducible refine Kd.C_alloc ?_ _) | (with_reducible refine Kd.C_drewN ?_ _) | (with_reducible refine Kd.C_drew ?_))); (case side2 => exact ay.out); (case side3 => repeat (first | exact (Kd.C_below aA.out HB.out) | (with_reducible refine Kd.C_alloc ?_ _) | (with_reducible refine Kd.C_drewN ?_ _) | (with_reducible refine Kd.C_drew ?_))); (case side4 => exact aB.out); rintro e w' ⟨rfl, ⟨nd, rfl⟩⟩; (try first | exact ⟨rfl, _, World.drewN_drewN _ _ _⟩ | exact ⟨rfl, _, Eq.trans (World.drewN_drewN _ _ _) (congrArg (World.drewN _) (Nat.add_assoc _ _ _))⟩))); try go_wp2)
          go_ret
          exact ⟨by first | rfl | (simp [errW_none, errW_some] <;> rfl) | (simp [*, errW_none, errW_some] <;> rfl), (by first | exact HB.out | exact below_drew1 HB.out | exact pw_below_drewN HB.out _)⟩
        ·rw [if_neg bo] at H
         exact absurd H (by simp)
       ·rw [if_neg bn] at H
        exact absurd H (by simp)
      ·rw [if_neg bb] at H
       have c22b0 : decide (ai < (ad.length : Int)) = false := decide_eq_false bb
       clear bb
       obtain rfl := Option.some.inj H
       have dD := ar.out
       have dE := au.out
       have dk := bq_ aa 0
       have dl := bq_ aa 1
       have dm := bq_ aa 2
       have dn := bq_ aa 3
       have dp := blk_frozen aa.out 0
       have dq := blk_frozen aa.out 1
       have dr := blk_frozen aa.out 2
       have ds := blk_frozen aa.out 3
       go_wp2
       repeat (go_quiet (fail); try go_wp2)
       go_ret
       exact ⟨by first | rfl | (simp [errW_none, errW_some] <;> rfl) | (simp [*, errW_none, errW_some] <;> rfl), HB.out⟩

end Go.Proofs.YtpnpmeogffodgaaDoor.Q
end
section
namespace Go.Proofs.YtpnpmeogffodgaaDoor.Q
open Go.RowKit Go.Proofs.YtpnpmeogffodgaaDoorW.PrintWords Go.Proofs.YtpnpmeogffodgaaDoorW.PrintLast Go.Proofs.YtpnpmeogffodgaaDoorW.PrintMore
open Go.Proofs.YtpnpmeogffodgaaDoor.Num
set_option linter.unusedVariables false
set_option linter.unusedSimpArgs false
theorem same_l (f h c : Int) (ls : List (List S36)) (hb : ls.length ≤ 100) (hr : ∀ r ∈ ls, r.length ≤ 1000) : ∀ m j k, m + j = ls.length → m + 1001 < k → attestorref07_Same.l0 k (j : Int) f h c ls f h c ls = some true
  | _, _, 0, _, hk => by omega
  | 0, j, k + 1, hj, _ => by rw [attestorref07_Same.l0, if_neg (by omega)]
  | m + 1, j, k + 1, hj, hk => by
    have hrd : rd_L3 ls (j : Int) ∈ ls := by
      have hlt : j < ls.length := by omega
      have e : rd_L3 ls (j : Int) = ls[j] := by unfold rd_L3; rw [Int.toNat_natCast]; simp [List.getD, hlt]
      rw [e]; exact List.getElem_mem hlt
    rw [attestorref07_Same.l0, if_pos (by omega), if_pos (by omega), if_pos (by omega)]
    refine bnd (equal_self _ (hr _ hrd) k (by omega)) ?_
    rw [if_pos rfl, show wrap64 ((j : Int) + 1) = ((j + 1 : Nat) : Int) by unfold wrap64; omega]
    exact same_l f h c ls hb hr m (j + 1) k (by omega) (by omega)
theorem same_self (f h c : Int) (ls : List (List S36)) (hb : ls.length ≤ 100) (hr : ∀ r ∈ ls, r.length ≤ 1000) (k : Nat) (hk : 1200 < k) : attestorref07_Same.f k f h c ls f h c ls = some true := by
  obtain ⟨k, rfl⟩ : ∃ q, k = q + 1 := ⟨k - 1, by omega⟩
  unfold attestorref07_Same.f
  rw [if_pos rfl, if_pos rfl, if_pos rfl, bne_self_eq_false, attestorref07_Same.j0, if_neg (by decide)]
  exact same_l f h c ls hb hr ls.length 0 k rfl (by omega)
end Go.Proofs.YtpnpmeogffodgaaDoor.Q
end
section
namespace Go.Proofs.YtpnpmeogffodgaaDoor.Q
open Go.RowKit Go.Proofs.YtpnpmeogffodgaaDoorW.PrintWords Go.Proofs.YtpnpmeogffodgaaDoorW.PrintLast Go.Proofs.YtpnpmeogffodgaaDoorW.PrintMore
attribute [local go_sem] max2_int min2_int max_two min_two max_three min_three max_four min_four run_store_fnV run_store_fnc run_store_nfn   -- for this text's walks alone
set_option linter.unusedVariables false
set_option linter.unusedSimpArgs false

abbrev z17_0_ : Array Bool := #[false, false, false, false, false, false, false, false, false, false, false, false, false, false, false, false, false, false, false, false, false, false, false]
abbrev z17_1_ : Array Bool := #[true, false, false, false, false, false, false, false, false, false, false, false, false, false, false, false, false, false, false, false, false, false, false]
abbrev z17_2_ : Array Bool := #[true, false, true, false, false, false, false, false, false, false, false, false, false, false, false, false, false, false, false, false, false, false, false]
abbrev z17_3_ : Array Bool := #[true, false, true, false, false, false, true, false, false, false, false, false, false, false, false, false, false, false, false, false, false, false, false]
abbrev z17_4_ : Array Bool := #[true, false, true, false, false, false, true, false, true, false, false, false, false, false, false, false, false, false, false, false, false, false, false]
abbrev z17_5_ : Array Bool := #[true, true, true, false, false, false, true, false, true, false, false, false, false, false, false, false, false, false, false, false, false, false, false]
abbrev z17_6_ : Array Bool := #[true, true, true, true, false, false, true, false, true, false, false, false, false, false, false, false, false, false, false, false, false, false, false]
abbrev z17_7_ : Array Bool := #[true, true, true, true, true, false, true, false, true, false, false, false, false, false, false, false, false, false, false, false, false, false, false]
abbrev z17_8_ : Array Bool := #[true, true, true, true, true, true, true, false, true, false, false, false, false, false, false, false, false, false, false, false, false, false, false]
abbrev z17_9_ : Array Bool := #[true, true, true, true, true, true, true, true, true, false, false, false, false, false, false, false, false, false, false, false, false, false, false]
abbrev z17_10_ : Array Bool := #[true, true, true, true, true, true, true, true, true, true, false, false, false, false, false, false, false, false, false, false, false, false, false]
abbrev z17_11_ : Array Bool := #[true, true, true, true, true, true, true, true, true, true, true, false, false, false, false, false, false, false, false, false, false, false, false]
abbrev z17_12_ : Array Bool := #[true, true, true, true, true, true, true, true, true, true, true, true, false, false, false, false, false, false, false, false, false, false, false]
abbrev z17_13_ : Array Bool := #[true, true, true, true, true, true, true, true, true, true, true, true, true, false, false, false, false, false, false, false, false, false, false]
abbrev z17_14_ : Array Bool := #[true, true, true, true, true, true, true, true, true, true, true, true, true, true, false, false, false, false, false, false, false, false, false]
abbrev z17_15_ : Array Bool := #[true, true, true, true, true, true, true, true, true, true, true, true, true, true, false, true, false, false, false, false, false, false, false]
abbrev z17_16_ : Array Bool := #[true, true, true, true, true, true, true, true, true, true, true, true, true, true, false, true, false, true, false, false, false, false, false]
abbrev z17_17_ : Array Bool := #[true, true, true, true, true, true, true, true, true, true, true, true, true, true, true, true, false, true, false, false, false, false, false]
abbrev z17_18_ : Array Bool := #[true, true, true, true, true, true, true, true, true, true, true, true, true, true, true, true, true, true, false, false, false, false, false]
abbrev z17_19_ : Array Bool := #[true, true, true, true, true, true, true, true, true, true, true, true, true, true, true, true, true, true, true, false, false, false, false]
abbrev z17_20_ : Array Bool := #[true, true, true, true, true, true, true, true, true, true, true, true, true, true, true, true, true, true, true, true, false, false, false]
abbrev z17_21_ : Array Bool := #[true, true, true, true, true, true, true, true, true, true, true, true, true, true, true, true, true, true, true, true, true, false, false]
abbrev z17_22_ : Array Bool := #[true, true, true, true, true, true, true, true, true, true, true, true, true, true, true, true, true, true, true, true, true, true, false]
abbrev z17_23_ : Array Bool := #[true, true, true, true, true, true, true, true, true, true, true, true, true, true, true, true, true, true, true, true, true, true, true]
abbrev z17_24_ : Array Bool := #[true, true, true, true, true, true, true, true, true, true, true, true, true, true, true, false, false, false, false, false, false, false, false]
abbrev z17_25_ : Array Bool := #[true, true, true, true, true, true, true, true, true, true, true, true, true, true, true, true, false, false, false, false, false, false, false]
abbrev z17_26_ : Array Bool := #[true, true, true, true, true, true, true, true, true, true, true, true, true, true, true, true, true, false, false, false, false, false, false]
/-! ### attestorref07_Valid: function 17 -/
mutual
def attestorref07_Valid.j0 : Nat → Bool → Int → Int → Int → List (List (S36)) → Option (Bool)
  | 0, _, _, _, _, _ => none
  | k + 1, cp, aI, aB, aP, ay => if cp = true then (some false) else (attestorref07_Valid.l0 k 0 aI aB aP ay)
def attestorref07_Valid.l0 : Nat → Int → Int → Int → Int → List (List (S36)) → Option (Bool)
  | 0, _, _, _, _, _ => none
  | k + 1, x3, aI, aB, aP, ay => if x3 < (ay.length : Int) then (if 0 ≤ x3 then (if 0 ≤ (wrap64 (aB - x3)) then (if ((rd_L3 ay x3).length : Int) = (shl .i64 1 (wrap64 (aB - x3))) then ((attestorref07_All.f k aI (rd_L3 ay x3)).bind fun aK => (if aK = true then (attestorref07_Valid.l0 k (wrap64 (x3 + 1)) aI aB aP ay) else (some false))) else (some false)) else (none)) else (none)) else (some true)
end
def attestorref07_Valid.f (k : Nat) (ad : Int) (ac : Int) (ae : Int) (ab : List (List (S36))) : Option (Bool) := (attestorref01_Valid.f ad).bind fun aS => (if aS = true then (if ac < 0 then (attestorref07_Valid.j0 k true ad ac ae ab) else (if ac > 18 then (attestorref07_Valid.j0 k true ad ac ae ab) else (if ae < 0 then (attestorref07_Valid.j0 k true ad ac ae ab) else (if ae > ac then (attestorref07_Valid.j0 k true ad ac ae ab) else (attestorref07_Valid.j0 k ((ab.length : Int) != (wrap64 ((wrap64 (ac - ae)) + 1))) ad ac ae ab))))) else (attestorref07_Valid.j0 k true ad ac ae ab))
theorem attestorref07_Valid.mono_l : ∀ k, (∀ y0 y1 y2 y3 y4, LeO (attestorref07_Valid.j0 k y0 y1 y2 y3 y4) (attestorref07_Valid.j0 (k + 1) y0 y1 y2 y3 y4)) ∧ (∀ y0 y1 y2 y3 y4, LeO (attestorref07_Valid.l0 k y0 y1 y2 y3 y4) (attestorref07_Valid.l0 (k + 1) y0 y1 y2 y3 y4))
  | 0 => ⟨fun _ _ _ _ _ r h => by simp [attestorref07_Valid.j0] at h, fun _ _ _ _ _ r h => by simp [attestorref07_Valid.l0] at h⟩
  | k + 1 => by
    obtain ⟨ih0, ih1⟩ := attestorref07_Valid.mono_l k
    refine ⟨?_, ?_⟩
    · intro y0 y1 y2 y3 y4
      unfold attestorref07_Valid.j0
      repeat' first
      | (with_reducible exact ih0 _ _ _ _ _)
      | (with_reducible exact ih1 _ _ _ _ _)
      | (with_reducible exact attestorref07_All.mono _ _ _)
      | (with_reducible exact LeO.refl _)
      | (with_reducible exact LeO.none _)
      | (with_reducible refine LeO.ite ?_ ?_)
      | (with_reducible refine LeO.bind ?_ (fun _ => ?_))
      | exact ih0 _ _ _ _ _
      | exact ih1 _ _ _ _ _
      | exact attestorref07_All.mono _ _ _
      | exact LeO.none _
      | refine LeO.ite ?_ ?_
      | refine LeO.bind ?_ (fun _ => ?_)
    · intro y0 y1 y2 y3 y4
      unfold attestorref07_Valid.l0
      repeat' first
      | (with_reducible exact ih0 _ _ _ _ _)
      | (with_reducible exact ih1 _ _ _ _ _)
      | (with_reducible exact attestorref07_All.mono _ _ _)
      | (with_reducible exact LeO.refl _)
      | (with_reducible exact LeO.none _)
      | (with_reducible refine LeO.ite ?_ ?_)
      | (with_reducible refine LeO.bind ?_ (fun _ => ?_))
      | exact ih0 _ _ _ _ _
      | exact ih1 _ _ _ _ _
      | exact attestorref07_All.mono _ _ _
      | exact LeO.none _
      | refine LeO.ite ?_ ?_
      | refine LeO.bind ?_ (fun _ => ?_)
theorem attestorref07_Valid.mono : ∀ a0 a1 a2 a3 k, LeO (attestorref07_Valid.f k a0 a1 a2 a3) (attestorref07_Valid.f (k + 1) a0 a1 a2 a3) := by
  intro a0 a1 a2 a3 k
  obtain ⟨ih0, ih1⟩ := attestorref07_Valid.mono_l k
  unfold attestorref07_Valid.f
  repeat' first
      | (with_reducible exact ih0 _ _ _ _ _)
      | (with_reducible exact ih1 _ _ _ _ _)
      | (with_reducible exact attestorref07_All.mono _ _ _)
      | (with_reducible exact LeO.refl _)
      | (with_reducible exact LeO.none _)
      | (with_reducible refine LeO.ite ?_ ?_)
      | (with_reducible refine LeO.bind ?_ (fun _ => ?_))
      | exact ih0 _ _ _ _ _
      | exact ih1 _ _ _ _ _
      | exact attestorref07_All.mono _ _ _
      | exact LeO.none _
      | refine LeO.ite ?_ ?_
      | refine LeO.bind ?_ (fun _ => ?_)
def attestorref07_Valid.T6 : Bool × List (List Nat × List Nat) := (true, [([], []), ([0], [0]), ([], []), ([1, 2], [1, 2]), ([3], [3]), ([4], [4]), ([], []), ([6], [6]), ([], []), ([7, 8], [7, 8]), ([9], [9]), ([5, 10], [5, 10]), ([11], [11]), ([12], [12]), ([13, 12], [12, 13]), ([12], [12]), ([15, 12], [12, 15]), ([12], [12]), ([16, 17, 12], [12, 16, 17]), ([18, 12], [12, 18]), ([14, 19, 12, 12], [12, 14, 19]), ([20, 12], [12, 20]), ([12, 21], [12, 21])])
def attestorref07_Valid.B6 : List Nat := [0, 1, 0, 7, 15, 31, 0, 64, 0, 448, 960, 2047, 4095, 8191, 16383, 8191, 40959, 8191, 237567, 499711, 1048575, 2097151, 4194303]
theorem attestorref07_Valid.tab6 : rtab .any (opsOf Tryd.f17 6) = attestorref07_Valid.T6 := by kernel_rfl
theorem attestorref07_Valid.bits6 : waitsOk attestorref07_Valid.T6.2 attestorref07_Valid.B6 = true := by kernel_rfl
set_option maxHeartbeats 8000000 in
set_option maxRecDepth 100000 in
theorem attestorref07_Valid.calls (k : Nat) (ad : Int) (ac : Int) (ae : Int) (ap : Option Addr) (al : Nat) (ab : List (List (S36))) (r : Bool) (w : World) (a6 : Kd.C (Kd.slice 36 k36) w ap ab.length ab) (a7 : ab.length ≤ al) (h : attestorref07_Valid.f k ad ac ae ab = some r) :
  Calls Tryd.prog 17 #[.agg #[.int .i64 ad, .int .i64 ac, .int .i64 ae, .slice ap ab.length al]] w fun e w' => e = .returned (.bool r) ∧ Below w.heap.size w w' := by
 have hu26 := Tryd.underlying26
 have aN := aj a6
 have cI := aj a7
 clear a6 a7
 have HB := aj (Below.refl w.heap.size w)
 have H : ((attestorref01_Valid.f ad).bind fun aS => (if aS = true then (if ac < 0 then (attestorref07_Valid.j0 k true ad ac ae ab) else (if ac > 18 then (attestorref07_Valid.j0 k true ad ac ae ab) else (if ae < 0 then (attestorref07_Valid.j0 k true ad ac ae ab) else (if ae > ac then (attestorref07_Valid.j0 k true ad ac ae ab) else (attestorref07_Valid.j0 k ((ab.length : Int) != (wrap64 ((wrap64 (ac - ae)) + 1))) ad ac ae ab))))) else (attestorref07_Valid.j0 k true ad ac ae ab))) = some r := h
 clear h
 have bb := aj H
 clear H
 go_enter Tryd.func17, Tryd.ntmps17
 go_upto_region 1 with (first | ((with_reducible refine gate_dst (N := 1) rfl ?_); (try (refine gate_guard (by rfl) ?_; dsimp only)); refine box_event ?hg (N := 1) ?hd (cs := #[.int .i64 ad, .int .i64 ac, .int .i64 ae, .slice ap ab.length al]) (t := 26) ?hr ?_; (case hd => rfl); (case hg => rfl); (case hr => first | (go_simp; done) | (go_simp; rfl)); intro af hg w3 hbox hb; have aG := aj (below_step HB.out hb); have aH := aj (hbox); have bf := aj ((by rw [hg]; exact (below_size HB.out) : w.heap.size ≤ af)); clear HB; have HB := aG; have aa := aH; have cJ := bf; clear aG aH bf; clear hb hbox hg))
 (try simp only [Act.put, sa_, sb_, sc_])
 go_cut [41] (fun cq wc => ∃ (kq : Nat) (aR : Bool), cq = .bool aR ∧ Aside0 (attestorref07_Valid.j0 kq aR ad ac ae ab = some r) ∧ Aside0 (kq ≤ k) ∧ Aside0 (wc.heap[af]? = some (.cells #[.int .i64 ad, .int .i64 ac, .int .i64 ae, (.slice ap ab.length al)] 26 (0, 0))) ∧ Aside0 (Below w.heap.size w wc))
 case first =>
  have H := bb.out
  clear bb
  replace H := Option.bind_eq_some_iff.mp H
  obtain ⟨aS, bg, H⟩ := H
  have A4 := aj bg
  clear bg
  by_cases c5 : aS = true
  ·subst c5
   have H1 : (if ac < 0 then (attestorref07_Valid.j0 k true ad ac ae ab) else (if ac > 18 then (attestorref07_Valid.j0 k true ad ac ae ab) else (if ae < 0 then (attestorref07_Valid.j0 k true ad ac ae ab) else (if ae > ac then (attestorref07_Valid.j0 k true ad ac ae ab) else (attestorref07_Valid.j0 k ((ab.length : Int) != (wrap64 ((wrap64 (ac - ae)) + 1))) ad ac ae ab))))) = some r := by rw [if_pos rfl] at H; exact H
   clear H
   have H := H1
   clear H1
   by_cases c6 : ac < 0
   ·rw [if_pos c6] at H
    have c6b0 : decide (ac < 0) = true := decide_eq_true c6
    clear c6
    (first | rw [c6b0] | (simp only [i64_w, i32_w]; rw [c6b0]) | skip)
    have H' := aj H
    clear H
    have cr : w3.cell? ⟨af, 0, none⟩ = some (.int .i64 ad) := bq_ aa 0
    have ct : w3.cell? ⟨af, 1, none⟩ = some (.int .i64 ac) := bq_ aa 1
    have cu : w3.cell? ⟨af, 2, none⟩ = some (.int .i64 ae) := bq_ aa 2
    have cv : w3.cell? ⟨af, 3, none⟩ = some (.slice ap ab.length al) := bq_ aa 3
    have cw := blk_frozen aa.out 0
    have cx := blk_frozen aa.out 1
    have cy := blk_frozen aa.out 2
    have cz := blk_frozen aa.out 3
    go_wp2_with (first | ((with_reducible refine gate_callee (f := 42) rfl ?_); refine goesL_ (some 6) rfl rfl Tryd.func42 (by kernel_rfl) rfl #[.int .i64 ad] rfl (by (try simp only [List.map_toArray, List.map_cons, List.map_nil]); first | done | rfl | (go_simp; done)) ?_; (with_reducible refine (attestorref01_Valid.calls ad true _ A4.out).mono ?_); rintro e w' ⟨rfl, ⟨nd, rfl⟩⟩; refine ⟨_, rfl, ?_⟩))
    go_meet
    case rel => exact ⟨_, (true), (by first | rfl | simp), H', ⟨by first | omega | exact Nat.le_refl _⟩, ⟨by exact aa.out⟩, ⟨(by first | exact HB.out | exact below_drew1 HB.out | exact pw_below_drewN HB.out _)⟩⟩
   ·rw [if_neg c6] at H
    have c6b0 : decide (ac < 0) = false := decide_eq_false c6
    clear c6
    (first | rw [c6b0] | (simp only [i64_w, i32_w]; rw [c6b0]) | skip)
    by_cases c8 : ac > 18
    ·rw [if_pos c8] at H
     have c8b0 : decide (18 < ac) = true := decide_eq_true c8
     clear c8
     have H' := aj H
     clear H
     have cA : w3.cell? ⟨af, 0, none⟩ = some (.int .i64 ad) := bq_ aa 0
     have cB : w3.cell? ⟨af, 1, none⟩ = some (.int .i64 ac) := bq_ aa 1
     have cC : w3.cell? ⟨af, 2, none⟩ = some (.int .i64 ae) := bq_ aa 2
     have cD : w3.cell? ⟨af, 3, none⟩ = some (.slice ap ab.length al) := bq_ aa 3
     have cE := blk_frozen aa.out 0
     have cF := blk_frozen aa.out 1
     have cG := blk_frozen aa.out 2
     have cH := blk_frozen aa.out 3
     go_wp2_with (first | ((with_reducible refine gate_callee (f := 42) rfl ?_); refine goesL_ (some 6) rfl rfl Tryd.func42 (by kernel_rfl) rfl #[.int .i64 ad] rfl (by (try simp only [List.map_toArray, List.map_cons, List.map_nil]); first | done | rfl | (go_simp; done)) ?_; (with_reducible refine (attestorref01_Valid.calls ad true _ A4.out).mono ?_); rintro e w' ⟨rfl, ⟨nd, rfl⟩⟩; refine ⟨_, rfl, ?_⟩))
     go_meet
     case rel => exact ⟨_, (true), (by first | rfl | simp), H', ⟨by first | omega | exact Nat.le_refl _⟩, ⟨by exact aa.out⟩, ⟨(by first | exact HB.out | exact below_drew1 HB.out | exact pw_below_drewN HB.out _)⟩⟩
    ·rw [if_neg c8] at H
     have c8b0 : decide (18 < ac) = false := decide_eq_false c8
     clear c8
     by_cases c10 : ae < 0
     ·rw [if_pos c10] at H
      have c10b0 : decide (ae < 0) = true := decide_eq_true c10
      clear c10
      have H' := aj H
      clear H
      have bk : w3.cell? ⟨af, 0, none⟩ = some (.int .i64 ad) := bq_ aa 0
      have bl : w3.cell? ⟨af, 1, none⟩ = some (.int .i64 ac) := bq_ aa 1
      have bm : w3.cell? ⟨af, 2, none⟩ = some (.int .i64 ae) := bq_ aa 2
      have bn : w3.cell? ⟨af, 3, none⟩ = some (.slice ap ab.length al) := bq_ aa 3
      have bo := blk_frozen aa.out 0
      have bp := blk_frozen aa.out 1
      have bq := blk_frozen aa.out 2
      have br := blk_frozen aa.out 3
      go_wp2_with (first | ((with_reducible refine gate_callee (f := 42) rfl ?_); refine goesL_ (some 6) rfl rfl Tryd.func42 (by kernel_rfl) rfl #[.int .i64 ad] rfl (by (try simp only [List.map_toArray, List.map_cons, List.map_nil]); first | done | rfl | (go_simp; done)) ?_; (with_reducible refine (attestorref01_Valid.calls ad true _ A4.out).mono ?_); rintro e w' ⟨rfl, ⟨nd, rfl⟩⟩; refine ⟨_, rfl, ?_⟩))
      go_meet
      case rel => exact ⟨_, (true), (by first | rfl | simp), H', ⟨by first | omega | exact Nat.le_refl _⟩, ⟨by exact aa.out⟩, ⟨(by first | exact HB.out | exact below_drew1 HB.out | exact pw_below_drewN HB.out _)⟩⟩
     ·rw [if_neg c10] at H
      have c10b0 : decide (ae < 0) = false := decide_eq_false c10
      clear c10
      by_cases aV : ae > ac
      ·rw [if_pos aV] at H
       have c12b0 : decide (ac < ae) = true := decide_eq_true aV
       clear aV
       have H' := aj H
       clear H
       have bs : w3.cell? ⟨af, 0, none⟩ = some (.int .i64 ad) := bq_ aa 0
       have bu : w3.cell? ⟨af, 1, none⟩ = some (.int .i64 ac) := bq_ aa 1
       have bv : w3.cell? ⟨af, 2, none⟩ = some (.int .i64 ae) := bq_ aa 2
       have bw : w3.cell? ⟨af, 3, none⟩ = some (.slice ap ab.length al) := bq_ aa 3
       have bx := blk_frozen aa.out 0
       have bz := blk_frozen aa.out 1
       have bA := blk_frozen aa.out 2
       have bB := blk_frozen aa.out 3
       go_wp2_with (first | ((with_reducible refine gate_callee (f := 42) rfl ?_); refine goesL_ (some 6) rfl rfl Tryd.func42 (by kernel_rfl) rfl #[.int .i64 ad] rfl (by (try simp only [List.map_toArray, List.map_cons, List.map_nil]); first | done | rfl | (go_simp; done)) ?_; (with_reducible refine (attestorref01_Valid.calls ad true _ A4.out).mono ?_); rintro e w' ⟨rfl, ⟨nd, rfl⟩⟩; refine ⟨_, rfl, ?_⟩))
       go_meet
       case rel => exact ⟨_, (true), (by first | rfl | simp), H', ⟨by first | omega | exact Nat.le_refl _⟩, ⟨by exact aa.out⟩, ⟨(by first | exact HB.out | exact below_drew1 HB.out | exact pw_below_drewN HB.out _)⟩⟩
      ·rw [if_neg aV] at H
       have c12b0 : decide (ac < ae) = false := decide_eq_false aV
       clear aV
       have H' := aj H
       clear H
       have bC : w3.cell? ⟨af, 0, none⟩ = some (.int .i64 ad) := bq_ aa 0
       have bD : w3.cell? ⟨af, 1, none⟩ = some (.int .i64 ac) := bq_ aa 1
       have bE : w3.cell? ⟨af, 2, none⟩ = some (.int .i64 ae) := bq_ aa 2
       have bF : w3.cell? ⟨af, 3, none⟩ = some (.slice ap ab.length al) := bq_ aa 3
       have bG := blk_frozen aa.out 0
       have bH := blk_frozen aa.out 1
       have bI := blk_frozen aa.out 2
       have bJ := blk_frozen aa.out 3
       go_wp2_with (first | ((with_reducible refine gate_callee (f := 42) rfl ?_); refine goesL_ (some 6) rfl rfl Tryd.func42 (by kernel_rfl) rfl #[.int .i64 ad] rfl (by (try simp only [List.map_toArray, List.map_cons, List.map_nil]); first | done | rfl | (go_simp; done)) ?_; (with_reducible refine (attestorref01_Valid.calls ad true _ A4.out).mono ?_); rintro e w' ⟨rfl, ⟨nd, rfl⟩⟩; refine ⟨_, rfl, ?_⟩))
       go_meet
       case rel => exact ⟨_, (((ab.length : Int) != (wrap64 ((wrap64 (ac - ae)) + 1)))), (by first | rfl | simp), H', ⟨by first | omega | exact Nat.le_refl _⟩, ⟨by exact aa.out⟩, ⟨(by first | exact HB.out | exact below_drew1 HB.out | exact pw_below_drewN HB.out _)⟩⟩
  ·replace c5 := Bool.eq_false_iff.mpr c5
   subst c5
   have H1 : (attestorref07_Valid.j0 k true ad ac ae ab) = some r := by rw [if_neg (show ¬ (false = true) by decide)] at H; exact H
   clear H
   have H := H1
   clear H1
   have H' := aj H
   clear H
   have bK : w3.cell? ⟨af, 0, none⟩ = some (.int .i64 ad) := bq_ aa 0
   have bL : w3.cell? ⟨af, 1, none⟩ = some (.int .i64 ac) := bq_ aa 1
   have bM : w3.cell? ⟨af, 2, none⟩ = some (.int .i64 ae) := bq_ aa 2
   have bN : w3.cell? ⟨af, 3, none⟩ = some (.slice ap ab.length al) := bq_ aa 3
   have bO := blk_frozen aa.out 0
   have bP := blk_frozen aa.out 1
   have bQ := blk_frozen aa.out 2
   have bR := blk_frozen aa.out 3
   go_wp2_with (first | ((with_reducible refine gate_callee (f := 42) rfl ?_); refine goesL_ (some 6) rfl rfl Tryd.func42 (by kernel_rfl) rfl #[.int .i64 ad] rfl (by (try simp only [List.map_toArray, List.map_cons, List.map_nil]); first | done | rfl | (go_simp; done)) ?_; (with_reducible refine (attestorref01_Valid.calls ad false _ A4.out).mono ?_); rintro e w' ⟨rfl, ⟨nd, rfl⟩⟩; refine ⟨_, rfl, ?_⟩))
   go_meet
   case rel => exact ⟨_, (true), (by first | rfl | simp), H', ⟨by first | omega | exact Nat.le_refl _⟩, ⟨by exact aa.out⟩, ⟨(by first | exact HB.out | exact below_drew1 HB.out | exact pw_below_drewN HB.out _)⟩⟩
 case rest =>
  clear bb
  obtain ⟨kq, aR, rfl, HA, bh, aa, HB⟩ := hcut
  cases kq with
  | zero => exact absurd HA.out (by simp [attestorref07_Valid.j0])
  | succ kj1 =>
   have H := HA.out
   clear HA
   simp only [attestorref07_Valid.j0] at H
   by_cases a8 : aR = true
   ·subst a8
    have H1 : (some false) = some r := by rw [if_pos rfl] at H; exact H
    clear H
    have H := H1
    clear H1
    obtain rfl := Option.some.inj H
    go_wp2
    go_ret
    exact ⟨by first | rfl | (simp [errW_none, errW_some] <;> rfl) | (simp [*, errW_none, errW_some] <;> rfl), HB.out⟩
   ·replace a8 := Bool.eq_false_iff.mpr a8
    subst a8
    have H1 : (attestorref07_Valid.l0 kj1 0 ad ac ae ab) = some r := by rw [if_neg (show ¬ (false = true) by decide)] at H; exact H
    clear H
    have H := H1
    clear H1
    have H' := aj H
    clear H
    go_wp2
    go_loopg [3] kj1 (fun kq v3 w' => ∃ (ag : Int), v3 = .int .i64 ag ∧ Aside0 (attestorref07_Valid.l0 kq ag ad ac ae ab = some r) ∧ Aside0 (kq ≤ kj1) ∧ Aside0 (w'.heap[af]? = some (.cells #[.int .i64 ad, .int .i64 ac, .int .i64 ae, (.slice ap ab.length al)] 26 (0, 0))) ∧ Aside0 (Below w.heap.size w w'))
    case atStart => exact ⟨(0), (by first | rfl | simp), H', ⟨Nat.le_refl _⟩, ⟨by exact aa.out⟩, ⟨HB.out⟩⟩
    case round =>
     clear H'
     obtain ⟨ag, rfl, HA, bi, aa, HB⟩ := hrel
     cases gk with
     | zero => exact absurd HA.out (by simp [attestorref07_Valid.l0])
     | succ k2 =>
      have H := HA.out
      clear HA
      simp only [attestorref07_Valid.l0] at H
      by_cases aW : ag < (ab.length : Int)
      ·rw [if_pos aW] at H
       have c17b0 : decide (ag < (ab.length : Int)) = true := decide_eq_true aW
       clear aW
       by_cases a9 : 0 ≤ ag
       ·rw [if_pos a9] at H
        have c18b0 : decide (0 ≤ ag) = true := decide_eq_true a9
        clear a9
        obtain ⟨aq, aO⟩ : ∃ j_ : Int, (wrap64 (ac - ag)) = j_ := ⟨_, rfl⟩
        replace H : (if 0 ≤ (aq) then (if ((rd_L3 ab ag).length : Int) = (shl .i64 1 (aq)) then ((attestorref07_All.f k2 ad (rd_L3 ab ag)).bind fun aK => (if aK = true then (attestorref07_Valid.l0 k2 (wrap64 (ag + 1)) ad ac ae ab) else (some false))) else (some false)) else (none)) = some r := by first | (rw [aO] at H; exact H) | (simp only [aO] at H ⊢; exact H)
        have hji19w : (IntKind.i64.wrap (ac - ag)) = aq := (i64_w _).trans aO
        by_cases aZ : 0 ≤ (aq)
        ·rw [if_pos aZ] at H
         have c20b0 := eq_true aZ
         have c20b1 : decide (0 ≤ (aq)) = true := decide_eq_true aZ
         clear aZ
         obtain ⟨ax, aJ⟩ : ∃ j_ : Int, (shl .i64 1 (aq)) = j_ := ⟨_, rfl⟩
         replace H : (if ((rd_L3 ab ag).length : Int) = (ax) then ((attestorref07_All.f k2 ad (rd_L3 ab ag)).bind fun aK => (if aK = true then (attestorref07_Valid.l0 k2 (wrap64 (ag + 1)) ad ac ae ab) else (some false))) else (some false)) = some r := by first | (rw [aJ] at H; exact H) | (simp only [aJ] at H ⊢; exact H)
         have a4 : (IntKind.i64.wrap (1 * 2 ^ min (aq).toNat 64)) = ax := aJ
         have hji21z : (aq) ≤ 64 → (IntKind.i64.wrap (1 * 2 ^ (aq).toNat)) = ax := shl_small aJ
         have hji21u : (IntKind.i64.wrap (2 ^ min (aq).toNat 64)) = ax := by have h_ := a4; rw [Int.one_mul] at h_; exact h_
         have hji21v : (aq) ≤ 64 → (IntKind.i64.wrap (2 ^ (aq).toNat)) = ax := fun hle_ => by have h_ := hji21z hle_; rw [Int.one_mul] at h_; exact h_
         have hji21y : (wrap64 (1 * 2 ^ min (aq).toNat 64)) = ax := (i64_w _).symm.trans a4
         have hji21x : (aq) ≤ 64 → (wrap64 (1 * 2 ^ (aq).toNat)) = ax := fun h_ => (i64_w _).symm.trans (hji21z h_)
         by_cases aT : ((rd_L3 ab ag).length : Int) = (ax)
         ·rw [if_pos aT] at H
          have c22b0 : (((rd_L3 ab ag).length : Int) == (ax)) = true := beq_iff_eq.mpr aT
          have c22b1 : (((rd_L3 ab ag).length : Int) != (ax)) = false := bne_eq_false_iff_eq.mpr aT
          clear aT
          replace H := Option.bind_eq_some_iff.mp H
          obtain ⟨aK, bc, H⟩ := H
          have bj := aj bc
          clear bc
          by_cases ba : aK = true
          ·subst ba
           have H1 : (attestorref07_Valid.l0 k2 (wrap64 (ag + 1)) ad ac ae ab) = some r := by rw [if_pos rfl] at H; exact H
           clear H
           have H := H1
           clear H1
           have H' := aj H
           clear H
           have bS : wr.cell? ⟨af, 0, none⟩ = some (.int .i64 ad) := bq_ aa 0
           have bT : wr.cell? ⟨af, 1, none⟩ = some (.int .i64 ac) := bq_ aa 1
           have bU : wr.cell? ⟨af, 2, none⟩ = some (.int .i64 ae) := bq_ aa 2
           have bV : wr.cell? ⟨af, 3, none⟩ = some (.slice ap ab.length al) := bq_ aa 3
           have bW := blk_frozen aa.out 0
           have bX := blk_frozen aa.out 1
           have bY := blk_frozen aa.out 2
           have bZ := blk_frozen aa.out 3
           try go_wp2
           have aG := aj (blk_drew aa.out)
           have aH := aj (below_drew1 HB.out)
           clear aa
           clear HB
           have aa := aG
           have HB := aH
           have az : 0 ≤ (ag : Int) := of_decide_eq_true (by assumption)
           have aA : ag < (ab.length : Int) := of_decide_eq_true (by assumption)
           obtain ⟨ao, av, aw, aU, ah, ar, au⟩ := at_L3 aN.out ag az aA
           have ak := ah
           cases aU
           replace ah := (HB.out.cell (World.block_lt_of_cell? w _ ah)).trans ah
           have aC := aj au
           have aX := aj ar
           clear au ar
           replace az := eq_true az
           replace aA := eq_true aA
           have aL : 0 ≤ (ag : Int) := of_decide_eq_true (by assumption)
           have aM : ag < (ab.length : Int) := of_decide_eq_true (by assumption)
           obtain ⟨aY, bd, be, a5, ai, aD, aE⟩ := at_L3 aN.out ag aL aM
           have am := ai
           obtain rfl : ao = aY := (by injection a5)
           replace ai := (HB.out.cell (World.block_lt_of_cell? w _ ai)).trans ai
           have aF := aj aE
           have aQ := aj aD
           clear aE aD
           replace aL := eq_true aL
           replace aM := eq_true aM
           have ea_ := Option.some.inj (ah.symm.trans ai)
           injection ea_ with ea_ en_ ec_
           subst ea_
           subst ec_
           clear en_
           refine start_ (n := 23) (S := fun w' => w'.cell? ⟨af, 0, none⟩ = some (.int .i64 ad) ∧ w'.cell? ⟨af, 1, none⟩ = some (.int .i64 ac) ∧ w'.cell? ⟨af, 2, none⟩ = some (.int .i64 ae) ∧ w'.cell? ⟨af, 3, none⟩ = some (.slice (some ao) ab.length al) ∧ w'.cell? (ao.add (ag).toNat) = some (.slice av (rd_L3 ab ag).length aw) ∧ w'.cell? (ao.add (ag).toNat) = some (.slice av (rd_L3 ab ag).length aw)) (ds := []) z17_0_ (by kernel_rfl) rfl rfl ⟨bq_ aa 0, bq_ aa 1, bq_ aa 2, bq_ aa 3, ((HB.out.cell (World.block_lt_of_cell? w _ ak)).trans ak), ((HB.out.cell (World.block_lt_of_cell? w _ am)).trans am)⟩ (fun hL => ?_); refine with_tabW attestorref07_Valid.tab6 attestorref07_Valid.bits6 (fun T_ W_ => ?_)
           generalize wr.drew = cK at aa HB aC aF ah ai hL ⊢
           refine pure_ (i := 0) (N := some 49) (v := ?_) (a' := ?_) z17_1_ rfl rfl (an_ T_) (fun _ _ _ h => h) (Or.inl ⟨by rfl, ?_⟩) ?_ ?_
           rotate_left; · intro w'; go_simp; with_reducible rfl
           rotate_left; · simp only [Act.put, sa_, sb_, sc_, i64_w, i32_w]; rfl
           refine pure_ (i := 2) (N := some 51) (v := ?_) (a' := ?_) z17_2_ rfl rfl (an_ T_) (fun _ _ _ h => h) (Or.inl ⟨by rfl, ?_⟩) ?_ ?_
           rotate_left; · intro w'; go_simp; with_reducible rfl
           rotate_left; · simp only [Act.put, sa_, sb_, sc_, i64_w, i32_w]; rfl
           refine pure_ (i := 6) (N := some 55) (v := ?_) (a' := ?_) z17_3_ rfl rfl (an_ T_) (fun _ _ _ h => h) (Or.inl ⟨by rfl, ?_⟩) ?_ ?_
           rotate_left; · intro w'; go_simp; with_reducible rfl
           rotate_left; · simp only [Act.put, sa_, sb_, sc_, i64_w, i32_w]; rfl
           refine pure_ (i := 8) (N := some 57) (v := ?_) (a' := ?_) z17_4_ rfl rfl (an_ T_) (fun _ _ _ h => h) (Or.inl ⟨by rfl, ?_⟩) ?_ ?_
           rotate_left; · intro w'; go_simp; with_reducible rfl
           rotate_left; · simp only [Act.put, sa_, sb_, sc_, i64_w, i32_w]; rfl
           refine take_ (i := 1) (N := some 50) (v := ?_) (a' := ?_) z17_5_ rfl rfl (tk_ T_ W_) (fun _ _ _ h => h) (Or.inl ⟨by rfl, ?_⟩) hL ?_ ?_
           rotate_left
           ·rintro w' ⟨s0, s1, s2, s3, s4, s5⟩
            go_simp
            with_reducible rfl
           rotate_left
           ·simp only [Act.put, sa_, sb_, sc_, i64_w, i32_w]
            rfl
           refine pure_ (i := 3) (N := some 52) (v := ?_) (a' := ?_) z17_6_ rfl rfl (an_ T_) (fun _ _ _ h => h) (Or.inl ⟨by rfl, ?_⟩) ?_ ?_
           rotate_left; · intro w'; go_simp; with_reducible rfl
           rotate_left; · simp only [Act.put, sa_, sb_, sc_, i64_w, i32_w]; rfl
           refine take_ (i := 4) (N := some 53) (v := ?_) (a' := ?_) z17_7_ rfl rfl (tk_ T_ W_) (fun _ _ _ h => h) (Or.inl ⟨by rfl, ?_⟩) hL ?_ ?_
           rotate_left
           ·rintro w' ⟨s0, s1, s2, s3, s4, s5⟩
            go_simp
            with_reducible rfl
           rotate_left
           ·simp only [Act.put, sa_, sb_, sc_, i64_w, i32_w]
            rfl
           refine pure_ (i := 5) (N := some 54) (v := ?_) (a' := ?_) z17_8_ rfl rfl (an_ T_) (fun _ _ _ h => h) (Or.inl ⟨by rfl, ?_⟩) ?_ ?_
           rotate_left; · intro w'; go_simp; with_reducible rfl
           rotate_left; · simp only [Act.put, sa_, sb_, sc_, i64_w, i32_w]; rfl
           refine take_ (i := 7) (N := some 56) (v := ?_) (a' := ?_) z17_9_ rfl rfl (tk_ T_ W_) (fun _ _ _ h => h) (Or.inl ⟨by rfl, ?_⟩) hL ?_ ?_
           rotate_left
           ·rintro w' ⟨s0, s1, s2, s3, s4, s5⟩
            go_simp
            with_reducible rfl
           rotate_left
           ·simp only [Act.put, sa_, sb_, sc_, i64_w, i32_w]
            rfl
           refine pure_ (i := 9) (N := some 58) (v := ?_) (a' := ?_) z17_10_ rfl rfl (an_ T_) (fun _ _ _ h => h) (Or.inl ⟨by rfl, ?_⟩) ?_ ?_
           rotate_left; · intro w'; go_simp; with_reducible rfl
           rotate_left; · simp only [Act.put, sa_, sb_, sc_, i64_w, i32_w]; rfl
           refine pure_ (i := 10) (N := some 59) (v := ?_) (a' := ?_) z17_11_ rfl rfl (an_ T_) (fun _ _ _ h => h) (Or.inl ⟨by rfl, ?_⟩) ?_ ?_
           rotate_left; · intro w'; go_simp; with_reducible rfl
           rotate_left; · simp only [Act.put, sa_, sb_, sc_, i64_w, i32_w]; rfl
           refine pure_ (i := 11) (N := some 60) (v := ?_) (a' := ?_) z17_12_ rfl rfl (an_ T_) (fun _ _ _ h => h) (Or.inl ⟨by rfl, ?_⟩) ?_ ?_
           rotate_left; · intro w'; go_simp; with_reducible rfl
           rotate_left; · simp only [Act.put, sa_, sb_, sc_, i64_w, i32_w]; rfl
           refine pure_ (i := 12) (N := some 61) (v := ?_) (a' := ?_) z17_13_ rfl rfl (an_ T_) (fun _ _ _ h => h) (Or.inl ⟨by rfl, ?_⟩) ?_ ?_
           rotate_left; · intro w'; go_simp; with_reducible rfl
           rotate_left; · simp only [Act.put, sa_, sb_, sc_, i64_w, i32_w]; rfl
           refine pure_ (i := 13) (N := some 62) (v := ?_) (a' := ?_) z17_14_ rfl rfl (an_ T_) (fun _ _ _ h => h) (Or.inl ⟨by rfl, ?_⟩) ?_ ?_
           rotate_left; · intro w'; go_simp; with_reducible rfl
           rotate_left; · simp only [Act.put, sa_, sb_, sc_, i64_w, i32_w]; rfl
           refine pure_ (i := 15) (N := some 64) (v := ?_) (a' := ?_) z17_15_ rfl rfl (an_ T_) (fun _ _ _ h => h) (Or.inl ⟨by rfl, ?_⟩) ?_ ?_
           rotate_left; · intro w'; go_simp; with_reducible rfl
           rotate_left; · simp only [Act.put, sa_, sb_, sc_, i64_w, i32_w]; rfl
           refine pure_ (i := 17) (N := some 66) (v := ?_) (a' := ?_) z17_16_ rfl rfl (an_ T_) (fun _ _ _ h => h) (Or.inl ⟨by rfl, ?_⟩) ?_ ?_
           rotate_left; · intro w'; go_simp; with_reducible rfl
           rotate_left; · simp only [Act.put, sa_, sb_, sc_, i64_w, i32_w]; rfl
           refine take_ (i := 14) (N := some 63) (v := ?_) (a' := ?_) z17_17_ rfl rfl (tk_ T_ W_) (fun _ _ _ h => h) (Or.inl ⟨by rfl, ?_⟩) hL ?_ ?_
           rotate_left
           ·rintro w' ⟨s0, s1, s2, s3, s4, s5⟩
            go_simp
            with_reducible rfl
           rotate_left
           ·simp only [Act.put, sa_, sb_, sc_, i64_w, i32_w]
            rfl
           refine take_ (i := 16) (N := some 65) (v := ?_) (a' := ?_) z17_18_ rfl rfl (tk_ T_ W_) (fun _ _ _ h => h) (Or.inl ⟨by rfl, ?_⟩) hL ?_ ?_
           rotate_left
           ·rintro w' ⟨s0, s1, s2, s3, s4, s5⟩
            go_simp
            with_reducible rfl
           rotate_left
           ·simp only [Act.put, sa_, sb_, sc_, i64_w, i32_w]
            rfl
           refine pure_ (i := 18) (N := some 67) (v := ?_) (a' := ?_) z17_19_ rfl rfl (an_ T_) (fun _ _ _ h => h) (Or.inl ⟨by rfl, ?_⟩) ?_ ?_
           rotate_left; · intro w'; go_simp; with_reducible rfl
           rotate_left; · simp only [Act.put, sa_, sb_, sc_, i64_w, i32_w]; rfl
           refine take_ (i := 19) (N := some 68) (v := ?_) (a' := ?_) z17_20_ rfl rfl (tk_ T_ W_) (fun _ _ _ h => h) (Or.inl ⟨by rfl, ?_⟩) hL ?_ ?_
           rotate_left
           ·rintro w' ⟨s0, s1, s2, s3, s4, s5⟩
            go_simp
            with_reducible rfl
           rotate_left
           ·simp only [Act.put, sa_, sb_, sc_, i64_w, i32_w]
            rfl
           refine one_ (i := 20) (N := some 69) z17_21_ rfl rfl (on_ T_) (by decide) (fun K hK => ?_)
           refine goes_ Tryd.func43 (by kernel_rfl) rfl #[.int .i64 ad, .slice av (rd_L3 ab ag).length aw] (by rfl) rfl rfl (by (try simp only [List.map_toArray, List.map_cons, List.map_nil]); first | done | rfl | (go_simp; done)) ?_
           with_reducible refine (attestorref07_All.calls k2 ad _ _ (rd_L3 ab ag) true _ ?side1 ?side2 bj.out).mono ?_
           (case side1 => exact (Kd.C_below aF.out HB.out))
           (case side2 => exact aQ.out)
           rintro e cL ⟨rfl, hb⟩
           refine ⟨_, rfl, ?_⟩
           have aG := aj (blk_below aa.out hb)
           have aH := aj (below_step HB.out hb)
           clear aa
           clear HB
           have aa := aG
           have HB := aH
           refine hK.out _ _ ⟨bq_ aa 0, bq_ aa 1, bq_ aa 2, bq_ aa 3, ((HB.out.cell (World.block_lt_of_cell? w _ ak)).trans ak), ((HB.out.cell (World.block_lt_of_cell? w _ am)).trans am)⟩ (fun hL => ?_)
           clear hK K
           refine norm_ (a' := ?_) ?_ ?_
           rotate_left
           ·show Act.put _ (some 69) _ = _
            simp only [Act.put, sa_, sb_, sc_, i64_w, i32_w]
            rfl
           refine pure_ (i := 21) (N := some 70) (v := ?_) (a' := ?_) z17_22_ rfl rfl (an_ T_) (fun _ _ _ h => h) (Or.inl ⟨by rfl, ?_⟩) ?_ ?_
           rotate_left; · intro w'; go_simp; with_reducible rfl
           rotate_left; · simp only [Act.put, sa_, sb_, sc_, i64_w, i32_w]; rfl
           refine pure_ (i := 22) (N := some 71) (v := ?_) (a' := ?_) z17_23_ rfl rfl (an_ T_) (fun _ _ _ h => h) (Or.inl ⟨by rfl, ?_⟩) ?_ ?_
           rotate_left; · intro w'; go_simp; with_reducible rfl
           rotate_left; · simp only [Act.put, sa_, sb_, sc_, i64_w, i32_w]; rfl
           refine done_ (done_of T_.out (by kernel_rfl)) ?_
           try go_wp2
           go_roundg k2
           case measure => have := bh.out; have := bi.out; omega
           case rel => exact ⟨(wrap64 (ag + 1)), (by first | rfl | simp), H', ⟨by have := bh.out; have := bi.out; omega⟩, ⟨by exact aa.out⟩, ⟨HB.out⟩⟩
          ·replace ba := Bool.eq_false_iff.mpr ba
           subst ba
           have H1 : (some false) = some r := by rw [if_neg (show ¬ (false = true) by decide)] at H; exact H
           clear H
           have H := H1
           clear H1
           obtain rfl := Option.some.inj H
           have b0 : wr.cell? ⟨af, 0, none⟩ = some (.int .i64 ad) := bq_ aa 0
           have b1 : wr.cell? ⟨af, 1, none⟩ = some (.int .i64 ac) := bq_ aa 1
           have b2 : wr.cell? ⟨af, 2, none⟩ = some (.int .i64 ae) := bq_ aa 2
           have b3 : wr.cell? ⟨af, 3, none⟩ = some (.slice ap ab.length al) := bq_ aa 3
           have b4 := blk_frozen aa.out 0
           have b5 := blk_frozen aa.out 1
           have b6 := blk_frozen aa.out 2
           have b7 := blk_frozen aa.out 3
           try go_wp2
           have aG := aj (blk_drew aa.out)
           have aH := aj (below_drew1 HB.out)
           clear aa
           clear HB
           have aa := aG
           have HB := aH
           have az : 0 ≤ (ag : Int) := of_decide_eq_true (by assumption)
           have aA : ag < (ab.length : Int) := of_decide_eq_true (by assumption)
           obtain ⟨ao, av, aw, aU, ah, ar, au⟩ := at_L3 aN.out ag az aA
           have ak := ah
           cases aU
           replace ah := (HB.out.cell (World.block_lt_of_cell? w _ ah)).trans ah
           have aC := aj au
           have aX := aj ar
           clear au ar
           replace az := eq_true az
           replace aA := eq_true aA
           have aL : 0 ≤ (ag : Int) := of_decide_eq_true (by assumption)
           have aM : ag < (ab.length : Int) := of_decide_eq_true (by assumption)
           obtain ⟨aY, bd, be, a5, ai, aD, aE⟩ := at_L3 aN.out ag aL aM
           have am := ai
           obtain rfl : ao = aY := (by injection a5)
           replace ai := (HB.out.cell (World.block_lt_of_cell? w _ ai)).trans ai
           have aF := aj aE
           have aQ := aj aD
           clear aE aD
           replace aL := eq_true aL
           replace aM := eq_true aM
           have ea_ := Option.some.inj (ah.symm.trans ai)
           injection ea_ with ea_ en_ ec_
           subst ea_
           subst ec_
           clear en_
           refine start_ (n := 23) (S := fun w' => w'.cell? ⟨af, 0, none⟩ = some (.int .i64 ad) ∧ w'.cell? ⟨af, 1, none⟩ = some (.int .i64 ac) ∧ w'.cell? ⟨af, 2, none⟩ = some (.int .i64 ae) ∧ w'.cell? ⟨af, 3, none⟩ = some (.slice (some ao) ab.length al) ∧ w'.cell? (ao.add (ag).toNat) = some (.slice av (rd_L3 ab ag).length aw) ∧ w'.cell? (ao.add (ag).toNat) = some (.slice av (rd_L3 ab ag).length aw)) (ds := []) z17_0_ (by kernel_rfl) rfl rfl ⟨bq_ aa 0, bq_ aa 1, bq_ aa 2, bq_ aa 3, ((HB.out.cell (World.block_lt_of_cell? w _ ak)).trans ak), ((HB.out.cell (World.block_lt_of_cell? w _ am)).trans am)⟩ (fun hL => ?_); refine with_tabW attestorref07_Valid.tab6 attestorref07_Valid.bits6 (fun T_ W_ => ?_)
           generalize wr.drew = cM at aa HB aC aF ah ai hL ⊢
           refine pure_ (i := 0) (N := some 49) (v := ?_) (a' := ?_) z17_1_ rfl rfl (an_ T_) (fun _ _ _ h => h) (Or.inl ⟨by rfl, ?_⟩) ?_ ?_
           rotate_left; · intro w'; go_simp; with_reducible rfl
           rotate_left; · simp only [Act.put, sa_, sb_, sc_, i64_w, i32_w]; rfl
           refine pure_ (i := 2) (N := some 51) (v := ?_) (a' := ?_) z17_2_ rfl rfl (an_ T_) (fun _ _ _ h => h) (Or.inl ⟨by rfl, ?_⟩) ?_ ?_
           rotate_left; · intro w'; go_simp; with_reducible rfl
           rotate_left; · simp only [Act.put, sa_, sb_, sc_, i64_w, i32_w]; rfl
           refine pure_ (i := 6) (N := some 55) (v := ?_) (a' := ?_) z17_3_ rfl rfl (an_ T_) (fun _ _ _ h => h) (Or.inl ⟨by rfl, ?_⟩) ?_ ?_
           rotate_left; · intro w'; go_simp; with_reducible rfl
           rotate_left; · simp only [Act.put, sa_, sb_, sc_, i64_w, i32_w]; rfl
           refine pure_ (i := 8) (N := some 57) (v := ?_) (a' := ?_) z17_4_ rfl rfl (an_ T_) (fun _ _ _ h => h) (Or.inl ⟨by rfl, ?_⟩) ?_ ?_
           rotate_left; · intro w'; go_simp; with_reducible rfl
           rotate_left; · simp only [Act.put, sa_, sb_, sc_, i64_w, i32_w]; rfl
           refine take_ (i := 1) (N := some 50) (v := ?_) (a' := ?_) z17_5_ rfl rfl (tk_ T_ W_) (fun _ _ _ h => h) (Or.inl ⟨by rfl, ?_⟩) hL ?_ ?_
           rotate_left
           ·rintro w' ⟨s0, s1, s2, s3, s4, s5⟩
            go_simp
            with_reducible rfl
           rotate_left
           ·simp only [Act.put, sa_, sb_, sc_, i64_w, i32_w]
            rfl
           refine pure_ (i := 3) (N := some 52) (v := ?_) (a' := ?_) z17_6_ rfl rfl (an_ T_) (fun _ _ _ h => h) (Or.inl ⟨by rfl, ?_⟩) ?_ ?_
           rotate_left; · intro w'; go_simp; with_reducible rfl
           rotate_left; · simp only [Act.put, sa_, sb_, sc_, i64_w, i32_w]; rfl
           refine take_ (i := 4) (N := some 53) (v := ?_) (a' := ?_) z17_7_ rfl rfl (tk_ T_ W_) (fun _ _ _ h => h) (Or.inl ⟨by rfl, ?_⟩) hL ?_ ?_
           rotate_left
           ·rintro w' ⟨s0, s1, s2, s3, s4, s5⟩
            go_simp
            with_reducible rfl
           rotate_left
           ·simp only [Act.put, sa_, sb_, sc_, i64_w, i32_w]
            rfl
           refine pure_ (i := 5) (N := some 54) (v := ?_) (a' := ?_) z17_8_ rfl rfl (an_ T_) (fun _ _ _ h => h) (Or.inl ⟨by rfl, ?_⟩) ?_ ?_
           rotate_left; · intro w'; go_simp; with_reducible rfl
           rotate_left; · simp only [Act.put, sa_, sb_, sc_, i64_w, i32_w]; rfl
           refine take_ (i := 7) (N := some 56) (v := ?_) (a' := ?_) z17_9_ rfl rfl (tk_ T_ W_) (fun _ _ _ h => h) (Or.inl ⟨by rfl, ?_⟩) hL ?_ ?_
           rotate_left
           ·rintro w' ⟨s0, s1, s2, s3, s4, s5⟩
            go_simp
            with_reducible rfl
           rotate_left
           ·simp only [Act.put, sa_, sb_, sc_, i64_w, i32_w]
            rfl
           refine pure_ (i := 9) (N := some 58) (v := ?_) (a' := ?_) z17_10_ rfl rfl (an_ T_) (fun _ _ _ h => h) (Or.inl ⟨by rfl, ?_⟩) ?_ ?_
           rotate_left; · intro w'; go_simp; with_reducible rfl
           rotate_left; · simp only [Act.put, sa_, sb_, sc_, i64_w, i32_w]; rfl
           refine pure_ (i := 10) (N := some 59) (v := ?_) (a' := ?_) z17_11_ rfl rfl (an_ T_) (fun _ _ _ h => h) (Or.inl ⟨by rfl, ?_⟩) ?_ ?_
           rotate_left; · intro w'; go_simp; with_reducible rfl
           rotate_left; · simp only [Act.put, sa_, sb_, sc_, i64_w, i32_w]; rfl
           refine pure_ (i := 11) (N := some 60) (v := ?_) (a' := ?_) z17_12_ rfl rfl (an_ T_) (fun _ _ _ h => h) (Or.inl ⟨by rfl, ?_⟩) ?_ ?_
           rotate_left; · intro w'; go_simp; with_reducible rfl
           rotate_left; · simp only [Act.put, sa_, sb_, sc_, i64_w, i32_w]; rfl
           refine pure_ (i := 12) (N := some 61) (v := ?_) (a' := ?_) z17_13_ rfl rfl (an_ T_) (fun _ _ _ h => h) (Or.inl ⟨by rfl, ?_⟩) ?_ ?_
           rotate_left; · intro w'; go_simp; with_reducible rfl
           rotate_left; · simp only [Act.put, sa_, sb_, sc_, i64_w, i32_w]; rfl
           refine pure_ (i := 13) (N := some 62) (v := ?_) (a' := ?_) z17_14_ rfl rfl (an_ T_) (fun _ _ _ h => h) (Or.inl ⟨by rfl, ?_⟩) ?_ ?_
           rotate_left; · intro w'; go_simp; with_reducible rfl
           rotate_left; · simp only [Act.put, sa_, sb_, sc_, i64_w, i32_w]; rfl
           refine pure_ (i := 15) (N := some 64) (v := ?_) (a' := ?_) z17_15_ rfl rfl (an_ T_) (fun _ _ _ h => h) (Or.inl ⟨by rfl, ?_⟩) ?_ ?_
           rotate_left; · intro w'; go_simp; with_reducible rfl
           rotate_left; · simp only [Act.put, sa_, sb_, sc_, i64_w, i32_w]; rfl
           refine pure_ (i := 17) (N := some 66) (v := ?_) (a' := ?_) z17_16_ rfl rfl (an_ T_) (fun _ _ _ h => h) (Or.inl ⟨by rfl, ?_⟩) ?_ ?_
           rotate_left; · intro w'; go_simp; with_reducible rfl
           rotate_left; · simp only [Act.put, sa_, sb_, sc_, i64_w, i32_w]; rfl
           refine take_ (i := 14) (N := some 63) (v := ?_) (a' := ?_) z17_17_ rfl rfl (tk_ T_ W_) (fun _ _ _ h => h) (Or.inl ⟨by rfl, ?_⟩) hL ?_ ?_
           rotate_left
           ·rintro w' ⟨s0, s1, s2, s3, s4, s5⟩
            go_simp
            with_reducible rfl
           rotate_left
           ·simp only [Act.put, sa_, sb_, sc_, i64_w, i32_w]
            rfl
           refine take_ (i := 16) (N := some 65) (v := ?_) (a' := ?_) z17_18_ rfl rfl (tk_ T_ W_) (fun _ _ _ h => h) (Or.inl ⟨by rfl, ?_⟩) hL ?_ ?_
           rotate_left
           ·rintro w' ⟨s0, s1, s2, s3, s4, s5⟩
            go_simp
            with_reducible rfl
           rotate_left
           ·simp only [Act.put, sa_, sb_, sc_, i64_w, i32_w]
            rfl
           refine pure_ (i := 18) (N := some 67) (v := ?_) (a' := ?_) z17_19_ rfl rfl (an_ T_) (fun _ _ _ h => h) (Or.inl ⟨by rfl, ?_⟩) ?_ ?_
           rotate_left; · intro w'; go_simp; with_reducible rfl
           rotate_left; · simp only [Act.put, sa_, sb_, sc_, i64_w, i32_w]; rfl
           refine take_ (i := 19) (N := some 68) (v := ?_) (a' := ?_) z17_20_ rfl rfl (tk_ T_ W_) (fun _ _ _ h => h) (Or.inl ⟨by rfl, ?_⟩) hL ?_ ?_
           rotate_left
           ·rintro w' ⟨s0, s1, s2, s3, s4, s5⟩
            go_simp
            with_reducible rfl
           rotate_left
           ·simp only [Act.put, sa_, sb_, sc_, i64_w, i32_w]
            rfl
           refine one_ (i := 20) (N := some 69) z17_21_ rfl rfl (on_ T_) (by decide) (fun K hK => ?_)
           refine goes_ Tryd.func43 (by kernel_rfl) rfl #[.int .i64 ad, .slice av (rd_L3 ab ag).length aw] (by rfl) rfl rfl (by (try simp only [List.map_toArray, List.map_cons, List.map_nil]); first | done | rfl | (go_simp; done)) ?_
           with_reducible refine (attestorref07_All.calls k2 ad _ _ (rd_L3 ab ag) false _ ?side1 ?side2 bj.out).mono ?_
           (case side1 => exact (Kd.C_below aF.out HB.out))
           (case side2 => exact aQ.out)
           rintro e cN ⟨rfl, hb⟩
           refine ⟨_, rfl, ?_⟩
           have aG := aj (blk_below aa.out hb)
           have aH := aj (below_step HB.out hb)
           clear aa
           clear HB
           have aa := aG
           have HB := aH
           refine hK.out _ _ ⟨bq_ aa 0, bq_ aa 1, bq_ aa 2, bq_ aa 3, ((HB.out.cell (World.block_lt_of_cell? w _ ak)).trans ak), ((HB.out.cell (World.block_lt_of_cell? w _ am)).trans am)⟩ (fun hL => ?_)
           clear hK K
           refine norm_ (a' := ?_) ?_ ?_
           rotate_left
           ·show Act.put _ (some 69) _ = _
            simp only [Act.put, sa_, sb_, sc_, i64_w, i32_w]
            rfl
           refine pure_ (i := 21) (N := some 70) (v := ?_) (a' := ?_) z17_22_ rfl rfl (an_ T_) (fun _ _ _ h => h) (Or.inl ⟨by rfl, ?_⟩) ?_ ?_
           rotate_left; · intro w'; go_simp; with_reducible rfl
           rotate_left; · simp only [Act.put, sa_, sb_, sc_, i64_w, i32_w]; rfl
           refine pure_ (i := 22) (N := some 71) (v := ?_) (a' := ?_) z17_23_ rfl rfl (an_ T_) (fun _ _ _ h => h) (Or.inl ⟨by rfl, ?_⟩) ?_ ?_
           rotate_left; · intro w'; go_simp; with_reducible rfl
           rotate_left; · simp only [Act.put, sa_, sb_, sc_, i64_w, i32_w]; rfl
           refine done_ (done_of T_.out (by kernel_rfl)) ?_
           try go_wp2
           go_ret
           exact ⟨by first | rfl | (simp [errW_none, errW_some] <;> rfl) | (simp only [← aO, ← aJ]; first | rfl | (simp [errW_none, errW_some] <;> rfl)) | (simp [*, errW_none, errW_some] <;> rfl), HB.out⟩
         ·rw [if_neg aT] at H
          have c22b0 : (((rd_L3 ab ag).length : Int) == (ax)) = false := beq_eq_false_iff_ne.mpr aT
          have c22b1 : (((rd_L3 ab ag).length : Int) != (ax)) = true := bne_iff_ne.mpr aT
          obtain rfl := Option.some.inj H
          have b8 : wr.cell? ⟨af, 0, none⟩ = some (.int .i64 ad) := bq_ aa 0
          have b9 : wr.cell? ⟨af, 1, none⟩ = some (.int .i64 ac) := bq_ aa 1
          have ca : wr.cell? ⟨af, 2, none⟩ = some (.int .i64 ae) := bq_ aa 2
          have cb : wr.cell? ⟨af, 3, none⟩ = some (.slice ap ab.length al) := bq_ aa 3
          have cc := blk_frozen aa.out 0
          have cd := blk_frozen aa.out 1
          have ce := blk_frozen aa.out 2
          have cf := blk_frozen aa.out 3
          try go_wp2
          have aG := aj (blk_drew aa.out)
          have aH := aj (below_drew1 HB.out)
          clear aa
          clear HB
          have aa := aG
          have HB := aH
          have az : 0 ≤ (ag : Int) := of_decide_eq_true (by assumption)
          have aA : ag < (ab.length : Int) := of_decide_eq_true (by assumption)
          obtain ⟨ao, av, aw, aU, ah, ar, au⟩ := at_L3 aN.out ag az aA
          have ak := ah
          cases aU
          replace ah := (HB.out.cell (World.block_lt_of_cell? w _ ah)).trans ah
          have aC := aj au
          have aX := aj ar
          clear au ar
          replace az := eq_true az
          replace aA := eq_true aA
          refine start_ (n := 23) (S := fun w' => w'.cell? ⟨af, 0, none⟩ = some (.int .i64 ad) ∧ w'.cell? ⟨af, 1, none⟩ = some (.int .i64 ac) ∧ w'.cell? ⟨af, 2, none⟩ = some (.int .i64 ae) ∧ w'.cell? ⟨af, 3, none⟩ = some (.slice (some ao) ab.length al) ∧ w'.cell? (ao.add (ag).toNat) = some (.slice av (rd_L3 ab ag).length aw)) (ds := []) z17_0_ (by kernel_rfl) rfl rfl ⟨bq_ aa 0, bq_ aa 1, bq_ aa 2, bq_ aa 3, ((HB.out.cell (World.block_lt_of_cell? w _ ak)).trans ak)⟩ (fun hL => ?_); refine with_tabW attestorref07_Valid.tab6 attestorref07_Valid.bits6 (fun T_ W_ => ?_)
          generalize wr.drew = cO at aa HB aC ah hL ⊢
          refine pure_ (i := 0) (N := some 49) (v := ?_) (a' := ?_) z17_1_ rfl rfl (an_ T_) (fun _ _ _ h => h) (Or.inl ⟨by rfl, ?_⟩) ?_ ?_
          rotate_left; · intro w'; go_simp; with_reducible rfl
          rotate_left; · simp only [Act.put, sa_, sb_, sc_, i64_w, i32_w]; rfl
          refine pure_ (i := 2) (N := some 51) (v := ?_) (a' := ?_) z17_2_ rfl rfl (an_ T_) (fun _ _ _ h => h) (Or.inl ⟨by rfl, ?_⟩) ?_ ?_
          rotate_left; · intro w'; go_simp; with_reducible rfl
          rotate_left; · simp only [Act.put, sa_, sb_, sc_, i64_w, i32_w]; rfl
          refine pure_ (i := 6) (N := some 55) (v := ?_) (a' := ?_) z17_3_ rfl rfl (an_ T_) (fun _ _ _ h => h) (Or.inl ⟨by rfl, ?_⟩) ?_ ?_
          rotate_left; · intro w'; go_simp; with_reducible rfl
          rotate_left; · simp only [Act.put, sa_, sb_, sc_, i64_w, i32_w]; rfl
          refine pure_ (i := 8) (N := some 57) (v := ?_) (a' := ?_) z17_4_ rfl rfl (an_ T_) (fun _ _ _ h => h) (Or.inl ⟨by rfl, ?_⟩) ?_ ?_
          rotate_left; · intro w'; go_simp; with_reducible rfl
          rotate_left; · simp only [Act.put, sa_, sb_, sc_, i64_w, i32_w]; rfl
          refine take_ (i := 1) (N := some 50) (v := ?_) (a' := ?_) z17_5_ rfl rfl (tk_ T_ W_) (fun _ _ _ h => h) (Or.inl ⟨by rfl, ?_⟩) hL ?_ ?_
          rotate_left
          ·rintro w' ⟨s0, s1, s2, s3, s4⟩
           go_simp
           with_reducible rfl
          rotate_left
          ·simp only [Act.put, sa_, sb_, sc_, i64_w, i32_w]
           rfl
          refine pure_ (i := 3) (N := some 52) (v := ?_) (a' := ?_) z17_6_ rfl rfl (an_ T_) (fun _ _ _ h => h) (Or.inl ⟨by rfl, ?_⟩) ?_ ?_
          rotate_left; · intro w'; go_simp; with_reducible rfl
          rotate_left; · simp only [Act.put, sa_, sb_, sc_, i64_w, i32_w]; rfl
          refine take_ (i := 4) (N := some 53) (v := ?_) (a' := ?_) z17_7_ rfl rfl (tk_ T_ W_) (fun _ _ _ h => h) (Or.inl ⟨by rfl, ?_⟩) hL ?_ ?_
          rotate_left
          ·rintro w' ⟨s0, s1, s2, s3, s4⟩
           go_simp
           with_reducible rfl
          rotate_left
          ·simp only [Act.put, sa_, sb_, sc_, i64_w, i32_w]
           rfl
          refine pure_ (i := 5) (N := some 54) (v := ?_) (a' := ?_) z17_8_ rfl rfl (an_ T_) (fun _ _ _ h => h) (Or.inl ⟨by rfl, ?_⟩) ?_ ?_
          rotate_left; · intro w'; go_simp; with_reducible rfl
          rotate_left; · simp only [Act.put, sa_, sb_, sc_, i64_w, i32_w]; rfl
          refine take_ (i := 7) (N := some 56) (v := ?_) (a' := ?_) z17_9_ rfl rfl (tk_ T_ W_) (fun _ _ _ h => h) (Or.inl ⟨by rfl, ?_⟩) hL ?_ ?_
          rotate_left
          ·rintro w' ⟨s0, s1, s2, s3, s4⟩
           go_simp
           with_reducible rfl
          rotate_left
          ·simp only [Act.put, sa_, sb_, sc_, i64_w, i32_w]
           rfl
          refine pure_ (i := 9) (N := some 58) (v := ?_) (a' := ?_) z17_10_ rfl rfl (an_ T_) (fun _ _ _ h => h) (Or.inl ⟨by rfl, ?_⟩) ?_ ?_
          rotate_left; · intro w'; go_simp; with_reducible rfl
          rotate_left; · simp only [Act.put, sa_, sb_, sc_, i64_w, i32_w]; rfl
          refine pure_ (i := 10) (N := some 59) (v := ?_) (a' := ?_) z17_11_ rfl rfl (an_ T_) (fun _ _ _ h => h) (Or.inl ⟨by rfl, ?_⟩) ?_ ?_
          rotate_left; · intro w'; go_simp; with_reducible rfl
          rotate_left; · simp only [Act.put, sa_, sb_, sc_, i64_w, i32_w]; rfl
          refine pure_ (i := 11) (N := some 60) (v := ?_) (a' := ?_) z17_12_ rfl rfl (an_ T_) (fun _ _ _ h => h) (Or.inl ⟨by rfl, ?_⟩) ?_ ?_
          rotate_left; · intro w'; go_simp; with_reducible rfl
          rotate_left; · simp only [Act.put, sa_, sb_, sc_, i64_w, i32_w]; rfl
          refine pure_ (i := 12) (N := some 61) (v := ?_) (a' := ?_) z17_13_ rfl rfl (an_ T_) (fun _ _ _ h => h) (Or.inl ⟨by rfl, ?_⟩) ?_ ?_
          rotate_left; · intro w'; go_simp; with_reducible rfl
          rotate_left; · simp only [Act.put, sa_, sb_, sc_, i64_w, i32_w]; rfl
          refine pure_ (i := 13) (N := some 62) (v := undef) (a' := ?_) z17_14_ rfl rfl (an_ T_) (fun _ _ _ h => h) (Or.inr ⟨by rfl, rfl⟩) ?_ ?_
          rotate_left
          ·simp only [Act.put, sa_, sb_, sc_, i64_w, i32_w]
           rfl
          refine pure_ (i := 14) (N := some 63) (v := undef) (a' := ?_) z17_24_ rfl rfl (an_ T_) (fun _ _ _ h => h) (Or.inr ⟨by rfl, rfl⟩) ?_ ?_
          rotate_left
          ·simp only [Act.put, sa_, sb_, sc_, i64_w, i32_w]
           rfl
          refine pure_ (i := 15) (N := some 64) (v := undef) (a' := ?_) z17_25_ rfl rfl (an_ T_) (fun _ _ _ h => h) (Or.inr ⟨by rfl, rfl⟩) ?_ ?_
          rotate_left
          ·simp only [Act.put, sa_, sb_, sc_, i64_w, i32_w]
           rfl
          refine pure_ (i := 16) (N := some 65) (v := undef) (a' := ?_) z17_26_ rfl rfl (an_ T_) (fun _ _ _ h => h) (Or.inr ⟨by rfl, rfl⟩) ?_ ?_
          rotate_left
          ·simp only [Act.put, sa_, sb_, sc_, i64_w, i32_w]
           rfl
          refine pure_ (i := 17) (N := some 66) (v := undef) (a' := ?_) z17_18_ rfl rfl (an_ T_) (fun _ _ _ h => h) (Or.inr ⟨by rfl, rfl⟩) ?_ ?_
          rotate_left
          ·simp only [Act.put, sa_, sb_, sc_, i64_w, i32_w]
           rfl
          refine pure_ (i := 18) (N := some 67) (v := undef) (a' := ?_) z17_19_ rfl rfl (an_ T_) (fun _ _ _ h => h) (Or.inr ⟨by rfl, rfl⟩) ?_ ?_
          rotate_left
          ·simp only [Act.put, sa_, sb_, sc_, i64_w, i32_w]
           rfl
          refine pure_ (i := 19) (N := some 68) (v := undef) (a' := ?_) z17_20_ rfl rfl (an_ T_) (fun _ _ _ h => h) (Or.inr ⟨by rfl, rfl⟩) ?_ ?_
          rotate_left
          ·simp only [Act.put, sa_, sb_, sc_, i64_w, i32_w]
           rfl
          refine pure_ (i := 20) (N := some 69) (v := undef) (a' := ?_) z17_21_ rfl rfl (an_ T_) (fun _ _ _ h => h) (Or.inr ⟨by rfl, rfl⟩) ?_ ?_
          rotate_left
          ·simp only [Act.put, sa_, sb_, sc_, i64_w, i32_w]
           rfl
          refine pure_ (i := 21) (N := some 70) (v := undef) (a' := ?_) z17_22_ rfl rfl (an_ T_) (fun _ _ _ h => h) (Or.inr ⟨by rfl, rfl⟩) ?_ ?_
          rotate_left
          ·simp only [Act.put, sa_, sb_, sc_, i64_w, i32_w]
           rfl
          refine pure_ (i := 22) (N := some 71) (v := ?_) (a' := ?_) z17_23_ rfl rfl (an_ T_) (fun _ _ _ h => h) (Or.inl ⟨by rfl, ?_⟩) ?_ ?_
          rotate_left; · intro w'; go_simp; with_reducible rfl
          rotate_left; · simp only [Act.put, sa_, sb_, sc_, i64_w, i32_w]; rfl
          refine done_ (done_of T_.out (by kernel_rfl)) ?_
          try go_wp2
          go_ret
          exact ⟨by first | rfl | (simp [errW_none, errW_some] <;> rfl) | (simp only [← aO, ← aJ]; first | rfl | (simp [errW_none, errW_some] <;> rfl)) | (simp [*, errW_none, errW_some] <;> rfl), HB.out⟩
        ·rw [if_neg aZ] at H
         exact absurd H (by simp)
       ·rw [if_neg a9] at H
        exact absurd H (by simp)
      ·rw [if_neg aW] at H
       have c17b0 : decide (ag < (ab.length : Int)) = false := decide_eq_false aW
       clear aW
       obtain rfl := Option.some.inj H
       have cg : wr.cell? ⟨af, 0, none⟩ = some (.int .i64 ad) := bq_ aa 0
       have ci : wr.cell? ⟨af, 1, none⟩ = some (.int .i64 ac) := bq_ aa 1
       have cj : wr.cell? ⟨af, 2, none⟩ = some (.int .i64 ae) := bq_ aa 2
       have ck : wr.cell? ⟨af, 3, none⟩ = some (.slice ap ab.length al) := bq_ aa 3
       have cl := blk_frozen aa.out 0
       have cm := blk_frozen aa.out 1
       have cn := blk_frozen aa.out 2
       have co := blk_frozen aa.out 3
       go_wp2
       go_ret
       exact ⟨by first | rfl | (simp [errW_none, errW_some] <;> rfl) | (simp [*, errW_none, errW_some] <;> rfl), HB.out⟩

end Go.Proofs.YtpnpmeogffodgaaDoor.Q
end
section
namespace Go.Proofs.YtpnpmeogffodgaaDoor.Q
open Go.RowKit Go.Proofs.YtpnpmeogffodgaaDoorW.PrintWords Go.Proofs.YtpnpmeogffodgaaDoorW.PrintLast Go.Proofs.YtpnpmeogffodgaaDoorW.PrintMore
attribute [local go_sem] max2_int min2_int max_two min_two max_three min_three max_four min_four run_store_fnV run_store_fnc run_store_nfn   -- for this text's walks alone
set_option linter.unusedVariables false
set_option linter.unusedSimpArgs false

/-! ### attestorref07_Cap: function 20 -/
def attestorref07_Cap.f (k : Nat) (a0_0 : Int) (a0_1 : Int) (a0_2 : Int) (l0_3 : List (List (S36))) : Option ((List (S36))) := (attestorref07_Valid.f k a0_0 a0_1 a0_2 l0_3).bind fun t580 => (if t580 = true then (if 0 ≤ (wrap64 ((l0_3.length : Int) - 1)) then (if (wrap64 ((l0_3.length : Int) - 1)) < (l0_3.length : Int) then (if ([] : List (S36)).length + (rd_L3 l0_3 (wrap64 ((l0_3.length : Int) - 1))).length < 8796093022208 then (some (([] : List (S36)) ++ (rd_L3 l0_3 (wrap64 ((l0_3.length : Int) - 1))))) else (none)) else (none)) else (none)) else (some ([] : List (S36))))
theorem attestorref07_Cap.mono : ∀ a0 a1 a2 a3 k, LeO (attestorref07_Cap.f k a0 a1 a2 a3) (attestorref07_Cap.f (k + 1) a0 a1 a2 a3) := by
  intro a0 a1 a2 a3 k
  unfold attestorref07_Cap.f
  repeat' first
      | (with_reducible exact attestorref07_Valid.mono _ _ _ _ _)
      | (with_reducible exact LeO.refl _)
      | (with_reducible exact LeO.none _)
      | (with_reducible refine LeO.ite ?_ ?_)
      | (with_reducible refine LeO.bind ?_ (fun _ => ?_))
      | exact attestorref07_Valid.mono _ _ _ _ _
      | exact LeO.none _
      | refine LeO.ite ?_ ?_
      | refine LeO.bind ?_ (fun _ => ?_)
set_option maxHeartbeats 8000000 in
set_option maxRecDepth 100000 in
theorem attestorref07_Cap.calls (k : Nat) (a0_0 : Int) (a0_1 : Int) (a0_2 : Int) (A0_3 : Option Addr) (c0_3 : Nat) (l0_3 : List (List (S36))) (r : List (S36)) (w : World) (hr0_3 : Kd.C (Kd.slice 36 k36) w A0_3 l0_3.length l0_3) (hc0_3 : l0_3.length ≤ c0_3) (h : attestorref07_Cap.f k a0_0 a0_1 a0_2 l0_3 = some r) :
    Calls Tryd.prog 20 #[.agg #[.int .i64 a0_0, .int .i64 a0_1, .int .i64 a0_2, .slice A0_3 l0_3.length c0_3]] w fun e w' => ∃ v0_ : Value, e = .returned (v0_) ∧ Kd.R k36 36 w' w.heap.size (fun _ => True) v0_ r ∧ Below w.heap.size w w' := by
  have hu26 := Tryd.underlying26
  have HR0_3 := Aside0.mk hr0_3
  have HC0_3 := Aside0.mk hc0_3
  clear hr0_3 hc0_3
  have HB := Aside0.mk (Below.refl w.heap.size w)
  have H : ((attestorref07_Valid.f k a0_0 a0_1 a0_2 l0_3).bind fun t580 => (if t580 = true then (if 0 ≤ (wrap64 ((l0_3.length : Int) - 1)) then (if (wrap64 ((l0_3.length : Int) - 1)) < (l0_3.length : Int) then (if ([] : List (S36)).length + (rd_L3 l0_3 (wrap64 ((l0_3.length : Int) - 1))).length < 8796093022208 then (some (([] : List (S36)) ++ (rd_L3 l0_3 (wrap64 ((l0_3.length : Int) - 1))))) else (none)) else (none)) else (none)) else (some ([] : List (S36))))) = some r := h
  clear h
  replace H := Option.bind_eq_some_iff.mp H
  obtain ⟨t580, A20, H⟩ := H
  replace H : (if t580 = true then (if 0 ≤ (wrap64 ((l0_3.length : Int) - 1)) then (if (wrap64 ((l0_3.length : Int) - 1)) < (l0_3.length : Int) then (if ([] : List (S36)).length + (rd_L3 l0_3 (wrap64 ((l0_3.length : Int) - 1))).length < 8796093022208 then (some (([] : List (S36)) ++ (rd_L3 l0_3 (wrap64 ((l0_3.length : Int) - 1))))) else (none)) else (none)) else (none)) else (some ([] : List (S36)))) = some r := H
  have A2 := Aside0.mk A20
  clear A20
  by_cases c3 : t580 = true
  · subst c3
    have H1 : (if 0 ≤ (wrap64 ((l0_3.length : Int) - 1)) then (if (wrap64 ((l0_3.length : Int) - 1)) < (l0_3.length : Int) then (if ([] : List (S36)).length + (rd_L3 l0_3 (wrap64 ((l0_3.length : Int) - 1))).length < 8796093022208 then (some (([] : List (S36)) ++ (rd_L3 l0_3 (wrap64 ((l0_3.length : Int) - 1))))) else (none)) else (none)) else (none)) = some r := by rw [if_pos rfl] at H; exact H
    clear H
    have H := H1
    clear H1
    obtain ⟨ji4, hji4⟩ : ∃ j_ : Int, (wrap64 ((l0_3.length : Int) - 1)) = j_ := ⟨_, rfl⟩
    replace H : (if 0 ≤ (ji4) then (if (ji4) < (l0_3.length : Int) then (if ([] : List (S36)).length + (rd_L3 l0_3 (ji4)).length < 8796093022208 then (some (([] : List (S36)) ++ (rd_L3 l0_3 (ji4)))) else (none)) else (none)) else (none)) = some r := by first | (rw [hji4] at H; exact H) | (simp only [hji4] at H ⊢; exact H)
    (try rw [hji4] at A2)
    have hji4w : (IntKind.i64.wrap ((l0_3.length : Int) - 1)) = ji4 := (i64_w _).trans hji4
    by_cases c5 : 0 ≤ (ji4)
    · rw [if_pos c5] at H
      have c5b0 : decide (0 ≤ (ji4)) = true := decide_eq_true c5
      clear c5
      by_cases c6 : (ji4) < (l0_3.length : Int)
      · rw [if_pos c6] at H
        have c6b0 : decide ((ji4) < (l0_3.length : Int)) = true := decide_eq_true c6
        clear c6
        by_cases c7 : ([] : List (S36)).length + (rd_L3 l0_3 (ji4)).length < 8796093022208
        · rw [if_pos c7] at H
          have LMc7 := Aside0.mk c7
          clear c7
          obtain ⟨y582, hy582⟩ : ∃ y_ : List (S36), y_ = (([] : List (S36)) ++ (rd_L3 l0_3 (ji4))) := ⟨_, rfl⟩
          replace H : (some y582) = some r := by first | (rw [hy582]; with_reducible exact H) | (have H2_ := (Option.bind_some _ _).symm.trans H; rw [hy582]; with_reducible exact H2_) | (have H2_ := (Option.bind_some _ _).symm.trans H; with_reducible exact H2_) | with_reducible exact H | (rw [hy582]; exact H) | exact H
          have Ny582 := Aside0.mk hy582
          clear hy582
          obtain rfl := Option.some.inj H
          go_enter Tryd.func20, Tryd.ntmps20
          go_wp2_with (first | ((with_reducible refine gate_dst (N := 1) rfl ?_); refine box_event ?hg (N := 1) ?hd (cs := #[.int .i64 a0_0, .int .i64 a0_1, .int .i64 a0_2, .slice A0_3 l0_3.length c0_3]) (t := 26) ?hr ?_; (case hd => rfl); (case hg => rfl); (case hr => first | (go_simp; done) | (go_simp; rfl)); intro gb579 hg w8 hbox hb; have n0_ := Aside0.mk (below_step (by repeat (first | (with_reducible first | exact HB.out | apply below_alloc | apply pw_below_drewN | apply below_drew1) | exact HB.out)) hb); have n1_ := Aside0.mk (hbox); have n2_ := Aside0.mk ((by rw [hg]; exact (below_size (by repeat (first | (with_reducible first | exact HB.out | apply below_alloc | apply pw_below_drewN | apply below_drew1) | exact HB.out))) : w.heap.size ≤ gb579)); have n3_ := Aside0.mk ((by rw [hg]; exact (below_size (by repeat (first | (with_reducible first | exact HB.out | apply below_alloc | apply pw_below_drewN | apply below_drew1) | exact HB.out))) : w.heap.size ≤ gb579)); clear HB; have HB := n0_; have BK579 := n1_; have GW579 := n2_; have GE579 := n3_; clear n0_ n1_ n2_ n3_; clear hb hbox hg; have hcz9_0 : w8.cell? ⟨gb579, 0, none⟩ = some (.int .i64 a0_0) := (blk_cell BK579.out 0).trans rfl; have hcz9_1 : w8.cell? ⟨gb579, 1, none⟩ = some (.int .i64 a0_1) := (blk_cell BK579.out 1).trans rfl; have hcz9_2 : w8.cell? ⟨gb579, 2, none⟩ = some (.int .i64 a0_2) := (blk_cell BK579.out 2).trans rfl; have hcz9_3 : w8.cell? ⟨gb579, 3, none⟩ = some (.slice A0_3 l0_3.length c0_3) := (blk_cell BK579.out 3).trans rfl; have hfz9_0 := blk_frozen BK579.out 0; have hfz9_1 := blk_frozen BK579.out 1; have hfz9_2 := blk_frozen BK579.out 2; have hfz9_3 := blk_frozen BK579.out 3) | ((with_reducible refine gate_callee (f := 17) rfl ?_); refine goesL_ (some 5) rfl rfl Tryd.func17 (by kernel_rfl) rfl #[.agg #[.int .i64 a0_0, .int .i64 a0_1, .int .i64 a0_2, .slice A0_3 l0_3.length c0_3]] rfl (by (try simp only [List.map_toArray, List.map_cons, List.map_nil]); first | done | rfl | (simp only [List.length_drop, List.length_take]; rfl) | (go_simp; done) | (go_simp; rw [Int.tmod_eq_emod_of_nonneg (by omega)]; omega)) ?_; (with_reducible refine (attestorref07_Valid.calls k a0_0 a0_1 a0_2 _ _ l0_3 true _ ?side1 ?side2 A2.out).mono ?_); (case side1 => repeat (first | exact (Kd.C_below HR0_3.out HB.out) | (with_reducible refine Kd.C_alloc ?_ _) | (with_reducible refine Kd.C_drewN ?_ _) | (with_reducible refine Kd.C_drew ?_))); (case side2 => exact HC0_3.out); rintro e w10 ⟨rfl, hb⟩; refine ⟨_, rfl, ?_⟩; have n0_ := Aside0.mk (blk_below (g := gb579) (o := .cells #[.int .i64 a0_0, .int .i64 a0_1, .int .i64 a0_2, .slice A0_3 l0_3.length c0_3] 26 (0, 0)) (by (with_reducible repeat (first | refine blk_drewN ?_ _ | refine blk_drew ?_ | refine blk_alloc ?_ _)); exact BK579.out) hb); have n1_ := Aside0.mk (below_step (by repeat (first | (with_reducible first | exact HB.out | apply below_alloc | apply pw_below_drewN | apply below_drew1 | refine below_set ?_ GE579.out) | exact HB.out)) hb); clear BK579; clear HB; have BK579 := n0_; have HB := n1_; clear n0_ n1_; (try clear hb); (try clear hb2); (try clear hk); (try clear hi); have hcz11_0 : w10.cell? ⟨gb579, 0, none⟩ = some (.int .i64 a0_0) := (blk_cell BK579.out 0).trans rfl; have hcz11_1 : w10.cell? ⟨gb579, 1, none⟩ = some (.int .i64 a0_1) := (blk_cell BK579.out 1).trans rfl; have hcz11_2 : w10.cell? ⟨gb579, 2, none⟩ = some (.int .i64 a0_2) := (blk_cell BK579.out 2).trans rfl; have hcz11_3 : w10.cell? ⟨gb579, 3, none⟩ = some (.slice A0_3 l0_3.length c0_3) := (blk_cell BK579.out 3).trans rfl; have hfz11_0 := blk_frozen BK579.out 0; have hfz11_1 := blk_frozen BK579.out 1; have hfz11_2 := blk_frozen BK579.out 2; have hfz11_3 := blk_frozen BK579.out 3; have p581 : 0 ≤ ((ji4) : Int) := of_decide_eq_true (by first | (with_reducible assumption) | assumption); have q581 : (ji4) < (l0_3.length : Int) := of_decide_eq_true (by first | (with_reducible assumption) | assumption); obtain ⟨ad581, A581_0, c581_0, e581, hx581_0, hl581_0, hi581_0⟩ := at_L3 HR0_3.out (ji4) p581 q581; cases e581; replace hx581_0 := (HB.out.cell (World.block_lt_of_cell? w _ hx581_0)).trans hx581_0; have HR581_0 := Aside0.mk hi581_0; have HC581_0 := Aside0.mk hl581_0; clear hi581_0 hl581_0; replace p581 := eq_true p581; replace q581 := eq_true q581) | ((with_reducible refine gate_builtin (b := .append) (xs := #[.tmp 7, .tmp 15]) rfl ?_); at_builtin; refine Kd.R_append_rows k36 (w0 := w) w.heap.size rfl (.tmp 7) (.tmp 15) 22 36 (.agg #[(.int .u64 0), (.int .u64 0)]) 16 rfl Tryd.underlying22 info36 rfl (by decide) (by omega) (.slice none 0 0) ([] : List (S36)) (rd_L3 l0_3 (ji4)) _ _ _ (fun _ => True) (fun _ => False) rfl rfl ?aO ?aR (fun _ _ h => h) (fun _ h => h.elim) ?aF ?aB ?aS ?aL ?_; (case aR => repeat (first | exact (Kd.C_below HR581_0.out HB.out) | (with_reducible refine Kd.C_alloc ?_ _) | (with_reducible refine Kd.C_drewN ?_ _) | (with_reducible refine Kd.C_drew ?_))); (case aB => exact (by repeat (first | (with_reducible first | exact HB.out | apply below_alloc | apply pw_below_drewN | apply below_drew1 | refine below_set ?_ GE579.out) | exact HB.out))); (case aF => exact (fun _ _ => trivial)); (case aO => exact ((Kd.R_nil _ _ _ _ (fun _ => True)))); (case aS => exact (below_size (by repeat (first | (with_reducible first | exact HB.out | apply below_alloc | apply pw_below_drewN | apply below_drew1 | refine below_set ?_ GE579.out) | exact HB.out)))); (case aL => have := LMc7.out; omega); intro v583 w12 ho hb hg hat; rw [← Ny582.out] at ho; have n0_ := Aside0.mk (blk_grown (g := gb579) (o := .cells #[.int .i64 a0_0, .int .i64 a0_1, .int .i64 a0_2, .slice (some ad581) l0_3.length c0_3] 26 (0, 0)) (by (with_reducible repeat (first | refine blk_drewN ?_ _ | refine blk_drew ?_ | refine blk_alloc ?_ _)); exact BK579.out) hg (by simp [Value.ownBlock])); have n1_ := Aside0.mk (hb); have n2_ := Aside0.mk (ho); clear BK579; clear HB; have BK579 := n0_; have HB := n1_; have HO584 := n2_; clear n0_ n1_ n2_; clear ho hb hg hat))
          go_ret
          exact ⟨_, by first | rfl | (simp [errW_none, errW_some] <;> rfl) | (simp only [← hji4]; first | rfl | (simp [errW_none, errW_some] <;> rfl)) | (simp [*, errW_none, errW_some] <;> rfl), by (with_reducible repeat (first | apply Kd.R_alloc | apply Kd.R_drewN | apply Kd.R_drew)); exact HO584.out, by repeat (first | (with_reducible first | exact HB.out | apply below_alloc | apply pw_below_drewN | apply below_drew1 | refine below_set ?_ GE579.out) | exact HB.out)⟩
        · rw [if_neg c7] at H
          exact absurd H (by simp)
      · rw [if_neg c6] at H
        exact absurd H (by simp)
    · rw [if_neg c5] at H
      exact absurd H (by simp)
  · replace c3 := Bool.eq_false_iff.mpr c3
    subst c3
    have H1 : (some ([] : List (S36))) = some r := by rw [if_neg (show ¬ (false = true) by decide)] at H; exact H
    clear H
    have H := H1
    clear H1
    obtain rfl := Option.some.inj H
    go_enter Tryd.func20, Tryd.ntmps20
    go_wp2_with (first | ((with_reducible refine gate_dst (N := 1) rfl ?_); refine box_event ?hg (N := 1) ?hd (cs := #[.int .i64 a0_0, .int .i64 a0_1, .int .i64 a0_2, .slice A0_3 l0_3.length c0_3]) (t := 26) ?hr ?_; (case hd => rfl); (case hg => rfl); (case hr => first | (go_simp; done) | (go_simp; rfl)); intro gb579 hg w13 hbox hb; have n0_ := Aside0.mk (below_step (by repeat (first | (with_reducible first | exact HB.out | apply below_alloc | apply pw_below_drewN | apply below_drew1) | exact HB.out)) hb); have n1_ := Aside0.mk (hbox); have n2_ := Aside0.mk ((by rw [hg]; exact (below_size (by repeat (first | (with_reducible first | exact HB.out | apply below_alloc | apply pw_below_drewN | apply below_drew1) | exact HB.out))) : w.heap.size ≤ gb579)); have n3_ := Aside0.mk ((by rw [hg]; exact (below_size (by repeat (first | (with_reducible first | exact HB.out | apply below_alloc | apply pw_below_drewN | apply below_drew1) | exact HB.out))) : w.heap.size ≤ gb579)); clear HB; have HB := n0_; have BK579 := n1_; have GW579 := n2_; have GE579 := n3_; clear n0_ n1_ n2_ n3_; clear hb hbox hg; have hcz14_0 : w13.cell? ⟨gb579, 0, none⟩ = some (.int .i64 a0_0) := (blk_cell BK579.out 0).trans rfl; have hcz14_1 : w13.cell? ⟨gb579, 1, none⟩ = some (.int .i64 a0_1) := (blk_cell BK579.out 1).trans rfl; have hcz14_2 : w13.cell? ⟨gb579, 2, none⟩ = some (.int .i64 a0_2) := (blk_cell BK579.out 2).trans rfl; have hcz14_3 : w13.cell? ⟨gb579, 3, none⟩ = some (.slice A0_3 l0_3.length c0_3) := (blk_cell BK579.out 3).trans rfl; have hfz14_0 := blk_frozen BK579.out 0; have hfz14_1 := blk_frozen BK579.out 1; have hfz14_2 := blk_frozen BK579.out 2; have hfz14_3 := blk_frozen BK579.out 3) | ((with_reducible refine gate_callee (f := 17) rfl ?_); refine goesL_ (some 5) rfl rfl Tryd.func17 (by kernel_rfl) rfl #[.agg #[.int .i64 a0_0, .int .i64 a0_1, .int .i64 a0_2, .slice A0_3 l0_3.length c0_3]] rfl (by (try simp only [List.map_toArray, List.map_cons, List.map_nil]); first | done | rfl | (simp only [List.length_drop, List.length_take]; rfl) | (go_simp; done) | (go_simp; rw [Int.tmod_eq_emod_of_nonneg (by omega)]; omega)) ?_; (with_reducible refine (attestorref07_Valid.calls k a0_0 a0_1 a0_2 _ _ l0_3 false _ ?side1 ?side2 A2.out).mono ?_); (case side1 => repeat (first | exact (Kd.C_below HR0_3.out HB.out) | (with_reducible refine Kd.C_alloc ?_ _) | (with_reducible refine Kd.C_drewN ?_ _) | (with_reducible refine Kd.C_drew ?_))); (case side2 => exact HC0_3.out); rintro e w15 ⟨rfl, hb⟩; refine ⟨_, rfl, ?_⟩; have n0_ := Aside0.mk (blk_below (g := gb579) (o := .cells #[.int .i64 a0_0, .int .i64 a0_1, .int .i64 a0_2, .slice A0_3 l0_3.length c0_3] 26 (0, 0)) (by (with_reducible repeat (first | refine blk_drewN ?_ _ | refine blk_drew ?_ | refine blk_alloc ?_ _)); exact BK579.out) hb); have n1_ := Aside0.mk (below_step (by repeat (first | (with_reducible first | exact HB.out | apply below_alloc | apply pw_below_drewN | apply below_drew1 | refine below_set ?_ GE579.out) | exact HB.out)) hb); clear BK579; clear HB; have BK579 := n0_; have HB := n1_; clear n0_ n1_; (try clear hb); (try clear hb2); (try clear hk); (try clear hi)))
    go_ret
    exact ⟨_, by first | rfl | (simp [errW_none, errW_some] <;> rfl) | (simp [*, errW_none, errW_some] <;> rfl), by first | exact Kd.R_nil _ _ _ _ _ | exact Kd.N_nil _ _ _ _ _ | exact Kd.V_nil _ _ _ _ _ | exact Kd.Q_nil _ _ _ _ _ | exact Kd.S_nil _ _ _ _ _, by repeat (first | (with_reducible first | exact HB.out | apply below_alloc | apply pw_below_drewN | apply below_drew1 | refine below_set ?_ GE579.out) | exact HB.out)⟩

end Go.Proofs.YtpnpmeogffodgaaDoor.Q
end
