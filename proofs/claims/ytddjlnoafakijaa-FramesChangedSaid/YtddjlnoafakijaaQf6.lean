-- Written by our own copy of a printing program (a twelfth state) out of the translation. Not trusted: Lean checks it.
import Derived.Test.YtddjlnoafakijaaQ0
import Derived.Test.YtddjlnoafakijaaQf15
import Derived.Test.YtddjlnoafakijaaQf17
import Derived.Test.YtddjlnoafakijaaQf19
import Derived.Test.YtddjlnoafakijaaQf21
import Derived.Test.YtddjlnoafakijaaQf22
namespace Go.Proofs.Ytddjlnoafakijaa.Q
open Go.RowKit Go.Proofs.YtddjlnoafakijaaW.PrintWords Go.Proofs.YtddjlnoafakijaaW.PrintLast Go.Proofs.YtddjlnoafakijaaW.PrintMore
attribute [local go_sem] max2_int min2_int max_two min_two max_three min_three max_four min_four run_store_fnV run_store_fnc run_store_nfn   -- for this text's walks alone
set_option linter.unusedVariables false
set_option linter.unusedSimpArgs false

/-! ### attestorlaw34_FramesChanged: function 6 -/
mutual
def attestorlaw34_FramesChanged.j0 : Nat → List (S25) → Int → Int → List Int → Bool → Option (Bool)
  | 0, _, _, _, _, _ => none
  | k + 1, x0, x1, x2, x7, x24 => if x24 = true then ((attestorlaw34_lives.f k).bind fun t454 => (some t454)) else (if (x7.length : Int) = 0 then (none) else (if 0 ≤ (Int.tmod (wrap64 (x1)) (x7.length : Int)) then (if (Int.tmod (wrap64 (x1)) (x7.length : Int)) < (x7.length : Int) then (attestorlaw34_FramesChanged.l0 k x0 (x7.set ((Int.tmod (wrap64 (x1)) (x7.length : Int)) : Int).toNat (Go.bits .xor .u8 (rd x7 (Int.tmod (wrap64 (x1)) (x7.length : Int))) x2)) (Int.tmod (wrap64 (x1)) (x7.length : Int)) 0 0) else (none)) else (none)))
def attestorlaw34_FramesChanged.j2 : Nat → List (S25) → List Int → Int → Int → Int → Option (Bool)
  | 0, _, _, _, _, _ => none
  | k + 1, x0, x7, x8, x9, x10 => (frames_Split.f k x7).bind fun bt459 => (if x9 ≥ (x0.length : Int) then (none) else (if 0 ≤ x9 then (if x9 ≤ (x0.length : Int) then ((attestorref34_Same.f k bt459.1 (x0.take (x9 : Int).toNat)).bind fun t468 => (if t468 = true then (if x9 < (x0.length : Int) then (if bt459.2.1 ≥ (wrap64 ((wrap64 (x10 + (((rd_T25 x0 x9).f2).length : Int))) + 14)) then (none) else (if bt459.2.2 = 4 then (if bt459.2.1 ≥ x8 then ((attestorlaw34_lives.f k).bind fun t470 => (some t470)) else (if bt459.2.2 = 3 then (if bt459.2.1 = (wrap64 (x10 + 6)) then (if x8 ≥ (wrap64 (x10 + 6)) then (if x8 < (wrap64 (x10 + 9)) then ((attestorlaw34_lives.f k).bind fun t471 => (some t471)) else (none)) else (none)) else (none)) else (none))) else (if bt459.2.2 = 3 then (if bt459.2.1 = (wrap64 (x10 + 6)) then (if x8 ≥ (wrap64 (x10 + 6)) then (if x8 < (wrap64 (x10 + 9)) then ((attestorlaw34_lives.f k).bind fun t472 => (some t472)) else (none)) else (none)) else (none)) else (none)))) else (none)) else (none))) else (none)) else (none)))
def attestorlaw34_FramesChanged.l0 : Nat → List (S25) → List Int → Int → Int → Int → Option (Bool)
  | 0, _, _, _, _, _ => none
  | k + 1, x0, x7, x8, x9, x10 => if x9 < (x0.length : Int) then (if 0 ≤ x9 then (if x8 ≥ (wrap64 ((wrap64 (x10 + (((rd_T25 x0 x9).f2).length : Int))) + 14)) then (attestorlaw34_FramesChanged.l0 k x0 x7 x8 (wrap64 (x9 + 1)) (wrap64 ((wrap64 (x10 + (((rd_T25 x0 x9).f2).length : Int))) + 14))) else (attestorlaw34_FramesChanged.j2 k x0 x7 x8 x9 x10)) else (none)) else (attestorlaw34_FramesChanged.j2 k x0 x7 x8 x9 x10)
end
def attestorlaw34_FramesChanged.f (k : Nat) (l0 : List (S25)) (a1 : Int) (a2 : Int) : Option (Bool) := (attestorlaw34_some.f k l0 6).bind fun t448 => ((attestorlaw34_stream.f k t448).bind fun t451 => (if (t451.length : Int) = 0 then (attestorlaw34_FramesChanged.j0 k t448 a1 a2 t451 true) else (attestorlaw34_FramesChanged.j0 k t448 a1 a2 t451 (a2 == 0))))
theorem attestorlaw34_FramesChanged.mono_l : ∀ k, (∀ y0 y1 y2 y3 y4, LeO (attestorlaw34_FramesChanged.j0 k y0 y1 y2 y3 y4) (attestorlaw34_FramesChanged.j0 (k + 1) y0 y1 y2 y3 y4)) ∧ (∀ y0 y1 y2 y3 y4, LeO (attestorlaw34_FramesChanged.j2 k y0 y1 y2 y3 y4) (attestorlaw34_FramesChanged.j2 (k + 1) y0 y1 y2 y3 y4)) ∧ (∀ y0 y1 y2 y3 y4, LeO (attestorlaw34_FramesChanged.l0 k y0 y1 y2 y3 y4) (attestorlaw34_FramesChanged.l0 (k + 1) y0 y1 y2 y3 y4))
  | 0 => ⟨fun _ _ _ _ _ r h => by simp [attestorlaw34_FramesChanged.j0] at h, fun _ _ _ _ _ r h => by simp [attestorlaw34_FramesChanged.j2] at h, fun _ _ _ _ _ r h => by simp [attestorlaw34_FramesChanged.l0] at h⟩
  | k + 1 => by
    obtain ⟨ih0, ih1, ih2⟩ := attestorlaw34_FramesChanged.mono_l k
    refine ⟨?_, ?_, ?_⟩
    · intro y0 y1 y2 y3 y4
      unfold attestorlaw34_FramesChanged.j0
      repeat' first
      | (with_reducible exact ih0 _ _ _ _ _)
      | (with_reducible exact ih1 _ _ _ _ _)
      | (with_reducible exact ih2 _ _ _ _ _)
      | (with_reducible exact attestorlaw34_lives.mono _)
      | (with_reducible exact attestorlaw34_some.mono _ _ _)
      | (with_reducible exact attestorlaw34_stream.mono _ _)
      | (with_reducible exact attestorref34_Same.mono _ _ _)
      | (with_reducible exact frames_Split.mono _ _)
      | (with_reducible exact LeO.refl _)
      | (with_reducible exact LeO.none _)
      | (with_reducible refine LeO.ite ?_ ?_)
      | (with_reducible refine LeO.bind ?_ (fun _ => ?_))
      | exact ih0 _ _ _ _ _
      | exact ih1 _ _ _ _ _
      | exact ih2 _ _ _ _ _
      | exact attestorlaw34_lives.mono _
      | exact attestorlaw34_some.mono _ _ _
      | exact attestorlaw34_stream.mono _ _
      | exact attestorref34_Same.mono _ _ _
      | exact frames_Split.mono _ _
      | exact LeO.none _
      | refine LeO.ite ?_ ?_
      | refine LeO.bind ?_ (fun _ => ?_)
    · intro y0 y1 y2 y3 y4
      unfold attestorlaw34_FramesChanged.j2
      repeat' first
      | (with_reducible exact ih0 _ _ _ _ _)
      | (with_reducible exact ih1 _ _ _ _ _)
      | (with_reducible exact ih2 _ _ _ _ _)
      | (with_reducible exact attestorlaw34_lives.mono _)
      | (with_reducible exact attestorlaw34_some.mono _ _ _)
      | (with_reducible exact attestorlaw34_stream.mono _ _)
      | (with_reducible exact attestorref34_Same.mono _ _ _)
      | (with_reducible exact frames_Split.mono _ _)
      | (with_reducible exact LeO.refl _)
      | (with_reducible exact LeO.none _)
      | (with_reducible refine LeO.ite ?_ ?_)
      | (with_reducible refine LeO.bind ?_ (fun _ => ?_))
      | exact ih0 _ _ _ _ _
      | exact ih1 _ _ _ _ _
      | exact ih2 _ _ _ _ _
      | exact attestorlaw34_lives.mono _
      | exact attestorlaw34_some.mono _ _ _
      | exact attestorlaw34_stream.mono _ _
      | exact attestorref34_Same.mono _ _ _
      | exact frames_Split.mono _ _
      | exact LeO.none _
      | refine LeO.ite ?_ ?_
      | refine LeO.bind ?_ (fun _ => ?_)
    · intro y0 y1 y2 y3 y4
      unfold attestorlaw34_FramesChanged.l0
      repeat' first
      | (with_reducible exact ih0 _ _ _ _ _)
      | (with_reducible exact ih1 _ _ _ _ _)
      | (with_reducible exact ih2 _ _ _ _ _)
      | (with_reducible exact attestorlaw34_lives.mono _)
      | (with_reducible exact attestorlaw34_some.mono _ _ _)
      | (with_reducible exact attestorlaw34_stream.mono _ _)
      | (with_reducible exact attestorref34_Same.mono _ _ _)
      | (with_reducible exact frames_Split.mono _ _)
      | (with_reducible exact LeO.refl _)
      | (with_reducible exact LeO.none _)
      | (with_reducible refine LeO.ite ?_ ?_)
      | (with_reducible refine LeO.bind ?_ (fun _ => ?_))
      | exact ih0 _ _ _ _ _
      | exact ih1 _ _ _ _ _
      | exact ih2 _ _ _ _ _
      | exact attestorlaw34_lives.mono _
      | exact attestorlaw34_some.mono _ _ _
      | exact attestorlaw34_stream.mono _ _
      | exact attestorref34_Same.mono _ _ _
      | exact frames_Split.mono _ _
      | exact LeO.none _
      | refine LeO.ite ?_ ?_
      | refine LeO.bind ?_ (fun _ => ?_)
theorem attestorlaw34_FramesChanged.mono : ∀ a0 a1 a2 k, LeO (attestorlaw34_FramesChanged.f k a0 a1 a2) (attestorlaw34_FramesChanged.f (k + 1) a0 a1 a2) := by
  intro a0 a1 a2 k
  obtain ⟨ih0, ih1, ih2⟩ := attestorlaw34_FramesChanged.mono_l k
  unfold attestorlaw34_FramesChanged.f
  repeat' first
      | (with_reducible exact ih0 _ _ _ _ _)
      | (with_reducible exact ih1 _ _ _ _ _)
      | (with_reducible exact ih2 _ _ _ _ _)
      | (with_reducible exact attestorlaw34_lives.mono _)
      | (with_reducible exact attestorlaw34_some.mono _ _ _)
      | (with_reducible exact attestorlaw34_stream.mono _ _)
      | (with_reducible exact attestorref34_Same.mono _ _ _)
      | (with_reducible exact frames_Split.mono _ _)
      | (with_reducible exact LeO.refl _)
      | (with_reducible exact LeO.none _)
      | (with_reducible refine LeO.ite ?_ ?_)
      | (with_reducible refine LeO.bind ?_ (fun _ => ?_))
      | exact ih0 _ _ _ _ _
      | exact ih1 _ _ _ _ _
      | exact ih2 _ _ _ _ _
      | exact attestorlaw34_lives.mono _
      | exact attestorlaw34_some.mono _ _ _
      | exact attestorlaw34_stream.mono _ _
      | exact attestorref34_Same.mono _ _ _
      | exact frames_Split.mono _ _
      | exact LeO.none _
      | refine LeO.ite ?_ ?_
      | refine LeO.bind ?_ (fun _ => ?_)
set_option maxHeartbeats 8000000 in
set_option maxRecDepth 100000 in
theorem attestorlaw34_FramesChanged.calls (k : Nat) (A0 : Option Addr) (c0 : Nat) (l0 : List (S25)) (a1 : Int) (a2 : Int) (r : Bool) (w : World) (hr0 : Kd.C k25 w A0 l0.length l0) (hc0 : l0.length ≤ c0) (h : attestorlaw34_FramesChanged.f k l0 a1 a2 = some r) :
    Calls Try.prog 6 #[.slice A0 l0.length c0, .int .u16 a1, .int .u8 a2] w fun e w' => e = .returned (.bool r) ∧ Below w.heap.size w w' := by
  have HR0 := Aside0.mk hr0
  have HC0 := Aside0.mk hc0
  clear hr0 hc0
  have HB := Aside0.mk (Below.refl w.heap.size w)
  have H : ((attestorlaw34_some.f k l0 6).bind fun t448 => ((attestorlaw34_stream.f k t448).bind fun t451 => (if (t451.length : Int) = 0 then (attestorlaw34_FramesChanged.j0 k t448 a1 a2 t451 true) else (attestorlaw34_FramesChanged.j0 k t448 a1 a2 t451 (a2 == 0))))) = some r := h
  clear h
  replace H := Option.bind_eq_some_iff.mp H
  obtain ⟨t448, A40, H⟩ := H
  replace H : ((attestorlaw34_stream.f k t448).bind fun t451 => (if (t451.length : Int) = 0 then (attestorlaw34_FramesChanged.j0 k t448 a1 a2 t451 true) else (attestorlaw34_FramesChanged.j0 k t448 a1 a2 t451 (a2 == 0)))) = some r := H
  have A4 := Aside0.mk A40
  clear A40
  replace H := Option.bind_eq_some_iff.mp H
  obtain ⟨t451, A50, H⟩ := H
  replace H : (if (t451.length : Int) = 0 then (attestorlaw34_FramesChanged.j0 k t448 a1 a2 t451 true) else (attestorlaw34_FramesChanged.j0 k t448 a1 a2 t451 (a2 == 0))) = some r := H
  have A5 := Aside0.mk A50
  clear A50
  have HC6 := Aside0.mk H
  clear H
  go_enter Try.func6, Try.ntmps6
  go_upto_region 3 with (first | ((with_reducible refine gate_callee (f := 21) rfl ?_); refine goesL_ (some 15) rfl rfl Try.func21 (by kernel_rfl) rfl #[.slice A0 l0.length c0, .int .i64 6] rfl (by (try simp only [List.map_toArray, List.map_cons, List.map_nil]); first | done | rfl | (simp only [List.length_drop, List.length_take]; rfl) | (go_simp; done) | (go_simp; rw [Int.tmod_eq_emod_of_nonneg (by omega)]; omega)) ?_; (with_reducible refine (attestorlaw34_some.calls k _ _ l0 6 t448 _ ?side1 ?side2 A4.out).mono ?_); (case side1 => repeat (first | exact HR0.out | (with_reducible refine Kd.C_alloc ?_ _) | (with_reducible refine Kd.C_drewN ?_ _) | (with_reducible refine Kd.C_drew ?_))); (case side2 => exact HC0.out); rintro e w7 ⟨v449, rfl, ho0, hb⟩; refine ⟨_, rfl, ?_⟩; have n0_ := Aside0.mk (Kd.S_lower ho0 (below_size (by repeat (first | (with_reducible first | exact HB.out | apply below_alloc | apply pw_below_drewN | apply below_drew1) | exact HB.out)))); have n1_ := Aside0.mk (below_step (by repeat (first | (with_reducible first | exact HB.out | apply below_alloc | apply pw_below_drewN | apply below_drew1) | exact HB.out)) hb); clear HB; have HO450 := n0_; have HB := n1_; clear n0_ n1_; (try clear hb); (try clear hb2); (try clear hk); (try clear hi); (try clear ho0); obtain ⟨Ao8, co8, eo8⟩ := Kd.S_slice HO450.out; subst eo8) | ((with_reducible refine gate_callee (f := 22) rfl ?_); refine goesL_ (some 17) rfl rfl Try.func22 (by kernel_rfl) rfl #[.slice Ao8 t448.length co8] rfl (by (try simp only [List.map_toArray, List.map_cons, List.map_nil]); first | done | rfl | (simp only [List.length_drop, List.length_take]; rfl) | (go_simp; done) | (go_simp; rw [Int.tmod_eq_emod_of_nonneg (by omega)]; omega)) ?_; (with_reducible refine (attestorlaw34_stream.calls k _ _ t448 t451 _ ?side1 ?side2 A5.out).mono ?_); (case side1 => repeat (first | exact (Kd.S_reads' HO450.out).2.2 | (with_reducible refine Kd.C_alloc ?_ _) | (with_reducible refine Kd.C_drewN ?_ _) | (with_reducible refine Kd.C_drew ?_))); (case side2 => exact (Kd.S_reads' HO450.out).2.1); rintro e w9 ⟨v452, rfl, ho0, hb⟩; refine ⟨_, rfl, ?_⟩; have n0_ := Aside0.mk (Kd.S_elder' (by (with_reducible repeat (first | apply Kd.S_alloc | apply Kd.S_drewN | apply Kd.S_drew)); exact HO450.out) (Kd.R_base ho0) hb); have n1_ := Aside0.mk (Kd.R_lower ho0 (below_size (by repeat (first | (with_reducible first | exact HB.out | apply below_alloc | apply pw_below_drewN | apply below_drew1) | exact HB.out)))); have n2_ := Aside0.mk (below_step (by repeat (first | (with_reducible first | exact HB.out | apply below_alloc | apply pw_below_drewN | apply below_drew1) | exact HB.out)) hb); clear HO450; clear HB; have HO450 := n0_; have HO453 := n1_; have HB := n2_; clear n0_ n1_ n2_; (try clear hb); (try clear hb2); (try clear hk); (try clear hi); (try clear ho0)))
  (try simp only [Act.put, List.setIfInBounds_toArray, List.set_cons_zero, List.set_cons_succ])
  go_cut [24] (fun v24 wc => ∃ (kq : Nat) (x24_5 : Bool), v24 = .bool x24_5 ∧ Aside0 (attestorlaw34_FramesChanged.j0 kq t448 a1 a2 t451 x24_5 = some r) ∧ Aside0 (kq ≤ k) ∧ Aside0 (Kd.S k25 25 wc w.heap.size (fun k_ => some k_ ≠ (v452 : Value).ownBlock) (.slice Ao8 t448.length co8) t448) ∧ Aside0 (Kd.R (Kd.int .u8) 5 wc w.heap.size (fun _ => True) v452 t451) ∧ Aside0 (Below w.heap.size w wc))
  case first =>
    have H := HC6.out
    clear HC6
    by_cases c10 : (t451.length : Int) = 0
    · rw [if_pos c10] at H
      have c10b0 : ((t451.length : Int) == 0) = true := beq_iff_eq.mpr c10
      have c10b1 : ((t451.length : Int) != 0) = false := bne_eq_false_iff_eq.mpr c10
      clear c10
      (first | rw [c10b0] | (simp only [i64_w, i32_w]; rw [c10b0]) | skip)
      have H' := Aside0.mk H
      clear H
      obtain ⟨Ao11, co11, eo11⟩ := Kd.R_slice HO453.out
      subst eo11
      go_wp2
      go_meet
      case rel => exact ⟨_, (true), (by first | rfl | (simp; done) | (simp [*]; done)), H', ⟨by first | omega | exact Nat.le_refl _⟩, ⟨by (with_reducible repeat (first | apply Kd.S_alloc | apply Kd.S_drewN | apply Kd.S_drew)); exact Kd.S_mono HO450.out (fun _ hk => hk.2)⟩, ⟨by (with_reducible repeat (first | apply Kd.R_alloc | apply Kd.R_drewN | apply Kd.R_drew)); exact HO453.out⟩, ⟨by repeat (first | (with_reducible first | exact HB.out | apply below_alloc | apply pw_below_drewN | apply below_drew1) | exact HB.out)⟩⟩
    · rw [if_neg c10] at H
      have c10b0 : ((t451.length : Int) == 0) = false := beq_eq_false_iff_ne.mpr c10
      have c10b1 : ((t451.length : Int) != 0) = true := bne_iff_ne.mpr c10
      have c10b2 : ¬ (t451 = []) := fun h_ => c10 (by rw [h_]; rfl)
      (first | rw [c10b0] | (simp only [i64_w, i32_w]; rw [c10b0]) | skip)
      have H' := Aside0.mk H
      clear H
      obtain ⟨Ao12, co12, eo12⟩ := Kd.R_slice HO453.out
      subst eo12
      go_wp2
      go_meet
      case rel => exact ⟨_, ((a2 == 0)), (by first | rfl | (simp; done) | (simp [*]; done)), H', ⟨by first | omega | exact Nat.le_refl _⟩, ⟨by (with_reducible repeat (first | apply Kd.S_alloc | apply Kd.S_drewN | apply Kd.S_drew)); exact Kd.S_mono HO450.out (fun _ hk => hk.2)⟩, ⟨by (with_reducible repeat (first | apply Kd.R_alloc | apply Kd.R_drewN | apply Kd.R_drew)); exact HO453.out⟩, ⟨by repeat (first | (with_reducible first | exact HB.out | apply below_alloc | apply pw_below_drewN | apply below_drew1) | exact HB.out)⟩⟩
  case rest =>
    clear HC6
    try clear c1
    try clear c2
    try clear p2
    try clear c6
    try clear c10
    try clear c10b0
    try clear c10b1
    try clear c10b2
    obtain ⟨kq, x24_5, rfl, HA, HJ5, HO_0, HO_7, HB⟩ := hcut
    cases kq with
    | zero => exact absurd HA.out (by simp [attestorlaw34_FramesChanged.j0])
    | succ kj5 =>
      have H := HA.out
      clear HA
      simp only [attestorlaw34_FramesChanged.j0] at H
      by_cases c13 : x24_5 = true
      · subst c13
        have H1 : ((attestorlaw34_lives.f kj5).bind fun t454 => (some t454)) = some r := by rw [if_pos rfl] at H; exact H
        clear H
        have H := H1
        clear H1
        replace H := Option.bind_eq_some_iff.mp H
        obtain ⟨t454, A140, H⟩ := H
        replace H : (some t454) = some r := H
        have A14 := Aside0.mk A140
        clear A140
        obtain rfl := Option.some.inj H
        go_wp2_with (first | ((with_reducible refine gate_callee (f := 15) rfl ?_); refine goesL_ (some 25) rfl rfl Try.func15 (by kernel_rfl) rfl #[] rfl (by (try simp only [List.map_toArray, List.map_cons, List.map_nil]); first | done | rfl | (simp only [List.length_drop, List.length_take]; rfl) | (go_simp; done) | (go_simp; rw [Int.tmod_eq_emod_of_nonneg (by omega)]; omega)) ?_; (with_reducible refine (attestorlaw34_lives.calls kj5  t454 _ A14.out).mono ?_); rintro e w15 ⟨rfl, hb⟩; refine ⟨_, rfl, ?_⟩; have n0_ := Aside0.mk (Kd.S_below (by (with_reducible repeat (first | apply Kd.S_alloc | apply Kd.S_drewN | apply Kd.S_drew)); exact HO_0.out) hb); have n1_ := Aside0.mk (Kd.R_below (by (with_reducible repeat (first | apply Kd.R_alloc | apply Kd.R_drewN | apply Kd.R_drew)); exact HO_7.out) hb); have n2_ := Aside0.mk (below_step (by repeat (first | (with_reducible first | exact HB.out | apply below_alloc | apply pw_below_drewN | apply below_drew1) | exact HB.out)) hb); clear HO_0; clear HO_7; clear HB; have HO_0 := n0_; have HO_7 := n1_; have HB := n2_; clear n0_ n1_ n2_; (try clear hb); (try clear hb2); (try clear hk); (try clear hi)))
        go_ret
        exact ⟨by first | rfl | (simp [errW_none, errW_some] <;> rfl) | (simp [*, errW_none, errW_some] <;> rfl), by repeat (first | (with_reducible first | exact HB.out | apply below_alloc | apply pw_below_drewN | apply below_drew1) | exact HB.out)⟩
      · replace c13 := Bool.eq_false_iff.mpr c13
        subst c13
        have H1 : (if (t451.length : Int) = 0 then (none) else (if 0 ≤ (Int.tmod (wrap64 (a1)) (t451.length : Int)) then (if (Int.tmod (wrap64 (a1)) (t451.length : Int)) < (t451.length : Int) then (attestorlaw34_FramesChanged.l0 kj5 t448 (t451.set ((Int.tmod (wrap64 (a1)) (t451.length : Int)) : Int).toNat (Go.bits .xor .u8 (rd t451 (Int.tmod (wrap64 (a1)) (t451.length : Int))) a2)) (Int.tmod (wrap64 (a1)) (t451.length : Int)) 0 0) else (none)) else (none))) = some r := by rw [if_neg (show ¬ (false = true) by decide)] at H; exact H
        clear H
        have H := H1
        clear H1
        by_cases c16 : (t451.length : Int) = 0
        · rw [if_pos c16] at H
          exact absurd H (by simp)
        · rw [if_neg c16] at H
          have c16b0 : ((t451.length : Int) == 0) = false := beq_eq_false_iff_ne.mpr c16
          have c16b1 : ((t451.length : Int) != 0) = true := bne_iff_ne.mpr c16
          have c16b2 : ¬ (t451 = []) := fun h_ => c16 (by rw [h_]; rfl)
          obtain ⟨ji17, hji17⟩ : ∃ j_ : Int, (Int.tmod (wrap64 (a1)) (t451.length : Int)) = j_ := ⟨_, rfl⟩
          replace H : (if 0 ≤ (ji17) then (if (ji17) < (t451.length : Int) then (attestorlaw34_FramesChanged.l0 kj5 t448 (t451.set ((ji17) : Int).toNat (Go.bits .xor .u8 (rd t451 (ji17)) a2)) ji17 0 0) else (none)) else (none)) = some r := by first | (rw [hji17] at H; exact H) | (simp only [hji17] at H ⊢; exact H)
          by_cases c18 : 0 ≤ (ji17)
          · rw [if_pos c18] at H
            have c18b0 : decide (0 ≤ (ji17)) = true := decide_eq_true c18
            clear c18
            by_cases c19 : (ji17) < (t451.length : Int)
            · rw [if_pos c19] at H
              have c19b0 : decide ((ji17) < (t451.length : Int)) = true := decide_eq_true c19
              clear c19
              obtain ⟨y456, hy456⟩ : ∃ y_ : List Int, y_ = (t451.set ((ji17) : Int).toNat (Go.bits .xor .u8 (rd t451 (ji17)) a2)) := ⟨_, rfl⟩
              replace H : (attestorlaw34_FramesChanged.l0 kj5 t448 y456 ji17 0 0) = some r := by first | (rw [hy456]; with_reducible exact H) | (have H2_ := (Option.bind_some _ _).symm.trans H; rw [hy456]; with_reducible exact H2_) | (have H2_ := (Option.bind_some _ _).symm.trans H; with_reducible exact H2_) | with_reducible exact H | (rw [hy456]; exact H) | exact H
              have Ny456 := Aside0.mk hy456
              clear hy456
              have HC21 := Aside0.mk H
              clear H
              obtain ⟨Ao22, co22, eo22⟩ := Kd.R_slice HO_7.out
              subst eo22
              have p455 : 0 ≤ ((ji17) : Int) := of_decide_eq_true (by first | (with_reducible assumption) | assumption)
              have q455 : (ji17) < (t451.length : Int) := of_decide_eq_true (by first | (with_reducible assumption) | assumption)
              obtain ⟨ad455, e455, hx455_0⟩ := Kd.at_int (Kd.R_reads' HO_7.out).2.2 (ji17) p455 q455
              cases e455
              replace p455 := eq_true p455
              replace q455 := eq_true q455
              have p20 : 0 ≤ ((ji17) : Int) := of_decide_eq_true (by first | (with_reducible assumption) | assumption)
              have q20 : ((ji17) : Int) < ((t451.length : Int) : Int) := of_decide_eq_true (by first | (with_reducible assumption) | assumption)
              obtain ⟨go20, co20, eo20, gb20, gl20, cl20, HG20⟩ := Kd.R_form HO_7.out (by omega)
              (first | cases eo20 | (injection eo20 with ea_ en_ ec_; (first | subst ea_ | (injection ea_ with ea_; subst ea_)); subst ec_; clear en_))
              have GB20 := Aside0.mk gb20
              have GG20 := Aside0.mk HG20
              clear gb20 gl20 HG20
              (first | simp only [add_plain] at hx455_0 | skip)
              obtain ⟨hx20_0, hf20_0⟩ := Kd.R_celln 0 HO_7.out ((ji17) : Int) p20 q20
              replace p20 := eq_true p20
              replace q20 := eq_true q20
              have HP23 := Kd.R_putg HO_7.out ((ji17) : Int) (Go.bits .xor .u8 (rd t451 (ji17)) a2)
              go_upto_block 0 with (first | ((with_reducible refine gate_store (t := 5) (p := 39) rfl ?_); refine store_event (t := 5) (p := 39) (v := ?vo_w24) (w1 := (wc.setCell ⟨go20, ((ji17) : Int).toNat, none⟩ (.int .u8 (Go.bits .xor .u8 (rd t451 (ji17)) a2)))) ?hg ?ho ?hn ?hr ?_; (case ho => rfl); (case hg => rfl); (case hn => rfl); (case hr => first | (go_simp; done) | (go_simp; rfl)); intro w24 hw; have hg : wc.grownBy w24 (some go20) := (by rw [hw]; exact HP23.2); have hp_ : Kd.R (Kd.int .u8) 5 w24 w.heap.size (fun _ => True) (.slice (some ⟨go20, 0, none⟩) t451.length co22) y456 := (by rw [hw, Ny456.out]; exact HP23.1); clear HP23; have n0_ := Aside0.mk (Kd.S_after (v := (.slice (some ⟨go20, 0, none⟩) t451.length co22)) (v1 := (.slice (some ⟨go20, 0, none⟩) t451.length co22)) (ok := (fun _ => True)) (by (with_reducible repeat (first | apply Kd.S_alloc | apply Kd.S_drewN | apply Kd.S_drew)); exact Kd.S_mono HO_0.out (fun _ hk => ⟨trivial, hk⟩)) hg (.inl rfl)); have n1_ := Aside0.mk (hp_); have n2_ := Aside0.mk ((by rw [hw]; exact below_set (HB.out) GB20.out : Below w.heap.size w w24)); clear HO_0; clear HO_7; clear HB; have HO_0 := n0_; have HO_7 := n1_; have HB := n2_; clear n0_ n1_ n2_; clear hg hw hp_))
              (try simp only [Act.put, List.setIfInBounds_toArray, List.set_cons_zero, List.set_cons_succ])
              go_cut [9, 10] (fun v9 v10 wc => ∃ (kq : Nat) (x9_20 : Int) (x10_20 : Int), v9 = .int .i64 x9_20 ∧ v10 = .int .i64 x10_20 ∧ Aside0 (attestorlaw34_FramesChanged.j2 kq t448 y456 ji17 x9_20 x10_20 = some r) ∧ Aside0 (kq ≤ kj5) ∧ Aside0 (Kd.S k25 25 wc w.heap.size (fun k_ => some k_ ≠ ((.slice (some ⟨go20, 0, none⟩) t451.length co22) : Value).ownBlock) (.slice Ao8 t448.length co8) t448) ∧ Aside0 (Kd.R (Kd.int .u8) 5 wc w.heap.size (fun _ => True) (.slice (some ⟨go20, 0, none⟩) t451.length co22) y456) ∧ Aside0 (Below w.heap.size w wc))
              case first =>
                have H := HC21.out
                clear HC21
                have H' := Aside0.mk H
                clear H
                go_wp2
                go_loopg [9, 10] kj5 (fun kq v9 v10 w' => ∃ (x9_2 : Int) (x10_2 : Int), v9 = .int .i64 x9_2 ∧ v10 = .int .i64 x10_2 ∧ Aside0 (attestorlaw34_FramesChanged.l0 kq t448 y456 ji17 x9_2 x10_2 = some r) ∧ Aside0 (kq ≤ kj5) ∧ Aside0 (Kd.S k25 25 w' w.heap.size (fun k_ => some k_ ≠ ((.slice (some ⟨go20, 0, none⟩) t451.length co22) : Value).ownBlock) (.slice Ao8 t448.length co8) t448) ∧ Aside0 (Kd.R (Kd.int .u8) 5 w' w.heap.size (fun _ => True) (.slice (some ⟨go20, 0, none⟩) t451.length co22) y456) ∧ Aside0 (Below w.heap.size w w'))
                case atStart => exact ⟨(0), (0), (by first | rfl | (simp; done) | (simp [*]; done)), (by first | rfl | (simp; done) | (simp [*]; done)), H', ⟨Nat.le_refl _⟩, ⟨by (with_reducible repeat (first | apply Kd.S_alloc | apply Kd.S_drewN | apply Kd.S_drew)); exact Kd.S_mono HO_0.out (fun _ hk => hk.2)⟩, ⟨by (with_reducible repeat (first | apply Kd.R_alloc | apply Kd.R_drewN | apply Kd.R_drew)); exact HO_7.out⟩, ⟨by repeat (first | (with_reducible first | exact HB.out | apply below_alloc | apply pw_below_drewN | apply below_drew1) | exact HB.out)⟩⟩
                case round =>
                  clear H'
                  try clear c1
                  try clear c2
                  try clear p2
                  try clear q2
                  try clear hx2
                  try clear p4
                  try clear q4
                  try clear hx4
                  try clear c6
                  try clear p6
                  try clear c10
                  try clear c10b0
                  try clear c10b1
                  try clear c10b2
                  try clear c13
                  try clear c15
                  try clear c16
                  try clear c16b0
                  try clear c16b1
                  try clear c16b2
                  try clear c18
                  try clear c18b0
                  try clear c19
                  try clear c19b0
                  try clear p20
                  try clear q20
                  try clear hx20
                  try clear hf20
                  try clear c21
                  try clear c22
                  try clear hx20_0
                  try clear hx455_0
                  try clear p2
                  try clear p20
                  try clear p455
                  try clear q20
                  try clear q455
                  obtain ⟨x9_2, x10_2, rfl, rfl, HA, HK2, HO_0, HO_7, HB⟩ := hrel
                  have hl7_2 := (Kd.R_reads' HO_7.out).1
                  rw [hl7_2] at HO_7
                  (try simp only [hl7_2])
                  (try simp only [hl7_2] at HO_0)
                  cases gk with
                  | zero => exact absurd HA.out (by simp [attestorlaw34_FramesChanged.l0])
                  | succ k2 =>
                    have H := HA.out
                    clear HA
                    simp only [attestorlaw34_FramesChanged.l0] at H
                    by_cases c25 : x9_2 < (t448.length : Int)
                    · rw [if_pos c25] at H
                      have c25b0 : decide (x9_2 < (t448.length : Int)) = true := decide_eq_true c25
                      (try simp only [hl7_2] at c25b0)
                      clear c25
                      (first | rw [c25b0] | (simp only [i64_w, i32_w]; rw [c25b0]) | skip)
                      by_cases c26 : 0 ≤ x9_2
                      · rw [if_pos c26] at H
                        have c26b0 : decide (0 ≤ x9_2) = true := decide_eq_true c26
                        (try simp only [hl7_2] at c26b0)
                        clear c26
                        by_cases c27 : ji17 ≥ (wrap64 ((wrap64 (x10_2 + (((rd_T25 t448 x9_2).f2).length : Int))) + 14))
                        · rw [if_pos c27] at H
                          have c27b0 : decide ((wrap64 ((wrap64 (x10_2 + (((rd_T25 t448 x9_2).f2).length : Int))) + 14)) ≤ ji17) = true := decide_eq_true c27
                          (try simp only [hl7_2] at c27b0)
                          clear c27
                          have H' := Aside0.mk H
                          clear H
                          have p457 : 0 ≤ (x9_2 : Int) := of_decide_eq_true (by first | (with_reducible assumption) | assumption)
                          have q457 : x9_2 < (t448.length : Int) := of_decide_eq_true (by first | (with_reducible assumption) | assumption)
                          obtain ⟨ad457, A457_2, c457_2, e457, hx457_0, hx457_1, hx457_2, hl457_2, hi457_2⟩ := at_T25 (Kd.S_reads' HO_0.out).2.2 x9_2 p457 q457
                          cases e457
                          obtain ⟨ce457, hce457, hMe457, hcc457⟩ := Kd.S_get HO_0.out z25 x9_2 p457 (by first | exact q457 | exact of_decide_eq_true (by first | (with_reducible assumption) | assumption) | (have e_ := (Kd.S_reads' HO_0.out).1; omega))
                          obtain ⟨ve457_2, rfl, ge457_2⟩ := k25_openM hMe457
                          have hv457_2 := hcc457 2 _ rfl
                          rw [add_field _ _ 2 (by omega)] at hv457_2
                          replace hv457_2 := Option.some.inj (hv457_2.symm.trans hx457_2)
                          rw [hv457_2] at ge457_2
                          have HL457_2 := Aside0.mk (show Kd.R (Kd.int .u8) 5 _ _ _ _ ((rd_T25 t448 x9_2).f2) from ge457_2)
                          clear hv457_2 ge457_2
                          clear hcc457 hce457
                          have HR457_2 := Aside0.mk hi457_2
                          have HC457_2 := Aside0.mk hl457_2
                          clear hi457_2 hl457_2
                          replace p457 := eq_true p457
                          replace q457 := eq_true q457
                          have p458 : 0 ≤ (x9_2 : Int) := of_decide_eq_true (by first | (with_reducible assumption) | assumption)
                          have q458 : x9_2 < (t448.length : Int) := of_decide_eq_true (by first | (with_reducible assumption) | assumption)
                          obtain ⟨ad458, A458_2, c458_2, e458, hx458_0, hx458_1, hx458_2, hl458_2, hi458_2⟩ := at_T25 (Kd.S_reads' HO_0.out).2.2 x9_2 p458 q458
                          obtain rfl : ad457 = ad458 := (by injection e458)
                          obtain ⟨ce458, hce458, hMe458, hcc458⟩ := Kd.S_get HO_0.out z25 x9_2 p458 (by first | exact q458 | exact of_decide_eq_true (by first | (with_reducible assumption) | assumption) | (have e_ := (Kd.S_reads' HO_0.out).1; omega))
                          obtain ⟨ve458_2, rfl, ge458_2⟩ := k25_openM hMe458
                          have hv458_2 := hcc458 2 _ rfl
                          rw [add_field _ _ 2 (by omega)] at hv458_2
                          replace hv458_2 := Option.some.inj (hv458_2.symm.trans hx458_2)
                          rw [hv458_2] at ge458_2
                          have HL458_2 := Aside0.mk (show Kd.R (Kd.int .u8) 5 _ _ _ _ ((rd_T25 t448 x9_2).f2) from ge458_2)
                          clear hv458_2 ge458_2
                          clear hcc458 hce458
                          have HR458_2 := Aside0.mk hi458_2
                          have HC458_2 := Aside0.mk hl458_2
                          clear hi458_2 hl458_2
                          replace p458 := eq_true p458
                          replace q458 := eq_true q458
                          have ea_ := Option.some.inj (hx457_2.symm.trans hx458_2)
                          injection ea_ with ea_ en_ ec_
                          subst ea_
                          subst ec_
                          clear en_
                          go_wp2
                          (try simp only [← hl7_2])
                          go_roundg k2
                          case measure => have := HJ5.out; have := HK2.out; omega
                          case rel => exact ⟨(wrap64 (x9_2 + 1)), (wrap64 ((wrap64 (x10_2 + (((rd_T25 t448 x9_2).f2).length : Int))) + 14)), (by first | rfl | (simp; done) | (simp [*]; done)), (by first | rfl | (simp; done) | (simp [*]; done)), H', ⟨by have := HJ5.out; have := HK2.out; omega⟩, ⟨by (try simp only [hl7_2]); (with_reducible repeat (first | apply Kd.S_alloc | apply Kd.S_drewN | apply Kd.S_drew)); exact HO_0.out⟩, ⟨by (try simp only [hl7_2]); (with_reducible repeat (first | apply Kd.R_alloc | apply Kd.R_drewN | apply Kd.R_drew)); exact HO_7.out⟩, ⟨by repeat (first | (with_reducible first | exact HB.out | apply below_alloc | apply pw_below_drewN | apply below_drew1) | exact HB.out)⟩⟩
                        · rw [if_neg c27] at H
                          have c27b0 : decide ((wrap64 ((wrap64 (x10_2 + (((rd_T25 t448 x9_2).f2).length : Int))) + 14)) ≤ ji17) = false := decide_eq_false c27
                          (try simp only [hl7_2] at c27b0)
                          clear c27
                          have H' := Aside0.mk H
                          clear H
                          have p457 : 0 ≤ (x9_2 : Int) := of_decide_eq_true (by first | (with_reducible assumption) | assumption)
                          have q457 : x9_2 < (t448.length : Int) := of_decide_eq_true (by first | (with_reducible assumption) | assumption)
                          obtain ⟨ad457, A457_2, c457_2, e457, hx457_0, hx457_1, hx457_2, hl457_2, hi457_2⟩ := at_T25 (Kd.S_reads' HO_0.out).2.2 x9_2 p457 q457
                          cases e457
                          obtain ⟨ce457, hce457, hMe457, hcc457⟩ := Kd.S_get HO_0.out z25 x9_2 p457 (by first | exact q457 | exact of_decide_eq_true (by first | (with_reducible assumption) | assumption) | (have e_ := (Kd.S_reads' HO_0.out).1; omega))
                          obtain ⟨ve457_2, rfl, ge457_2⟩ := k25_openM hMe457
                          have hv457_2 := hcc457 2 _ rfl
                          rw [add_field _ _ 2 (by omega)] at hv457_2
                          replace hv457_2 := Option.some.inj (hv457_2.symm.trans hx457_2)
                          rw [hv457_2] at ge457_2
                          have HL457_2 := Aside0.mk (show Kd.R (Kd.int .u8) 5 _ _ _ _ ((rd_T25 t448 x9_2).f2) from ge457_2)
                          clear hv457_2 ge457_2
                          clear hcc457 hce457
                          have HR457_2 := Aside0.mk hi457_2
                          have HC457_2 := Aside0.mk hl457_2
                          clear hi457_2 hl457_2
                          replace p457 := eq_true p457
                          replace q457 := eq_true q457
                          go_wp2
                          (try simp only [← hl7_2])
                          go_meet
                          case rel => exact ⟨_, (x9_2), (x10_2), (by first | rfl | (simp; done) | (simp [*]; done)), (by first | rfl | (simp; done) | (simp [*]; done)), H', ⟨by have := HJ5.out; have := HK2.out; first | omega | exact Nat.le_refl _⟩, ⟨by (try simp only [hl7_2]); (with_reducible repeat (first | apply Kd.S_alloc | apply Kd.S_drewN | apply Kd.S_drew)); exact HO_0.out⟩, ⟨by (try simp only [hl7_2]); (with_reducible repeat (first | apply Kd.R_alloc | apply Kd.R_drewN | apply Kd.R_drew)); exact HO_7.out⟩, ⟨by repeat (first | (with_reducible first | exact HB.out | apply below_alloc | apply pw_below_drewN | apply below_drew1) | exact HB.out)⟩⟩
                      · rw [if_neg c26] at H
                        exact absurd H (by simp)
                    · rw [if_neg c25] at H
                      have c25b0 : decide (x9_2 < (t448.length : Int)) = false := decide_eq_false c25
                      (try simp only [hl7_2] at c25b0)
                      clear c25
                      (first | rw [c25b0] | (simp only [i64_w, i32_w]; rw [c25b0]) | skip)
                      have H' := Aside0.mk H
                      clear H
                      go_wp2
                      (try simp only [← hl7_2])
                      go_meet
                      case rel => exact ⟨_, (x9_2), (x10_2), (by first | rfl | (simp; done) | (simp [*]; done)), (by first | rfl | (simp; done) | (simp [*]; done)), H', ⟨by have := HJ5.out; have := HK2.out; first | omega | exact Nat.le_refl _⟩, ⟨by (try simp only [hl7_2]); (with_reducible repeat (first | apply Kd.S_alloc | apply Kd.S_drewN | apply Kd.S_drew)); exact HO_0.out⟩, ⟨by (try simp only [hl7_2]); (with_reducible repeat (first | apply Kd.R_alloc | apply Kd.R_drewN | apply Kd.R_drew)); exact HO_7.out⟩, ⟨by repeat (first | (with_reducible first | exact HB.out | apply below_alloc | apply pw_below_drewN | apply below_drew1) | exact HB.out)⟩⟩
              case rest =>
                clear HC21
                try clear c1
                try clear c2
                try clear p2
                try clear q2
                try clear hx2
                try clear c4
                try clear p4
                try clear q4
                try clear hx4
                try clear c6
                try clear p6
                try clear c10
                try clear c10b0
                try clear c10b1
                try clear c10b2
                try clear c13
                try clear c15
                try clear c16
                try clear c16b0
                try clear c16b1
                try clear c16b2
                try clear c18
                try clear c18b0
                try clear c19
                try clear c19b0
                try clear p20
                try clear q20
                try clear hx20
                try clear hf20
                try clear c21
                try clear c22
                try clear c25
                try clear c25b0
                try clear c26
                try clear c26b0
                try clear c27
                try clear c27b0
                try clear hx20_0
                try clear hx455_0
                try clear hx457_0
                try clear hx457_1
                try clear hx457_2
                try clear hx458_0
                try clear hx458_1
                try clear hx458_2
                try clear p2
                try clear p20
                try clear p4
                try clear p455
                try clear p457
                try clear p458
                try clear p6
                try clear q2
                try clear q20
                try clear q4
                try clear q455
                try clear q457
                try clear q458
                obtain ⟨kq, x9_20, x10_20, rfl, rfl, HA, HJ20, HO_0, HO_7, HB⟩ := hcut
                have hl7_20 := (Kd.R_reads' HO_7.out).1
                rw [hl7_20] at HO_7
                (try simp only [hl7_20])
                (try simp only [hl7_20] at HO_0)
                cases kq with
                | zero => exact absurd HA.out (by simp [attestorlaw34_FramesChanged.j2])
                | succ kj20 =>
                  have H := HA.out
                  clear HA
                  simp only [attestorlaw34_FramesChanged.j2] at H
                  replace H := Option.bind_eq_some_iff.mp H
                  obtain ⟨⟨t459, t460, t461⟩, A280, H⟩ := H
                  replace H : (if x9_20 ≥ (t448.length : Int) then (none) else (if 0 ≤ x9_20 then (if x9_20 ≤ (t448.length : Int) then ((attestorref34_Same.f kj20 t459 (t448.take (x9_20 : Int).toNat)).bind fun t468 => (if t468 = true then (if x9_20 < (t448.length : Int) then (if t460 ≥ (wrap64 ((wrap64 (x10_20 + (((rd_T25 t448 x9_20).f2).length : Int))) + 14)) then (none) else (if t461 = 4 then (if t460 ≥ ji17 then ((attestorlaw34_lives.f kj20).bind fun t470 => (some t470)) else (if t461 = 3 then (if t460 = (wrap64 (x10_20 + 6)) then (if ji17 ≥ (wrap64 (x10_20 + 6)) then (if ji17 < (wrap64 (x10_20 + 9)) then ((attestorlaw34_lives.f kj20).bind fun t471 => (some t471)) else (none)) else (none)) else (none)) else (none))) else (if t461 = 3 then (if t460 = (wrap64 (x10_20 + 6)) then (if ji17 ≥ (wrap64 (x10_20 + 6)) then (if ji17 < (wrap64 (x10_20 + 9)) then ((attestorlaw34_lives.f kj20).bind fun t472 => (some t472)) else (none)) else (none)) else (none)) else (none)))) else (none)) else (none))) else (none)) else (none))) = some r := H
                  have A28 := Aside0.mk A280
                  clear A280
                  by_cases c29 : x9_20 ≥ (t448.length : Int)
                  · rw [if_pos c29] at H
                    exact absurd H (by simp)
                  · rw [if_neg c29] at H
                    have c29b0 : decide ((t448.length : Int) ≤ x9_20) = false := decide_eq_false c29
                    (try simp only [hl7_20] at c29b0)
                    clear c29
                    by_cases c30 : 0 ≤ x9_20
                    · rw [if_pos c30] at H
                      have c30b0 := eq_true c30
                      have c30b1 : decide (0 ≤ x9_20) = true := decide_eq_true c30
                      clear c30
                      by_cases c31 : x9_20 ≤ (t448.length : Int)
                      · rw [if_pos c31] at H
                        have c31b0 := eq_true c31
                        have c31b1 : decide (x9_20 ≤ (t448.length : Int)) = true := decide_eq_true c31
                        clear c31
                        obtain ⟨y464, hy464⟩ : ∃ y_ : List (S25), y_ = (t448.take (x9_20 : Int).toNat) := ⟨_, rfl⟩
                        replace H : ((attestorref34_Same.f kj20 t459 y464).bind fun t468 => (if t468 = true then (if x9_20 < (t448.length : Int) then (if t460 ≥ (wrap64 ((wrap64 (x10_20 + (((rd_T25 t448 x9_20).f2).length : Int))) + 14)) then (none) else (if t461 = 4 then (if t460 ≥ ji17 then ((attestorlaw34_lives.f kj20).bind fun t470 => (some t470)) else (if t461 = 3 then (if t460 = (wrap64 (x10_20 + 6)) then (if ji17 ≥ (wrap64 (x10_20 + 6)) then (if ji17 < (wrap64 (x10_20 + 9)) then ((attestorlaw34_lives.f kj20).bind fun t471 => (some t471)) else (none)) else (none)) else (none)) else (none))) else (if t461 = 3 then (if t460 = (wrap64 (x10_20 + 6)) then (if ji17 ≥ (wrap64 (x10_20 + 6)) then (if ji17 < (wrap64 (x10_20 + 9)) then ((attestorlaw34_lives.f kj20).bind fun t472 => (some t472)) else (none)) else (none)) else (none)) else (none)))) else (none)) else (none))) = some r := by first | (rw [hy464]; with_reducible exact H) | (have H2_ := (Option.bind_some _ _).symm.trans H; rw [hy464]; with_reducible exact H2_) | (have H2_ := (Option.bind_some _ _).symm.trans H; with_reducible exact H2_) | with_reducible exact H | (rw [hy464]; exact H) | exact H
                        have Ny464 := Aside0.mk hy464
                        clear hy464
                        replace H := Option.bind_eq_some_iff.mp H
                        obtain ⟨t468, A320, H⟩ := H
                        replace H : (if t468 = true then (if x9_20 < (t448.length : Int) then (if t460 ≥ (wrap64 ((wrap64 (x10_20 + (((rd_T25 t448 x9_20).f2).length : Int))) + 14)) then (none) else (if t461 = 4 then (if t460 ≥ ji17 then ((attestorlaw34_lives.f kj20).bind fun t470 => (some t470)) else (if t461 = 3 then (if t460 = (wrap64 (x10_20 + 6)) then (if ji17 ≥ (wrap64 (x10_20 + 6)) then (if ji17 < (wrap64 (x10_20 + 9)) then ((attestorlaw34_lives.f kj20).bind fun t471 => (some t471)) else (none)) else (none)) else (none)) else (none))) else (if t461 = 3 then (if t460 = (wrap64 (x10_20 + 6)) then (if ji17 ≥ (wrap64 (x10_20 + 6)) then (if ji17 < (wrap64 (x10_20 + 9)) then ((attestorlaw34_lives.f kj20).bind fun t472 => (some t472)) else (none)) else (none)) else (none)) else (none)))) else (none)) else (none)) = some r := H
                        have A32 := Aside0.mk A320
                        clear A320
                        by_cases c33 : t468 = true
                        · subst c33
                          have H1 : (if x9_20 < (t448.length : Int) then (if t460 ≥ (wrap64 ((wrap64 (x10_20 + (((rd_T25 t448 x9_20).f2).length : Int))) + 14)) then (none) else (if t461 = 4 then (if t460 ≥ ji17 then ((attestorlaw34_lives.f kj20).bind fun t470 => (some t470)) else (if t461 = 3 then (if t460 = (wrap64 (x10_20 + 6)) then (if ji17 ≥ (wrap64 (x10_20 + 6)) then (if ji17 < (wrap64 (x10_20 + 9)) then ((attestorlaw34_lives.f kj20).bind fun t471 => (some t471)) else (none)) else (none)) else (none)) else (none))) else (if t461 = 3 then (if t460 = (wrap64 (x10_20 + 6)) then (if ji17 ≥ (wrap64 (x10_20 + 6)) then (if ji17 < (wrap64 (x10_20 + 9)) then ((attestorlaw34_lives.f kj20).bind fun t472 => (some t472)) else (none)) else (none)) else (none)) else (none)))) else (none)) = some r := by rw [if_pos rfl] at H; exact H
                          clear H
                          have H := H1
                          clear H1
                          by_cases c34 : x9_20 < (t448.length : Int)
                          · rw [if_pos c34] at H
                            have c34b0 : decide (x9_20 < (t448.length : Int)) = true := decide_eq_true c34
                            (try simp only [hl7_20] at c34b0)
                            clear c34
                            by_cases c35 : t460 ≥ (wrap64 ((wrap64 (x10_20 + (((rd_T25 t448 x9_20).f2).length : Int))) + 14))
                            · rw [if_pos c35] at H
                              exact absurd H (by simp)
                            · rw [if_neg c35] at H
                              have c35b0 : decide ((wrap64 ((wrap64 (x10_20 + (((rd_T25 t448 x9_20).f2).length : Int))) + 14)) ≤ t460) = false := decide_eq_false c35
                              (try simp only [hl7_20] at c35b0)
                              clear c35
                              by_cases c36 : t461 = 4
                              · rw [if_pos c36] at H
                                have c36b0 : (t461 == 4) = true := beq_iff_eq.mpr c36
                                (try simp only [hl7_20] at c36b0)
                                have c36b1 : (t461 != 4) = false := bne_eq_false_iff_eq.mpr c36
                                (try simp only [hl7_20] at c36b1)
                                clear c36
                                by_cases c37 : t460 ≥ ji17
                                · rw [if_pos c37] at H
                                  have c37b0 : decide (ji17 ≤ t460) = true := decide_eq_true c37
                                  (try simp only [hl7_20] at c37b0)
                                  clear c37
                                  replace H := Option.bind_eq_some_iff.mp H
                                  obtain ⟨t470, A380, H⟩ := H
                                  replace H : (some t470) = some r := H
                                  have A38 := Aside0.mk A380
                                  clear A380
                                  obtain rfl := Option.some.inj H
                                  go_wp2_with (first | ((with_reducible refine gate_callee (f := 19) rfl ?_); refine goesL_ (some 70) rfl rfl Try.func19 (by kernel_rfl) rfl #[.slice (some ⟨go20, 0, none⟩) y456.length co22] rfl (by (try simp only [List.map_toArray, List.map_cons, List.map_nil]); first | done | rfl | (simp only [List.length_drop, List.length_take]; rfl) | (go_simp; done) | (go_simp; rw [Int.tmod_eq_emod_of_nonneg (by omega)]; omega)) ?_; (with_reducible refine (frames_Split.calls kj20 _ _ y456 t459 t460 t461 _ ?side1 ?side2 A28.out).mono ?_); (case side1 => repeat (first | exact (Kd.R_reads' HO_7.out).2.2 | (with_reducible refine Kd.C_alloc ?_ _) | (with_reducible refine Kd.C_drewN ?_ _) | (with_reducible refine Kd.C_drew ?_))); (case side2 => exact (Kd.R_reads' HO_7.out).2.1); rintro e w39 ⟨v462, rfl, ho0, hb⟩; refine ⟨_, rfl, ?_⟩; have n0_ := Aside0.mk (Kd.S_elder' (by (with_reducible repeat (first | apply Kd.S_alloc | apply Kd.S_drewN | apply Kd.S_drew)); exact HO_0.out) (Kd.S_base ho0) hb); have n1_ := Aside0.mk (Kd.R_below (by (with_reducible repeat (first | apply Kd.R_alloc | apply Kd.R_drewN | apply Kd.R_drew)); exact HO_7.out) hb); have n2_ := Aside0.mk (Kd.S_lower (Kd.S_new' (Kd.S_new' ho0 (Kd.S_lt (by (with_reducible repeat (first | apply Kd.S_alloc | apply Kd.S_drewN | apply Kd.S_drew)); exact HO_0.out))) (Kd.R_lt (by (with_reducible repeat (first | apply Kd.R_alloc | apply Kd.R_drewN | apply Kd.R_drew)); exact HO_7.out))) (below_size (by repeat (first | (with_reducible first | exact HB.out | apply below_alloc | apply pw_below_drewN | apply below_drew1) | exact HB.out)))); have n3_ := Aside0.mk (below_step (by repeat (first | (with_reducible first | exact HB.out | apply below_alloc | apply pw_below_drewN | apply below_drew1) | exact HB.out)) hb); clear HO_0; clear HO_7; clear HB; have HO_0 := n0_; have HO_7 := n1_; have HO463 := n2_; have HB := n3_; clear n0_ n1_ n2_ n3_; (try clear hb); (try clear hb2); (try clear hk); (try clear hi); (try clear ho0); have q40 : (x9_20 : Int) ≤ ((t448.length : Int) : Int) := of_decide_eq_true (by first | (with_reducible assumption) | assumption); obtain ⟨i040, hi040, _, hsz40, _⟩ := info_parts info25; have hroom40 : t448.length ≤ co8 := (Kd.S_reads' HO_0.out).2.1; have hC40 : Kd.C k25 _ Ao8 t448.length t448 := (Kd.S_reads' HO_0.out).2.2; have hcut40 := cut_to (P := Try.prog) 36 25 .i64 Try.underlying36 hi040 Ao8 t448.length co8 x9_20 (of_decide_eq_true (by first | (with_reducible assumption) | assumption)) q40 hroom40; have hr40 := Kd.C_take (m := (x9_20 : Int).toNat) hC40 (by omega); have hy40 : y464.length = (x9_20 : Int).toNat := (by rw [Ny464.out, List.length_take]; omega); rw [← Ny464.out] at hr40; rw [← hy40] at hcut40; have HR467 := Aside0.mk hr40; have HC467 := Aside0.mk (show y464.length ≤ co8 from by omega); clear hr40 hC40 hroom40 hi040 hsz40; have KY40 := Aside0.mk hy40; clear hy40; have KL40 := Aside0.mk (show (x9_20 : Int).toNat ≤ t448.length from by omega); replace q40 := eq_true q40; obtain ⟨Ao41, co41, eo41⟩ := Kd.S_slice HO463.out; subst eo41) | (go_at_call 17; (with_reducible refine (attestorref34_Same.calls kj20 _ _ t459 _ _ y464 true _ ?side1 ?side2 ?side3 ?side4 A32.out).mono ?_); (case side1 => repeat (first | exact (Kd.S_reads' HO463.out).2.2 | (with_reducible refine Kd.C_alloc ?_ _) | (with_reducible refine Kd.C_drewN ?_ _) | (with_reducible refine Kd.C_drew ?_))); (case side2 => exact (Kd.S_reads' HO463.out).2.1); (case side3 => repeat (first | exact (by repeat (first | (with_reducible exact HR467.out) | (with_reducible refine Kd.C_alloc ?_ _) | (with_reducible refine Kd.C_drewN ?_ _) | (with_reducible refine Kd.C_drew ?_) | exact HR467.out)) | (with_reducible refine Kd.C_alloc ?_ _) | (with_reducible refine Kd.C_drewN ?_ _) | (with_reducible refine Kd.C_drew ?_))); (case side4 => exact HC467.out); rintro e w' ⟨rfl, ⟨nd, rfl⟩⟩; have p469 : 0 ≤ (x9_20 : Int) := of_decide_eq_true (by first | (with_reducible assumption) | assumption); have q469 : x9_20 < (t448.length : Int) := of_decide_eq_true (by first | (with_reducible assumption) | assumption); obtain ⟨ad469, A469_2, c469_2, e469, hx469_0, hx469_1, hx469_2, hl469_2, hi469_2⟩ := at_T25 (Kd.S_reads' HO_0.out).2.2 x9_20 p469 q469; cases e469; obtain ⟨ce469, hce469, hMe469, hcc469⟩ := Kd.S_get HO_0.out z25 x9_20 p469 (by first | exact q469 | exact of_decide_eq_true (by first | (with_reducible assumption) | assumption) | (have e_ := (Kd.S_reads' HO_0.out).1; omega)); obtain ⟨ve469_2, rfl, ge469_2⟩ := k25_openM hMe469; have hv469_2 := hcc469 2 _ rfl; rw [add_field _ _ 2 (by omega)] at hv469_2; replace hv469_2 := Option.some.inj (hv469_2.symm.trans hx469_2); rw [hv469_2] at ge469_2; have HL469_2 := Aside0.mk (show Kd.R (Kd.int .u8) 5 _ _ _ _ ((rd_T25 t448 x9_20).f2) from ge469_2); clear hv469_2 ge469_2; clear hcc469 hce469; have HR469_2 := Aside0.mk hi469_2; have HC469_2 := Aside0.mk hl469_2; clear hi469_2 hl469_2; replace p469 := eq_true p469; replace q469 := eq_true q469) | (go_at_call 15; (with_reducible refine (attestorlaw34_lives.calls kj20  t470 _ A38.out).mono ?_); rintro e w42 ⟨rfl, hb⟩; have n0_ := Aside0.mk (Kd.S_below (by (with_reducible repeat (first | apply Kd.S_alloc | apply Kd.S_drewN | apply Kd.S_drew)); exact HO_0.out) hb); have n1_ := Aside0.mk (Kd.R_below (by (with_reducible repeat (first | apply Kd.R_alloc | apply Kd.R_drewN | apply Kd.R_drew)); exact HO_7.out) hb); have n2_ := Aside0.mk (Kd.S_below (by (with_reducible repeat (first | apply Kd.S_alloc | apply Kd.S_drewN | apply Kd.S_drew)); exact HO463.out) hb); have n3_ := Aside0.mk (Kd.R_below (by (with_reducible repeat (first | apply Kd.R_alloc | apply Kd.R_drewN | apply Kd.R_drew)); exact HL469_2.out) hb); have n4_ := Aside0.mk (Kd.C_below (by repeat (first | (with_reducible exact HR467.out) | (with_reducible refine Kd.C_alloc ?_ _) | (with_reducible refine Kd.C_drewN ?_ _) | (with_reducible refine Kd.C_drew ?_) | exact HR467.out)) hb); have n5_ := Aside0.mk (Kd.C_below (by repeat (first | (with_reducible exact HR469_2.out) | (with_reducible refine Kd.C_alloc ?_ _) | (with_reducible refine Kd.C_drewN ?_ _) | (with_reducible refine Kd.C_drew ?_) | exact HR469_2.out)) hb); have n6_ := Aside0.mk (below_step (by repeat (first | (with_reducible first | exact HB.out | apply below_alloc | apply pw_below_drewN | apply below_drew1) | exact HB.out)) hb); clear HO_0; clear HO_7; clear HO463; clear HL469_2; clear HR467; clear HR469_2; clear HB; have HO_0 := n0_; have HO_7 := n1_; have HO463 := n2_; have HL469_2 := n3_; have HR467 := n4_; have HR469_2 := n5_; have HB := n6_; clear n0_ n1_ n2_ n3_ n4_ n5_ n6_; (try clear hb); (try clear hb2); (try clear hk); (try clear hi)))
                                  go_ret
                                  exact ⟨by first | rfl | (simp [errW_none, errW_some] <;> rfl) | (simp only [← hji17]; first | rfl | (simp [errW_none, errW_some] <;> rfl)) | (simp [*, errW_none, errW_some] <;> rfl), by repeat (first | (with_reducible first | exact HB.out | apply below_alloc | apply pw_below_drewN | apply below_drew1) | exact HB.out)⟩
                                · rw [if_neg c37] at H
                                  have c37b0 : decide (ji17 ≤ t460) = false := decide_eq_false c37
                                  (try simp only [hl7_20] at c37b0)
                                  clear c37
                                  by_cases c43 : t461 = 3
                                  · rw [if_pos c43] at H
                                    have c43b0 : (t461 == 3) = true := beq_iff_eq.mpr c43
                                    (try simp only [hl7_20] at c43b0)
                                    have c43b1 : (t461 != 3) = false := bne_eq_false_iff_eq.mpr c43
                                    (try simp only [hl7_20] at c43b1)
                                    clear c43
                                    by_cases c44 : t460 = (wrap64 (x10_20 + 6))
                                    · rw [if_pos c44] at H
                                      have c44b0 : (t460 == (wrap64 (x10_20 + 6))) = true := beq_iff_eq.mpr c44
                                      (try simp only [hl7_20] at c44b0)
                                      have c44b1 : (t460 != (wrap64 (x10_20 + 6))) = false := bne_eq_false_iff_eq.mpr c44
                                      (try simp only [hl7_20] at c44b1)
                                      clear c44
                                      by_cases c45 : ji17 ≥ (wrap64 (x10_20 + 6))
                                      · rw [if_pos c45] at H
                                        have c45b0 : decide ((wrap64 (x10_20 + 6)) ≤ ji17) = true := decide_eq_true c45
                                        (try simp only [hl7_20] at c45b0)
                                        clear c45
                                        by_cases c46 : ji17 < (wrap64 (x10_20 + 9))
                                        · rw [if_pos c46] at H
                                          have c46b0 : decide (ji17 < (wrap64 (x10_20 + 9))) = true := decide_eq_true c46
                                          (try simp only [hl7_20] at c46b0)
                                          clear c46
                                          replace H := Option.bind_eq_some_iff.mp H
                                          obtain ⟨t471, A470, H⟩ := H
                                          replace H : (some t471) = some r := H
                                          have A47 := Aside0.mk A470
                                          clear A470
                                          obtain rfl := Option.some.inj H
                                          go_wp2_with (first | ((with_reducible refine gate_callee (f := 19) rfl ?_); refine goesL_ (some 70) rfl rfl Try.func19 (by kernel_rfl) rfl #[.slice (some ⟨go20, 0, none⟩) y456.length co22] rfl (by (try simp only [List.map_toArray, List.map_cons, List.map_nil]); first | done | rfl | (simp only [List.length_drop, List.length_take]; rfl) | (go_simp; done) | (go_simp; rw [Int.tmod_eq_emod_of_nonneg (by omega)]; omega)) ?_; (with_reducible refine (frames_Split.calls kj20 _ _ y456 t459 t460 t461 _ ?side1 ?side2 A28.out).mono ?_); (case side1 => repeat (first | exact (Kd.R_reads' HO_7.out).2.2 | (with_reducible refine Kd.C_alloc ?_ _) | (with_reducible refine Kd.C_drewN ?_ _) | (with_reducible refine Kd.C_drew ?_))); (case side2 => exact (Kd.R_reads' HO_7.out).2.1); rintro e w48 ⟨v462, rfl, ho0, hb⟩; refine ⟨_, rfl, ?_⟩; have n0_ := Aside0.mk (Kd.S_elder' (by (with_reducible repeat (first | apply Kd.S_alloc | apply Kd.S_drewN | apply Kd.S_drew)); exact HO_0.out) (Kd.S_base ho0) hb); have n1_ := Aside0.mk (Kd.R_below (by (with_reducible repeat (first | apply Kd.R_alloc | apply Kd.R_drewN | apply Kd.R_drew)); exact HO_7.out) hb); have n2_ := Aside0.mk (Kd.S_lower (Kd.S_new' (Kd.S_new' ho0 (Kd.S_lt (by (with_reducible repeat (first | apply Kd.S_alloc | apply Kd.S_drewN | apply Kd.S_drew)); exact HO_0.out))) (Kd.R_lt (by (with_reducible repeat (first | apply Kd.R_alloc | apply Kd.R_drewN | apply Kd.R_drew)); exact HO_7.out))) (below_size (by repeat (first | (with_reducible first | exact HB.out | apply below_alloc | apply pw_below_drewN | apply below_drew1) | exact HB.out)))); have n3_ := Aside0.mk (below_step (by repeat (first | (with_reducible first | exact HB.out | apply below_alloc | apply pw_below_drewN | apply below_drew1) | exact HB.out)) hb); clear HO_0; clear HO_7; clear HB; have HO_0 := n0_; have HO_7 := n1_; have HO463 := n2_; have HB := n3_; clear n0_ n1_ n2_ n3_; (try clear hb); (try clear hb2); (try clear hk); (try clear hi); (try clear ho0); have q49 : (x9_20 : Int) ≤ ((t448.length : Int) : Int) := of_decide_eq_true (by first | (with_reducible assumption) | assumption); obtain ⟨i049, hi049, _, hsz49, _⟩ := info_parts info25; have hroom49 : t448.length ≤ co8 := (Kd.S_reads' HO_0.out).2.1; have hC49 : Kd.C k25 _ Ao8 t448.length t448 := (Kd.S_reads' HO_0.out).2.2; have hcut49 := cut_to (P := Try.prog) 36 25 .i64 Try.underlying36 hi049 Ao8 t448.length co8 x9_20 (of_decide_eq_true (by first | (with_reducible assumption) | assumption)) q49 hroom49; have hr49 := Kd.C_take (m := (x9_20 : Int).toNat) hC49 (by omega); have hy49 : y464.length = (x9_20 : Int).toNat := (by rw [Ny464.out, List.length_take]; omega); rw [← Ny464.out] at hr49; rw [← hy49] at hcut49; have HR467 := Aside0.mk hr49; have HC467 := Aside0.mk (show y464.length ≤ co8 from by omega); clear hr49 hC49 hroom49 hi049 hsz49; have KY49 := Aside0.mk hy49; clear hy49; have KL49 := Aside0.mk (show (x9_20 : Int).toNat ≤ t448.length from by omega); replace q49 := eq_true q49; obtain ⟨Ao50, co50, eo50⟩ := Kd.S_slice HO463.out; subst eo50) | (go_at_call 17; (with_reducible refine (attestorref34_Same.calls kj20 _ _ t459 _ _ y464 true _ ?side1 ?side2 ?side3 ?side4 A32.out).mono ?_); (case side1 => repeat (first | exact (Kd.S_reads' HO463.out).2.2 | (with_reducible refine Kd.C_alloc ?_ _) | (with_reducible refine Kd.C_drewN ?_ _) | (with_reducible refine Kd.C_drew ?_))); (case side2 => exact (Kd.S_reads' HO463.out).2.1); (case side3 => repeat (first | exact (by repeat (first | (with_reducible exact HR467.out) | (with_reducible refine Kd.C_alloc ?_ _) | (with_reducible refine Kd.C_drewN ?_ _) | (with_reducible refine Kd.C_drew ?_) | exact HR467.out)) | (with_reducible refine Kd.C_alloc ?_ _) | (with_reducible refine Kd.C_drewN ?_ _) | (with_reducible refine Kd.C_drew ?_))); (case side4 => exact HC467.out); rintro e w' ⟨rfl, ⟨nd, rfl⟩⟩; have p469 : 0 ≤ (x9_20 : Int) := of_decide_eq_true (by first | (with_reducible assumption) | assumption); have q469 : x9_20 < (t448.length : Int) := of_decide_eq_true (by first | (with_reducible assumption) | assumption); obtain ⟨ad469, A469_2, c469_2, e469, hx469_0, hx469_1, hx469_2, hl469_2, hi469_2⟩ := at_T25 (Kd.S_reads' HO_0.out).2.2 x9_20 p469 q469; cases e469; obtain ⟨ce469, hce469, hMe469, hcc469⟩ := Kd.S_get HO_0.out z25 x9_20 p469 (by first | exact q469 | exact of_decide_eq_true (by first | (with_reducible assumption) | assumption) | (have e_ := (Kd.S_reads' HO_0.out).1; omega)); obtain ⟨ve469_2, rfl, ge469_2⟩ := k25_openM hMe469; have hv469_2 := hcc469 2 _ rfl; rw [add_field _ _ 2 (by omega)] at hv469_2; replace hv469_2 := Option.some.inj (hv469_2.symm.trans hx469_2); rw [hv469_2] at ge469_2; have HL469_2 := Aside0.mk (show Kd.R (Kd.int .u8) 5 _ _ _ _ ((rd_T25 t448 x9_20).f2) from ge469_2); clear hv469_2 ge469_2; clear hcc469 hce469; have HR469_2 := Aside0.mk hi469_2; have HC469_2 := Aside0.mk hl469_2; clear hi469_2 hl469_2; replace p469 := eq_true p469; replace q469 := eq_true q469) | (go_at_call 15; (with_reducible refine (attestorlaw34_lives.calls kj20  t471 _ A47.out).mono ?_); rintro e w51 ⟨rfl, hb⟩; have n0_ := Aside0.mk (Kd.S_below (by (with_reducible repeat (first | apply Kd.S_alloc | apply Kd.S_drewN | apply Kd.S_drew)); exact HO_0.out) hb); have n1_ := Aside0.mk (Kd.R_below (by (with_reducible repeat (first | apply Kd.R_alloc | apply Kd.R_drewN | apply Kd.R_drew)); exact HO_7.out) hb); have n2_ := Aside0.mk (Kd.S_below (by (with_reducible repeat (first | apply Kd.S_alloc | apply Kd.S_drewN | apply Kd.S_drew)); exact HO463.out) hb); have n3_ := Aside0.mk (Kd.R_below (by (with_reducible repeat (first | apply Kd.R_alloc | apply Kd.R_drewN | apply Kd.R_drew)); exact HL469_2.out) hb); have n4_ := Aside0.mk (Kd.C_below (by repeat (first | (with_reducible exact HR467.out) | (with_reducible refine Kd.C_alloc ?_ _) | (with_reducible refine Kd.C_drewN ?_ _) | (with_reducible refine Kd.C_drew ?_) | exact HR467.out)) hb); have n5_ := Aside0.mk (Kd.C_below (by repeat (first | (with_reducible exact HR469_2.out) | (with_reducible refine Kd.C_alloc ?_ _) | (with_reducible refine Kd.C_drewN ?_ _) | (with_reducible refine Kd.C_drew ?_) | exact HR469_2.out)) hb); have n6_ := Aside0.mk (below_step (by repeat (first | (with_reducible first | exact HB.out | apply below_alloc | apply pw_below_drewN | apply below_drew1) | exact HB.out)) hb); clear HO_0; clear HO_7; clear HO463; clear HL469_2; clear HR467; clear HR469_2; clear HB; have HO_0 := n0_; have HO_7 := n1_; have HO463 := n2_; have HL469_2 := n3_; have HR467 := n4_; have HR469_2 := n5_; have HB := n6_; clear n0_ n1_ n2_ n3_ n4_ n5_ n6_; (try clear hb); (try clear hb2); (try clear hk); (try clear hi)))
                                          go_ret
                                          exact ⟨by first | rfl | (simp [errW_none, errW_some] <;> rfl) | (simp only [← hji17]; first | rfl | (simp [errW_none, errW_some] <;> rfl)) | (simp [*, errW_none, errW_some] <;> rfl), by repeat (first | (with_reducible first | exact HB.out | apply below_alloc | apply pw_below_drewN | apply below_drew1) | exact HB.out)⟩
                                        · rw [if_neg c46] at H
                                          exact absurd H (by simp)
                                      · rw [if_neg c45] at H
                                        exact absurd H (by simp)
                                    · rw [if_neg c44] at H
                                      exact absurd H (by simp)
                                  · rw [if_neg c43] at H
                                    exact absurd H (by simp)
                              · rw [if_neg c36] at H
                                have c36b0 : (t461 == 4) = false := beq_eq_false_iff_ne.mpr c36
                                (try simp only [hl7_20] at c36b0)
                                have c36b1 : (t461 != 4) = true := bne_iff_ne.mpr c36
                                (try simp only [hl7_20] at c36b1)
                                by_cases c52 : t461 = 3
                                · rw [if_pos c52] at H
                                  have c52b0 : (t461 == 3) = true := beq_iff_eq.mpr c52
                                  (try simp only [hl7_20] at c52b0)
                                  have c52b1 : (t461 != 3) = false := bne_eq_false_iff_eq.mpr c52
                                  (try simp only [hl7_20] at c52b1)
                                  clear c52
                                  by_cases c53 : t460 = (wrap64 (x10_20 + 6))
                                  · rw [if_pos c53] at H
                                    have c53b0 : (t460 == (wrap64 (x10_20 + 6))) = true := beq_iff_eq.mpr c53
                                    (try simp only [hl7_20] at c53b0)
                                    have c53b1 : (t460 != (wrap64 (x10_20 + 6))) = false := bne_eq_false_iff_eq.mpr c53
                                    (try simp only [hl7_20] at c53b1)
                                    clear c53
                                    by_cases c54 : ji17 ≥ (wrap64 (x10_20 + 6))
                                    · rw [if_pos c54] at H
                                      have c54b0 : decide ((wrap64 (x10_20 + 6)) ≤ ji17) = true := decide_eq_true c54
                                      (try simp only [hl7_20] at c54b0)
                                      clear c54
                                      by_cases c55 : ji17 < (wrap64 (x10_20 + 9))
                                      · rw [if_pos c55] at H
                                        have c55b0 : decide (ji17 < (wrap64 (x10_20 + 9))) = true := decide_eq_true c55
                                        (try simp only [hl7_20] at c55b0)
                                        clear c55
                                        replace H := Option.bind_eq_some_iff.mp H
                                        obtain ⟨t472, A560, H⟩ := H
                                        replace H : (some t472) = some r := H
                                        have A56 := Aside0.mk A560
                                        clear A560
                                        obtain rfl := Option.some.inj H
                                        go_wp2_with (first | ((with_reducible refine gate_callee (f := 19) rfl ?_); refine goesL_ (some 70) rfl rfl Try.func19 (by kernel_rfl) rfl #[.slice (some ⟨go20, 0, none⟩) y456.length co22] rfl (by (try simp only [List.map_toArray, List.map_cons, List.map_nil]); first | done | rfl | (simp only [List.length_drop, List.length_take]; rfl) | (go_simp; done) | (go_simp; rw [Int.tmod_eq_emod_of_nonneg (by omega)]; omega)) ?_; (with_reducible refine (frames_Split.calls kj20 _ _ y456 t459 t460 t461 _ ?side1 ?side2 A28.out).mono ?_); (case side1 => repeat (first | exact (Kd.R_reads' HO_7.out).2.2 | (with_reducible refine Kd.C_alloc ?_ _) | (with_reducible refine Kd.C_drewN ?_ _) | (with_reducible refine Kd.C_drew ?_))); (case side2 => exact (Kd.R_reads' HO_7.out).2.1); rintro e w57 ⟨v462, rfl, ho0, hb⟩; refine ⟨_, rfl, ?_⟩; have n0_ := Aside0.mk (Kd.S_elder' (by (with_reducible repeat (first | apply Kd.S_alloc | apply Kd.S_drewN | apply Kd.S_drew)); exact HO_0.out) (Kd.S_base ho0) hb); have n1_ := Aside0.mk (Kd.R_below (by (with_reducible repeat (first | apply Kd.R_alloc | apply Kd.R_drewN | apply Kd.R_drew)); exact HO_7.out) hb); have n2_ := Aside0.mk (Kd.S_lower (Kd.S_new' (Kd.S_new' ho0 (Kd.S_lt (by (with_reducible repeat (first | apply Kd.S_alloc | apply Kd.S_drewN | apply Kd.S_drew)); exact HO_0.out))) (Kd.R_lt (by (with_reducible repeat (first | apply Kd.R_alloc | apply Kd.R_drewN | apply Kd.R_drew)); exact HO_7.out))) (below_size (by repeat (first | (with_reducible first | exact HB.out | apply below_alloc | apply pw_below_drewN | apply below_drew1) | exact HB.out)))); have n3_ := Aside0.mk (below_step (by repeat (first | (with_reducible first | exact HB.out | apply below_alloc | apply pw_below_drewN | apply below_drew1) | exact HB.out)) hb); clear HO_0; clear HO_7; clear HB; have HO_0 := n0_; have HO_7 := n1_; have HO463 := n2_; have HB := n3_; clear n0_ n1_ n2_ n3_; (try clear hb); (try clear hb2); (try clear hk); (try clear hi); (try clear ho0); have q58 : (x9_20 : Int) ≤ ((t448.length : Int) : Int) := of_decide_eq_true (by first | (with_reducible assumption) | assumption); obtain ⟨i058, hi058, _, hsz58, _⟩ := info_parts info25; have hroom58 : t448.length ≤ co8 := (Kd.S_reads' HO_0.out).2.1; have hC58 : Kd.C k25 _ Ao8 t448.length t448 := (Kd.S_reads' HO_0.out).2.2; have hcut58 := cut_to (P := Try.prog) 36 25 .i64 Try.underlying36 hi058 Ao8 t448.length co8 x9_20 (of_decide_eq_true (by first | (with_reducible assumption) | assumption)) q58 hroom58; have hr58 := Kd.C_take (m := (x9_20 : Int).toNat) hC58 (by omega); have hy58 : y464.length = (x9_20 : Int).toNat := (by rw [Ny464.out, List.length_take]; omega); rw [← Ny464.out] at hr58; rw [← hy58] at hcut58; have HR467 := Aside0.mk hr58; have HC467 := Aside0.mk (show y464.length ≤ co8 from by omega); clear hr58 hC58 hroom58 hi058 hsz58; have KY58 := Aside0.mk hy58; clear hy58; have KL58 := Aside0.mk (show (x9_20 : Int).toNat ≤ t448.length from by omega); replace q58 := eq_true q58; obtain ⟨Ao59, co59, eo59⟩ := Kd.S_slice HO463.out; subst eo59) | (go_at_call 17; (with_reducible refine (attestorref34_Same.calls kj20 _ _ t459 _ _ y464 true _ ?side1 ?side2 ?side3 ?side4 A32.out).mono ?_); (case side1 => repeat (first | exact (Kd.S_reads' HO463.out).2.2 | (with_reducible refine Kd.C_alloc ?_ _) | (with_reducible refine Kd.C_drewN ?_ _) | (with_reducible refine Kd.C_drew ?_))); (case side2 => exact (Kd.S_reads' HO463.out).2.1); (case side3 => repeat (first | exact (by repeat (first | (with_reducible exact HR467.out) | (with_reducible refine Kd.C_alloc ?_ _) | (with_reducible refine Kd.C_drewN ?_ _) | (with_reducible refine Kd.C_drew ?_) | exact HR467.out)) | (with_reducible refine Kd.C_alloc ?_ _) | (with_reducible refine Kd.C_drewN ?_ _) | (with_reducible refine Kd.C_drew ?_))); (case side4 => exact HC467.out); rintro e w' ⟨rfl, ⟨nd, rfl⟩⟩; have p469 : 0 ≤ (x9_20 : Int) := of_decide_eq_true (by first | (with_reducible assumption) | assumption); have q469 : x9_20 < (t448.length : Int) := of_decide_eq_true (by first | (with_reducible assumption) | assumption); obtain ⟨ad469, A469_2, c469_2, e469, hx469_0, hx469_1, hx469_2, hl469_2, hi469_2⟩ := at_T25 (Kd.S_reads' HO_0.out).2.2 x9_20 p469 q469; cases e469; obtain ⟨ce469, hce469, hMe469, hcc469⟩ := Kd.S_get HO_0.out z25 x9_20 p469 (by first | exact q469 | exact of_decide_eq_true (by first | (with_reducible assumption) | assumption) | (have e_ := (Kd.S_reads' HO_0.out).1; omega)); obtain ⟨ve469_2, rfl, ge469_2⟩ := k25_openM hMe469; have hv469_2 := hcc469 2 _ rfl; rw [add_field _ _ 2 (by omega)] at hv469_2; replace hv469_2 := Option.some.inj (hv469_2.symm.trans hx469_2); rw [hv469_2] at ge469_2; have HL469_2 := Aside0.mk (show Kd.R (Kd.int .u8) 5 _ _ _ _ ((rd_T25 t448 x9_20).f2) from ge469_2); clear hv469_2 ge469_2; clear hcc469 hce469; have HR469_2 := Aside0.mk hi469_2; have HC469_2 := Aside0.mk hl469_2; clear hi469_2 hl469_2; replace p469 := eq_true p469; replace q469 := eq_true q469) | (go_at_call 15; (with_reducible refine (attestorlaw34_lives.calls kj20  t472 _ A56.out).mono ?_); rintro e w60 ⟨rfl, hb⟩; have n0_ := Aside0.mk (Kd.S_below (by (with_reducible repeat (first | apply Kd.S_alloc | apply Kd.S_drewN | apply Kd.S_drew)); exact HO_0.out) hb); have n1_ := Aside0.mk (Kd.R_below (by (with_reducible repeat (first | apply Kd.R_alloc | apply Kd.R_drewN | apply Kd.R_drew)); exact HO_7.out) hb); have n2_ := Aside0.mk (Kd.S_below (by (with_reducible repeat (first | apply Kd.S_alloc | apply Kd.S_drewN | apply Kd.S_drew)); exact HO463.out) hb); have n3_ := Aside0.mk (Kd.R_below (by (with_reducible repeat (first | apply Kd.R_alloc | apply Kd.R_drewN | apply Kd.R_drew)); exact HL469_2.out) hb); have n4_ := Aside0.mk (Kd.C_below (by repeat (first | (with_reducible exact HR467.out) | (with_reducible refine Kd.C_alloc ?_ _) | (with_reducible refine Kd.C_drewN ?_ _) | (with_reducible refine Kd.C_drew ?_) | exact HR467.out)) hb); have n5_ := Aside0.mk (Kd.C_below (by repeat (first | (with_reducible exact HR469_2.out) | (with_reducible refine Kd.C_alloc ?_ _) | (with_reducible refine Kd.C_drewN ?_ _) | (with_reducible refine Kd.C_drew ?_) | exact HR469_2.out)) hb); have n6_ := Aside0.mk (below_step (by repeat (first | (with_reducible first | exact HB.out | apply below_alloc | apply pw_below_drewN | apply below_drew1) | exact HB.out)) hb); clear HO_0; clear HO_7; clear HO463; clear HL469_2; clear HR467; clear HR469_2; clear HB; have HO_0 := n0_; have HO_7 := n1_; have HO463 := n2_; have HL469_2 := n3_; have HR467 := n4_; have HR469_2 := n5_; have HB := n6_; clear n0_ n1_ n2_ n3_ n4_ n5_ n6_; (try clear hb); (try clear hb2); (try clear hk); (try clear hi)))
                                        go_ret
                                        exact ⟨by first | rfl | (simp [errW_none, errW_some] <;> rfl) | (simp only [← hji17]; first | rfl | (simp [errW_none, errW_some] <;> rfl)) | (simp [*, errW_none, errW_some] <;> rfl), by repeat (first | (with_reducible first | exact HB.out | apply below_alloc | apply pw_below_drewN | apply below_drew1) | exact HB.out)⟩
                                      · rw [if_neg c55] at H
                                        exact absurd H (by simp)
                                    · rw [if_neg c54] at H
                                      exact absurd H (by simp)
                                  · rw [if_neg c53] at H
                                    exact absurd H (by simp)
                                · rw [if_neg c52] at H
                                  exact absurd H (by simp)
                          · rw [if_neg c34] at H
                            exact absurd H (by simp)
                        · replace c33 := Bool.eq_false_iff.mpr c33
                          subst c33
                          have H1 : (none) = some r := by rw [if_neg (show ¬ (false = true) by decide)] at H; exact H
                          clear H
                          have H := H1
                          clear H1
                          exact absurd H (by simp)
                      · rw [if_neg c31] at H
                        exact absurd H (by simp)
                    · rw [if_neg c30] at H
                      exact absurd H (by simp)
            · rw [if_neg c19] at H
              exact absurd H (by simp)
          · rw [if_neg c18] at H
            exact absurd H (by simp)

end Go.Proofs.Ytddjlnoafakijaa.Q
