/- Several texts in one, in build order. What they prove, each by its own first remark:
Written by our own copy of a printing program (a twelfth state) out of the translation. Not trusted: Lean checks it.
Of EPHash what this claim needs.
Of EPHashes what this claim needs. -/
import Derived.Test.YtamjeglenbokfaaDoorM2
import Derived.Test.YtamjeglenbokfaaDoorM3
section
namespace Go.Proofs.YtamjeglenbokfaaDoor.Q
open Go.RowKit Go.Proofs.YtamjeglenbokfaaDoorW.PrintWords Go.Proofs.YtamjeglenbokfaaDoorW.PrintLast Go.Proofs.YtamjeglenbokfaaDoorW.PrintMore
attribute [local go_sem] max2_int min2_int max_two min_two max_three min_three max_four min_four   -- for this text's walks alone
set_option linter.unusedVariables false
set_option linter.unusedSimpArgs false

/-! ### sponge_Hash: function 33 -/
mutual
def sponge_Hash.j0 : Nat → List Int → Int → Int → Bool → Int → Int → Int → Int → Option (Int × Int)
  | 0, _, _, _, _, _, _, _, _ => none
  | k + 1, x1, x231000, x231001, x231002, x232000, x232001, x232002, x232003 => sponge_Hash.l0 k x1 x231000 x231001 x231002 x232000 x232001 x232002 x232003
def sponge_Hash.l0 : Nat → List Int → Int → Int → Bool → Int → Int → Int → Int → Option (Int × Int)
  | 0, _, _, _, _, _, _, _, _ => none
  | k + 1, x1, x231000, x231001, x231002, x232000, x232001, x232002, x232003 => if (x1.length : Int) > 0 then (if 0 ≤ (mn 2 (x1.length : Int)) then (if (mn 2 (x1.length : Int)) ≤ (x1.length : Int) then ((some (x1.take ((mn 2 (x1.length : Int)) : Int).toNat : List Int)).bind fun y236 => (sponge_Hash.l1 k x1 (mn 2 (x1.length : Int)) y236 (y236.length : Int) 0 x231000 x231001 x231002 x232000 x232001 x232002 x232003)) else (none)) else (none)) else (some (x232000, x232001))
def sponge_Hash.l1 : Nat → List Int → Int → List Int → Int → Int → Int → Int → Bool → Int → Int → Int → Int → Option (Int × Int)
  | 0, _, _, _, _, _, _, _, _, _, _, _, _ => none
  | k + 1, x1, x7, x37, x38, x39, x231000, x231001, x231002, x232000, x232001, x232002, x232003 => if x39 < x38 then (if 0 ≤ x39 then (if x39 < (x37.length : Int) then (if x39 < 4 then (if x231000 = 0 then (none) else (sponge_Hash.l1 k x1 x7 x37 x38 (wrap64 (x39 + 1)) x231000 x231001 x231002 (updv x232000 0 x39 (Int.tmod (IntKind.u64.wrap ((rd ([x232000, x232001, x232002, x232003] : List Int) x39) + (Int.tmod (rd x37 x39) x231000))) x231000)) (updv x232001 1 x39 (Int.tmod (IntKind.u64.wrap ((rd ([x232000, x232001, x232002, x232003] : List Int) x39) + (Int.tmod (rd x37 x39) x231000))) x231000)) (updv x232002 2 x39 (Int.tmod (IntKind.u64.wrap ((rd ([x232000, x232001, x232002, x232003] : List Int) x39) + (Int.tmod (rd x37 x39) x231000))) x231000)) (updv x232003 3 x39 (Int.tmod (IntKind.u64.wrap ((rd ([x232000, x232001, x232002, x232003] : List Int) x39) + (Int.tmod (rd x37 x39) x231000))) x231000)))) else (none)) else (none)) else (none)) else ((sponge_mixer_perm.f k x231000 x231001 x231002 x232000 x232001 x232002 x232003).bind fun bt242 => (if 0 ≤ x7 then (if x7 ≤ (x1.length : Int) then (sponge_Hash.l0 k (x1.drop (x7 : Int).toNat) x231000 x231001 x231002 bt242.1 bt242.2.1 bt242.2.2.1 bt242.2.2.2) else (none)) else (none)))
end
def sponge_Hash.f (k : Nat) (a0 : Int) (l1 : List Int) : Option (Int × Int) := (field_Valid.f a0).bind fun t226 => (if t226 = true then ((sponge_in.f a0).bind fun bt227 => (if bt227.1 = 0 then (none) else (if (l1.length : Int) = 0 then ((sponge_mixer_perm.f k bt227.1 bt227.2.1 bt227.2.2 0 0 (Int.tmod (IntKind.u64.wrap ((l1.length : Int))) bt227.1) 0).bind fun bt232 => (sponge_Hash.j0 k l1 bt227.1 bt227.2.1 bt227.2.2 bt232.1 bt232.2.1 bt232.2.2.1 bt232.2.2.2)) else (sponge_Hash.j0 k l1 bt227.1 bt227.2.1 bt227.2.2 0 0 (Int.tmod (IntKind.u64.wrap ((l1.length : Int))) bt227.1) 0)))) else (some (0, 0)))
theorem sponge_Hash.mono_l : ∀ k, (∀ y0 y1 y2 y3 y4 y5 y6 y7, LeO (sponge_Hash.j0 k y0 y1 y2 y3 y4 y5 y6 y7) (sponge_Hash.j0 (k + 1) y0 y1 y2 y3 y4 y5 y6 y7)) ∧ (∀ y0 y1 y2 y3 y4 y5 y6 y7, LeO (sponge_Hash.l0 k y0 y1 y2 y3 y4 y5 y6 y7) (sponge_Hash.l0 (k + 1) y0 y1 y2 y3 y4 y5 y6 y7)) ∧ (∀ y0 y1 y2 y3 y4 y5 y6 y7 y8 y9 y10 y11, LeO (sponge_Hash.l1 k y0 y1 y2 y3 y4 y5 y6 y7 y8 y9 y10 y11) (sponge_Hash.l1 (k + 1) y0 y1 y2 y3 y4 y5 y6 y7 y8 y9 y10 y11))
  | 0 => ⟨fun _ _ _ _ _ _ _ _ r h => by simp [sponge_Hash.j0] at h, fun _ _ _ _ _ _ _ _ r h => by simp [sponge_Hash.l0] at h, fun _ _ _ _ _ _ _ _ _ _ _ _ r h => by simp [sponge_Hash.l1] at h⟩
  | k + 1 => by
    obtain ⟨ih0, ih1, ih2⟩ := sponge_Hash.mono_l k
    refine ⟨?_, ?_, ?_⟩
    · intro y0 y1 y2 y3 y4 y5 y6 y7
      unfold sponge_Hash.j0
      repeat' first
      | (with_reducible exact ih0 _ _ _ _ _ _ _ _)
      | (with_reducible exact ih1 _ _ _ _ _ _ _ _)
      | (with_reducible exact ih2 _ _ _ _ _ _ _ _ _ _ _ _)
      | (with_reducible exact sponge_mixer_perm.mono _ _ _ _ _ _ _ _)
      | (with_reducible exact LeO.refl _)
      | (with_reducible exact LeO.none _)
      | (with_reducible refine LeO.ite ?_ ?_)
      | (with_reducible refine LeO.bind ?_ (fun _ => ?_))
      | exact ih0 _ _ _ _ _ _ _ _
      | exact ih1 _ _ _ _ _ _ _ _
      | exact ih2 _ _ _ _ _ _ _ _ _ _ _ _
      | exact sponge_mixer_perm.mono _ _ _ _ _ _ _ _
      | exact LeO.none _
      | refine LeO.ite ?_ ?_
      | refine LeO.bind ?_ (fun _ => ?_)
    · intro y0 y1 y2 y3 y4 y5 y6 y7
      unfold sponge_Hash.l0
      repeat' first
      | (with_reducible exact ih0 _ _ _ _ _ _ _ _)
      | (with_reducible exact ih1 _ _ _ _ _ _ _ _)
      | (with_reducible exact ih2 _ _ _ _ _ _ _ _ _ _ _ _)
      | (with_reducible exact sponge_mixer_perm.mono _ _ _ _ _ _ _ _)
      | (with_reducible exact LeO.refl _)
      | (with_reducible exact LeO.none _)
      | (with_reducible refine LeO.ite ?_ ?_)
      | (with_reducible refine LeO.bind ?_ (fun _ => ?_))
      | exact ih0 _ _ _ _ _ _ _ _
      | exact ih1 _ _ _ _ _ _ _ _
      | exact ih2 _ _ _ _ _ _ _ _ _ _ _ _
      | exact sponge_mixer_perm.mono _ _ _ _ _ _ _ _
      | exact LeO.none _
      | refine LeO.ite ?_ ?_
      | refine LeO.bind ?_ (fun _ => ?_)
    · intro y0 y1 y2 y3 y4 y5 y6 y7 y8 y9 y10 y11
      unfold sponge_Hash.l1
      repeat' first
      | (with_reducible exact ih0 _ _ _ _ _ _ _ _)
      | (with_reducible exact ih1 _ _ _ _ _ _ _ _)
      | (with_reducible exact ih2 _ _ _ _ _ _ _ _ _ _ _ _)
      | (with_reducible exact sponge_mixer_perm.mono _ _ _ _ _ _ _ _)
      | (with_reducible exact LeO.refl _)
      | (with_reducible exact LeO.none _)
      | (with_reducible refine LeO.ite ?_ ?_)
      | (with_reducible refine LeO.bind ?_ (fun _ => ?_))
      | exact ih0 _ _ _ _ _ _ _ _
      | exact ih1 _ _ _ _ _ _ _ _
      | exact ih2 _ _ _ _ _ _ _ _ _ _ _ _
      | exact sponge_mixer_perm.mono _ _ _ _ _ _ _ _
      | exact LeO.none _
      | refine LeO.ite ?_ ?_
      | refine LeO.bind ?_ (fun _ => ?_)
theorem sponge_Hash.mono : ∀ a0 a1 k, LeO (sponge_Hash.f k a0 a1) (sponge_Hash.f (k + 1) a0 a1) := by
  intro a0 a1 k
  obtain ⟨ih0, ih1, ih2⟩ := sponge_Hash.mono_l k
  unfold sponge_Hash.f
  repeat' first
      | (with_reducible exact ih0 _ _ _ _ _ _ _ _)
      | (with_reducible exact ih1 _ _ _ _ _ _ _ _)
      | (with_reducible exact ih2 _ _ _ _ _ _ _ _ _ _ _ _)
      | (with_reducible exact sponge_mixer_perm.mono _ _ _ _ _ _ _ _)
      | (with_reducible exact LeO.refl _)
      | (with_reducible exact LeO.none _)
      | (with_reducible refine LeO.ite ?_ ?_)
      | (with_reducible refine LeO.bind ?_ (fun _ => ?_))
      | exact ih0 _ _ _ _ _ _ _ _
      | exact ih1 _ _ _ _ _ _ _ _
      | exact ih2 _ _ _ _ _ _ _ _ _ _ _ _
      | exact sponge_mixer_perm.mono _ _ _ _ _ _ _ _
      | exact LeO.none _
      | refine LeO.ite ?_ ?_
      | refine LeO.bind ?_ (fun _ => ?_)
def sponge_Hash.T12 : Bool × List (List Nat × List Nat) := (true, [([], []), ([], []), ([1], [1]), ([2], [2]), ([], []), ([], []), ([5], [5]), ([4, 6], [4, 6]), ([3, 7], [3, 7]), ([], []), ([9], [9]), ([8, 10], [8, 10]), ([0, 0, 1, 2, 3, 4, 5, 6, 7, 8, 9, 10, 11], [0]), ([12, 11, 0, 1, 2, 3, 4, 5, 6, 7, 8, 9, 10, 11], [11, 12])])
def sponge_Hash.B12 : List Nat := [0, 0, 2, 6, 0, 0, 32, 112, 254, 0, 512, 2046, 4095, 8191]
theorem sponge_Hash.tab12 : rtab .any (opsOf Tryd.f33 12) = sponge_Hash.T12 := by kernel_rfl
theorem sponge_Hash.bits12 : waitsOk sponge_Hash.T12.2 sponge_Hash.B12 = true := by kernel_rfl
set_option maxHeartbeats 8000000 in
set_option maxRecDepth 100000 in
theorem sponge_Hash.calls (k : Nat) (a0 : Int) (P1_ : Nat → Prop) (A1 : Option Addr) (c1 : Nat) (l1 : List Int) (r1 : Int) (r2 : Int) (w : World) (hs1 : Kd.V (Kd.int .u64) 47 w w.heap.size (fun k_ => P1_ k_) (.slice A1 l1.length c1) l1) (hrG : GL w) (h : sponge_Hash.f k a0 l1 = some (r1, r2)) :
    Calls Tryd.prog 33 #[.int .i64 a0, .slice A1 l1.length c1] w fun e w' => e = .returned (.agg #[.int .u64 r1, .int .u64 r2]) ∧ Below w.heap.size w w' := by
  have hu49 := Tryd.underlying49
  have hu62 := Tryd.underlying62
  have hu64 := Tryd.underlying64
  have HRG := Aside0.mk hrG
  clear hrG
  have HO1 := Aside0.mk (show Kd.V (Kd.int .u64) 47 w w.heap.size (fun k_ => (P1_ k_ ∨ w.heap.size ≤ k_)) (.slice A1 l1.length c1) l1 from Kd.V_mono hs1 (fun k_ hk => .inl hk))
  have HB := Aside0.mk (Below.refl w.heap.size w)
  have H : ((field_Valid.f a0).bind fun t226 => (if t226 = true then ((sponge_in.f a0).bind fun bt227 => (if bt227.1 = 0 then (none) else (if (l1.length : Int) = 0 then ((sponge_mixer_perm.f k bt227.1 bt227.2.1 bt227.2.2 0 0 (Int.tmod (IntKind.u64.wrap ((l1.length : Int))) bt227.1) 0).bind fun bt232 => (sponge_Hash.j0 k l1 bt227.1 bt227.2.1 bt227.2.2 bt232.1 bt232.2.1 bt232.2.2.1 bt232.2.2.2)) else (sponge_Hash.j0 k l1 bt227.1 bt227.2.1 bt227.2.2 0 0 (Int.tmod (IntKind.u64.wrap ((l1.length : Int))) bt227.1) 0)))) else (some (0, 0)))) = some (r1, r2) := h
  clear h
  replace H := Option.bind_eq_some_iff.mp H
  obtain ⟨t226, A30, H⟩ := H
  replace H : (if t226 = true then ((sponge_in.f a0).bind fun bt227 => (if bt227.1 = 0 then (none) else (if (l1.length : Int) = 0 then ((sponge_mixer_perm.f k bt227.1 bt227.2.1 bt227.2.2 0 0 (Int.tmod (IntKind.u64.wrap ((l1.length : Int))) bt227.1) 0).bind fun bt232 => (sponge_Hash.j0 k l1 bt227.1 bt227.2.1 bt227.2.2 bt232.1 bt232.2.1 bt232.2.2.1 bt232.2.2.2)) else (sponge_Hash.j0 k l1 bt227.1 bt227.2.1 bt227.2.2 0 0 (Int.tmod (IntKind.u64.wrap ((l1.length : Int))) bt227.1) 0)))) else (some (0, 0))) = some (r1, r2) := H
  have A3 := Aside0.mk A30
  clear A30
  by_cases c4 : t226 = true
  · subst c4
    have H1 : ((sponge_in.f a0).bind fun bt227 => (if bt227.1 = 0 then (none) else (if (l1.length : Int) = 0 then ((sponge_mixer_perm.f k bt227.1 bt227.2.1 bt227.2.2 0 0 (Int.tmod (IntKind.u64.wrap ((l1.length : Int))) bt227.1) 0).bind fun bt232 => (sponge_Hash.j0 k l1 bt227.1 bt227.2.1 bt227.2.2 bt232.1 bt232.2.1 bt232.2.2.1 bt232.2.2.2)) else (sponge_Hash.j0 k l1 bt227.1 bt227.2.1 bt227.2.2 0 0 (Int.tmod (IntKind.u64.wrap ((l1.length : Int))) bt227.1) 0)))) = some (r1, r2) := by rw [if_pos rfl] at H; exact H
    clear H
    have H := H1
    clear H1
    replace H := Option.bind_eq_some_iff.mp H
    obtain ⟨⟨t227, t228, t229⟩, A50, H⟩ := H
    replace H : (if t227 = 0 then (none) else (if (l1.length : Int) = 0 then ((sponge_mixer_perm.f k t227 t228 t229 0 0 (Int.tmod (IntKind.u64.wrap ((l1.length : Int))) t227) 0).bind fun bt232 => (sponge_Hash.j0 k l1 t227 t228 t229 bt232.1 bt232.2.1 bt232.2.2.1 bt232.2.2.2)) else (sponge_Hash.j0 k l1 t227 t228 t229 0 0 (Int.tmod (IntKind.u64.wrap ((l1.length : Int))) t227) 0))) = some (r1, r2) := H
    have A5 := Aside0.mk A50
    clear A50
    by_cases c6 : t227 = 0
    · rw [if_pos c6] at H
      exact absurd H (by simp)
    · rw [if_neg c6] at H
      have c6b0 : (t227 == 0) = false := beq_eq_false_iff_ne.mpr c6
      have c6b1 : (t227 != 0) = true := bne_iff_ne.mpr c6
      have HC7 := Aside0.mk H
      clear H
      go_enter Tryd.func33, Tryd.ntmps33
      go_upto_if 25 with (first | ((with_reducible refine gate_dst (N := 4) rfl ?_); refine box_event ?hg (N := 4) ?hd (cs := #[.int .u64 0, .int .u64 0]) (t := 49) ?hr ?_; (case hd => rfl); (case hg => rfl); (case hr => first | (go_simp; done) | (go_simp; rfl)); intro gb225 hg w8 hbox hb; have n0_ := Aside0.mk (Kd.V_below (Kd.V_elderB (by (with_reducible repeat (first | apply Kd.V_alloc | apply Kd.V_drewN | apply Kd.V_drew)); exact HO1.out) gb225 (Nat.le_of_eq hg.symm)) hb); have n1_ := Aside0.mk (below_step (by repeat (first | (with_reducible first | exact HB.out | apply below_alloc | apply pw_below_drewN | apply below_drew1) | exact HB.out)) hb); have n2_ := Aside0.mk (hbox); have n3_ := Aside0.mk ((by rw [hg]; exact (below_size (by repeat (first | (with_reducible first | exact HB.out | apply below_alloc | apply pw_below_drewN | apply below_drew1) | exact HB.out))) : w.heap.size ≤ gb225)); have n4_ := Aside0.mk ((by rw [hg]; exact (below_size (by repeat (first | (with_reducible first | exact HB.out | apply below_alloc | apply pw_below_drewN | apply below_drew1) | exact HB.out))) : w.heap.size ≤ gb225)); clear HO1; clear HB; have HO1 := n0_; have HB := n1_; have BK225 := n2_; have GW225 := n3_; have GE225 := n4_; clear n0_ n1_ n2_ n3_ n4_; clear hb hbox hg) | ((with_reducible refine gate_callee (f := 37) rfl ?_); refine goesL_ (some 11) rfl rfl Tryd.func37 (by kernel_rfl) rfl #[.int .i64 a0] rfl (by (try simp only [List.map_toArray, List.map_cons, List.map_nil]); first | done | rfl | (simp only [List.length_drop, List.length_take]; rfl) | (go_simp; done) | (go_simp; rw [Int.tmod_eq_emod_of_nonneg (by omega)]; omega)) ?_; (with_reducible refine (field_Valid.calls a0 true _ A3.out).mono ?_); rintro e w' ⟨rfl, ⟨nd, rfl⟩⟩; refine ⟨_, rfl, ?_⟩; (try (rw [drewN_self w8]; generalize hq_ : World.drewN w8 _ = w8; have n0_ : Aside0 (Kd.V (Kd.int .u64) 47 w8 w.heap.size (fun k_ => (P1_ k_ ∨ w.heap.size ≤ k_) ∧ k_ ≠ gb225) (.slice A1 l1.length c1) l1) := ⟨by rw [← hq_]; exact (by (with_reducible repeat (first | apply Kd.V_alloc | apply Kd.V_drewN | apply Kd.V_drew)); exact HO1.out)⟩; have n1_ : Aside0 (w8.heap[gb225]? = some (.cells #[.int .u64 0, .int .u64 0] 49 (0, 0))) := ⟨by rw [← hq_]; exact (by (with_reducible repeat (first | refine blk_drewN ?_ _ | refine blk_drew ?_ | refine blk_alloc ?_ _)); exact BK225.out)⟩; have n2_ : Aside0 (Below w.heap.size w w8) := ⟨by rw [← hq_]; exact (by repeat (first | (with_reducible first | exact HB.out | apply below_alloc | apply pw_below_drewN | apply below_drew1 | refine below_set ?_ GE225.out) | exact HB.out))⟩; clear HO1 BK225 HB hq_; have HO1 := n0_; have BK225 := n1_; have HB := n2_; clear n0_ n1_ n2_))) | ((with_reducible refine gate_callee (f := 38) rfl ?_); refine goesL_ (some 15) rfl rfl Tryd.func38 (by kernel_rfl) rfl #[.int .i64 a0] rfl (by (try simp only [List.map_toArray, List.map_cons, List.map_nil]); first | done | rfl | (simp only [List.length_drop, List.length_take]; rfl) | (go_simp; done) | (go_simp; rw [Int.tmod_eq_emod_of_nonneg (by omega)]; omega)) ?_; (with_reducible refine (sponge_in.calls a0 t227 t228 t229 _ ?side1 A5.out).mono ?_); (case side1 => repeat (first | exact (GL.below HRG.out HB.out) | (with_reducible refine GL.alloc ?_ _) | (with_reducible refine GL.drewN ?_ _) | (with_reducible refine GL.drew ?_))); rintro e w9 ⟨rfl, hb⟩; refine ⟨_, rfl, ?_⟩; have n0_ := Aside0.mk (Kd.V_below (by (with_reducible repeat (first | apply Kd.V_alloc | apply Kd.V_drewN | apply Kd.V_drew)); exact HO1.out) hb); have n1_ := Aside0.mk (blk_below (g := gb225) (o := .cells #[.int .u64 0, .int .u64 0] 49 (0, 0)) (by (with_reducible repeat (first | refine blk_drewN ?_ _ | refine blk_drew ?_ | refine blk_alloc ?_ _)); exact BK225.out) hb); have n2_ := Aside0.mk (below_step (by repeat (first | (with_reducible first | exact HB.out | apply below_alloc | apply pw_below_drewN | apply below_drew1 | refine below_set ?_ GE225.out) | exact HB.out)) hb); clear HO1; clear BK225; clear HB; have HO1 := n0_; have BK225 := n1_; have HB := n2_; clear n0_ n1_ n2_; (try clear hb); (try clear hb2); (try clear hk); (try clear hi)) | ((with_reducible refine gate_dst (N := 5) rfl ?_); refine box_event ?hg (N := 5) ?hd (cs := #[.int .u64 0, .int .u64 0, .bool false]) (t := 62) ?hr ?_; (case hd => rfl); (case hg => rfl); (case hr => first | (go_simp; done) | (go_simp; rfl)); intro gb230 hg w10 hbox hb; have n0_ := Aside0.mk (Kd.V_below (Kd.V_elderB (by (with_reducible repeat (first | apply Kd.V_alloc | apply Kd.V_drewN | apply Kd.V_drew)); exact HO1.out) gb230 (Nat.le_of_eq hg.symm)) hb); have n1_ := Aside0.mk (blk_below (g := gb225) (o := .cells #[.int .u64 0, .int .u64 0] 49 (0, 0)) (by (with_reducible repeat (first | refine blk_drewN ?_ _ | refine blk_drew ?_ | refine blk_alloc ?_ _)); exact BK225.out) hb); have n2_ := Aside0.mk (below_step (by repeat (first | (with_reducible first | exact HB.out | apply below_alloc | apply pw_below_drewN | apply below_drew1 | refine below_set ?_ GE225.out) | exact HB.out)) hb); have n3_ := Aside0.mk (hbox); have n4_ := Aside0.mk ((by rw [hg]; exact (below_size (by repeat (first | (with_reducible first | exact HB.out | apply below_alloc | apply pw_below_drewN | apply below_drew1 | refine below_set ?_ GE225.out) | exact HB.out))) : w.heap.size ≤ gb230)); have n5_ := Aside0.mk ((by rw [hg]; exact (below_size (by repeat (first | (with_reducible first | exact HB.out | apply below_alloc | apply pw_below_drewN | apply below_drew1 | refine below_set ?_ GE225.out) | exact HB.out))) : w.heap.size ≤ gb230)); have n6_ := Aside0.mk ((by rw [hg]; exact Nat.ne_of_lt (blk_lt (g := gb225) (o := .cells #[.int .u64 0, .int .u64 0] 49 (0, 0)) (by (with_reducible repeat (first | refine blk_drewN ?_ _ | refine blk_drew ?_ | refine blk_alloc ?_ _)); exact BK225.out)) : gb225 ≠ gb230)); have n7_ := Aside0.mk ((by rw [hg]; exact Nat.ne_of_gt (blk_lt (g := gb225) (o := .cells #[.int .u64 0, .int .u64 0] 49 (0, 0)) (by (with_reducible repeat (first | refine blk_drewN ?_ _ | refine blk_drew ?_ | refine blk_alloc ?_ _)); exact BK225.out)) : gb230 ≠ gb225)); clear HO1; clear BK225; clear HB; have HO1 := n0_; have BK225 := n1_; have HB := n2_; have BK230 := n3_; have GW230 := n4_; have GE230 := n5_; have NB225_230 := n6_; have NB230_225 := n7_; clear n0_ n1_ n2_ n3_ n4_ n5_ n6_ n7_; clear hb hbox hg; have hnb11 := NB230_225.out; have hnc11 := NB225_230.out; have hcz12_0 : w10.cell? ⟨gb230, 0, none⟩ = some (.int .u64 0) := (blk_cell BK230.out 0).trans rfl; have hcz12_1 : w10.cell? ⟨gb230, 1, none⟩ = some (.int .u64 0) := (blk_cell BK230.out 1).trans rfl; have hcz12_2 : w10.cell? ⟨gb230, 2, none⟩ = some (.bool false) := (blk_cell BK230.out 2).trans rfl; have hfz12_0 := blk_frozen BK230.out 0; have hfz12_1 := blk_frozen BK230.out 1; have hfz12_2 := blk_frozen BK230.out 2) | ((with_reducible refine gate_dst (N := 6) rfl ?_); refine box_event ?hg (N := 6) ?hd (cs := #[.int .u64 0, .int .u64 0, .int .u64 0, .int .u64 0]) (t := 64) ?hr ?_; (case hd => rfl); (case hg => rfl); (case hr => first | (go_simp; done) | (go_simp; rfl)); intro gb231 hg w13 hbox hb; have n0_ := Aside0.mk (Kd.V_below (Kd.V_elderB (by (with_reducible repeat (first | apply Kd.V_alloc | apply Kd.V_drewN | apply Kd.V_drew)); exact (Kd.V_mono (Kd.V_far (p := ⟨gb230, 2, none⟩) (Kd.V_far (p := ⟨gb230, 1, none⟩) (Kd.V_far (p := ⟨gb230, 0, none⟩) (Kd.V_mono HO1.out (fun k_ hk => (⟨hk, hk.2⟩ : _ ∧ k_ ≠ gb230))) (fun _ hk => hk.2) (.int .u64 t227)) (fun _ hk => hk.2) (.int .u64 t228)) (fun _ hk => hk.2) (.bool t229)) (fun _ h_ => h_.1))) gb231 (Nat.le_of_eq hg.symm)) hb); have n1_ := Aside0.mk (blk_below (g := gb225) (o := .cells #[.int .u64 0, .int .u64 0] 49 (0, 0)) (by (with_reducible repeat (first | refine blk_drewN ?_ _ | refine blk_drew ?_ | refine blk_alloc ?_ _)); refine blk_far ?_ NB225_230.out _; (with_reducible repeat (first | refine blk_drewN ?_ _ | refine blk_drew ?_ | refine blk_alloc ?_ _)); refine blk_far ?_ NB225_230.out _; (with_reducible repeat (first | refine blk_drewN ?_ _ | refine blk_drew ?_ | refine blk_alloc ?_ _)); refine blk_far ?_ NB225_230.out _; (with_reducible repeat (first | refine blk_drewN ?_ _ | refine blk_drew ?_ | refine blk_alloc ?_ _)); exact BK225.out) hb); have n2_ := Aside0.mk (blk_below (g := gb230) (o := .cells #[.int .u64 t227, .int .u64 t228, .bool t229] 62 (0, 0)) (by (with_reducible repeat (first | refine blk_drewN ?_ _ | refine blk_drew ?_ | refine blk_alloc ?_ _)); refine blk_put (cs := #[.int .u64 t227, .int .u64 t228, .bool false]) ?_ 2 _ rfl; (with_reducible repeat (first | refine blk_drewN ?_ _ | refine blk_drew ?_ | refine blk_alloc ?_ _)); refine blk_put (cs := #[.int .u64 t227, .int .u64 0, .bool false]) ?_ 1 _ rfl; (with_reducible repeat (first | refine blk_drewN ?_ _ | refine blk_drew ?_ | refine blk_alloc ?_ _)); refine blk_put (cs := #[.int .u64 0, .int .u64 0, .bool false]) ?_ 0 _ rfl; (with_reducible repeat (first | refine blk_drewN ?_ _ | refine blk_drew ?_ | refine blk_alloc ?_ _)); exact BK230.out) hb); have n3_ := Aside0.mk (below_step (by repeat (first | (with_reducible first | exact HB.out | apply below_alloc | apply pw_below_drewN | apply below_drew1 | refine below_set ?_ GE225.out | refine below_set ?_ GE230.out) | exact HB.out)) hb); have n4_ := Aside0.mk (hbox); have n5_ := Aside0.mk ((by rw [hg]; exact (below_size (by repeat (first | (with_reducible first | exact HB.out | apply below_alloc | apply pw_below_drewN | apply below_drew1 | refine below_set ?_ GE225.out | refine below_set ?_ GE230.out) | exact HB.out))) : w.heap.size ≤ gb231)); have n6_ := Aside0.mk ((by rw [hg]; exact (below_size (by repeat (first | (with_reducible first | exact HB.out | apply below_alloc | apply pw_below_drewN | apply below_drew1 | refine below_set ?_ GE225.out | refine below_set ?_ GE230.out) | exact HB.out))) : w.heap.size ≤ gb231)); have n7_ := Aside0.mk ((by rw [hg]; exact Nat.ne_of_lt (blk_lt (g := gb225) (o := .cells #[.int .u64 0, .int .u64 0] 49 (0, 0)) (by (with_reducible repeat (first | refine blk_drewN ?_ _ | refine blk_drew ?_ | refine blk_alloc ?_ _)); refine blk_far ?_ NB225_230.out _; (with_reducible repeat (first | refine blk_drewN ?_ _ | refine blk_drew ?_ | refine blk_alloc ?_ _)); refine blk_far ?_ NB225_230.out _; (with_reducible repeat (first | refine blk_drewN ?_ _ | refine blk_drew ?_ | refine blk_alloc ?_ _)); refine blk_far ?_ NB225_230.out _; (with_reducible repeat (first | refine blk_drewN ?_ _ | refine blk_drew ?_ | refine blk_alloc ?_ _)); exact BK225.out)) : gb225 ≠ gb231)); have n8_ := Aside0.mk ((by rw [hg]; exact Nat.ne_of_gt (blk_lt (g := gb225) (o := .cells #[.int .u64 0, .int .u64 0] 49 (0, 0)) (by (with_reducible repeat (first | refine blk_drewN ?_ _ | refine blk_drew ?_ | refine blk_alloc ?_ _)); refine blk_far ?_ NB225_230.out _; (with_reducible repeat (first | refine blk_drewN ?_ _ | refine blk_drew ?_ | refine blk_alloc ?_ _)); refine blk_far ?_ NB225_230.out _; (with_reducible repeat (first | refine blk_drewN ?_ _ | refine blk_drew ?_ | refine blk_alloc ?_ _)); refine blk_far ?_ NB225_230.out _; (with_reducible repeat (first | refine blk_drewN ?_ _ | refine blk_drew ?_ | refine blk_alloc ?_ _)); exact BK225.out)) : gb231 ≠ gb225)); have n9_ := Aside0.mk ((by rw [hg]; exact Nat.ne_of_lt (blk_lt (g := gb230) (o := .cells #[.int .u64 t227, .int .u64 t228, .bool t229] 62 (0, 0)) (by (with_reducible repeat (first | refine blk_drewN ?_ _ | refine blk_drew ?_ | refine blk_alloc ?_ _)); refine blk_put (cs := #[.int .u64 t227, .int .u64 t228, .bool false]) ?_ 2 _ rfl; (with_reducible repeat (first | refine blk_drewN ?_ _ | refine blk_drew ?_ | refine blk_alloc ?_ _)); refine blk_put (cs := #[.int .u64 t227, .int .u64 0, .bool false]) ?_ 1 _ rfl; (with_reducible repeat (first | refine blk_drewN ?_ _ | refine blk_drew ?_ | refine blk_alloc ?_ _)); refine blk_put (cs := #[.int .u64 0, .int .u64 0, .bool false]) ?_ 0 _ rfl; (with_reducible repeat (first | refine blk_drewN ?_ _ | refine blk_drew ?_ | refine blk_alloc ?_ _)); exact BK230.out)) : gb230 ≠ gb231)); have n10_ := Aside0.mk ((by rw [hg]; exact Nat.ne_of_gt (blk_lt (g := gb230) (o := .cells #[.int .u64 t227, .int .u64 t228, .bool t229] 62 (0, 0)) (by (with_reducible repeat (first | refine blk_drewN ?_ _ | refine blk_drew ?_ | refine blk_alloc ?_ _)); refine blk_put (cs := #[.int .u64 t227, .int .u64 t228, .bool false]) ?_ 2 _ rfl; (with_reducible repeat (first | refine blk_drewN ?_ _ | refine blk_drew ?_ | refine blk_alloc ?_ _)); refine blk_put (cs := #[.int .u64 t227, .int .u64 0, .bool false]) ?_ 1 _ rfl; (with_reducible repeat (first | refine blk_drewN ?_ _ | refine blk_drew ?_ | refine blk_alloc ?_ _)); refine blk_put (cs := #[.int .u64 0, .int .u64 0, .bool false]) ?_ 0 _ rfl; (with_reducible repeat (first | refine blk_drewN ?_ _ | refine blk_drew ?_ | refine blk_alloc ?_ _)); exact BK230.out)) : gb231 ≠ gb230)); clear HO1; clear BK225; clear BK230; clear HB; have HO1 := n0_; have BK225 := n1_; have BK230 := n2_; have HB := n3_; have BK231 := n4_; have GW231 := n5_; have GE231 := n6_; have NB225_231 := n7_; have NB231_225 := n8_; have NB230_231 := n9_; have NB231_230 := n10_; clear n0_ n1_ n2_ n3_ n4_ n5_ n6_ n7_ n8_ n9_ n10_; clear hb hbox hg; have hnb14 := NB231_225.out; have hnc14 := NB225_231.out; have hnb15 := NB231_230.out; have hnc15 := NB230_231.out; have hcz16_0 : w13.cell? ⟨gb231, 0, none⟩ = some (.int .u64 0) := (blk_cell BK231.out 0).trans rfl; have hcz16_1 : w13.cell? ⟨gb231, 1, none⟩ = some (.int .u64 0) := (blk_cell BK231.out 1).trans rfl; have hcz16_2 : w13.cell? ⟨gb231, 2, none⟩ = some (.int .u64 0) := (blk_cell BK231.out 2).trans rfl; have hcz16_3 : w13.cell? ⟨gb231, 3, none⟩ = some (.int .u64 0) := (blk_cell BK231.out 3).trans rfl; have hfz16_0 := blk_frozen BK231.out 0; have hfz16_1 := blk_frozen BK231.out 1; have hfz16_2 := blk_frozen BK231.out 2; have hfz16_3 := blk_frozen BK231.out 3))
      (try simp only [Act.put, List.setIfInBounds_toArray, List.set_cons_zero, List.set_cons_succ])
      go_cut [] (fun wc => ∃ (kq : Nat) (x232000_6 : Int) (x232001_6 : Int) (x232002_6 : Int) (x232003_6 : Int), Aside0 (sponge_Hash.j0 kq l1 t227 t228 t229 x232000_6 x232001_6 x232002_6 x232003_6 = some (r1, r2)) ∧ Aside0 (kq ≤ k) ∧ Aside0 (Kd.V (Kd.int .u64) 47 wc w.heap.size (fun k_ => (P1_ k_ ∨ w.heap.size ≤ k_) ∧ k_ ≠ gb225 ∧ k_ ≠ gb230 ∧ k_ ≠ gb231) (.slice A1 l1.length c1) l1) ∧ Aside0 (wc.heap[gb225]? = some (.cells #[.int .u64 0, .int .u64 0] 49 (0, 0))) ∧ Aside0 (wc.heap[gb230]? = some (.cells #[.int .u64 t227, .int .u64 t228, .bool t229] 62 (0, 0))) ∧ Aside0 (wc.heap[gb231]? = some (.cells #[.int .u64 x232000_6, .int .u64 x232001_6, .int .u64 x232002_6, .int .u64 x232003_6] 64 (0, 0))) ∧ Aside0 (Below w.heap.size w wc))
      case first =>
        have H := HC7.out
        clear HC7
        by_cases c17 : (l1.length : Int) = 0
        · rw [if_pos c17] at H
          have c17b0 : ((l1.length : Int) == 0) = true := beq_iff_eq.mpr c17
          have c17b1 : ((l1.length : Int) != 0) = false := bne_eq_false_iff_eq.mpr c17
          clear c17
          (first | rw [c17b0] | (simp only [i64_w, i32_w]; rw [c17b0]) | skip)
          replace H := Option.bind_eq_some_iff.mp H
          obtain ⟨⟨t232, t233, t234, t235⟩, A180, H⟩ := H
          replace H : (sponge_Hash.j0 k l1 t227 t228 t229 t232 t233 t234 t235) = some (r1, r2) := H
          have A18 := Aside0.mk A180
          clear A180
          have H' := Aside0.mk H
          clear H
          have hnb19 := NB230_225.out
          have hnc19 := NB225_230.out
          have hnb20 := NB230_231.out
          have hnc20 := NB231_230.out
          have hcz21_0 : w13.cell? ⟨gb230, 0, none⟩ = some (.int .u64 t227) := (blk_cell BK230.out 0).trans rfl
          have hcz21_1 : w13.cell? ⟨gb230, 1, none⟩ = some (.int .u64 t228) := (blk_cell BK230.out 1).trans rfl
          have hcz21_2 : w13.cell? ⟨gb230, 2, none⟩ = some (.bool t229) := (blk_cell BK230.out 2).trans rfl
          have hfz21_0 := blk_frozen BK230.out 0
          have hfz21_1 := blk_frozen BK230.out 1
          have hfz21_2 := blk_frozen BK230.out 2
          have hnb22 := NB231_225.out
          have hnc22 := NB225_231.out
          have hcz23_0 : w13.cell? ⟨gb231, 0, none⟩ = some (.int .u64 0) := (blk_cell BK231.out 0).trans rfl
          have hcz23_1 : w13.cell? ⟨gb231, 1, none⟩ = some (.int .u64 0) := (blk_cell BK231.out 1).trans rfl
          have hcz23_2 : w13.cell? ⟨gb231, 2, none⟩ = some (.int .u64 0) := (blk_cell BK231.out 2).trans rfl
          have hcz23_3 : w13.cell? ⟨gb231, 3, none⟩ = some (.int .u64 0) := (blk_cell BK231.out 3).trans rfl
          have hfz23_0 := blk_frozen BK231.out 0
          have hfz23_1 := blk_frozen BK231.out 1
          have hfz23_2 := blk_frozen BK231.out 2
          have hfz23_3 := blk_frozen BK231.out 3
          go_wp2_with (first | ((with_reducible refine gate_callee (f := 39) rfl ?_); refine goesL_ (some 28) rfl rfl Tryd.func39 (by kernel_rfl) rfl #[.agg #[.int .u64 t227, .int .u64 t228, .bool t229], .agg #[.int .u64 0, .int .u64 0, .int .u64 (Int.tmod (IntKind.u64.wrap ((l1.length : Int))) t227), .int .u64 0]] rfl (by (try simp only [List.map_toArray, List.map_cons, List.map_nil]); first | done | rfl | (simp only [List.length_drop, List.length_take]; rfl) | (go_simp; done) | (go_simp; rw [Int.tmod_eq_emod_of_nonneg (by omega)]; omega)) ?_; (with_reducible refine (sponge_mixer_perm.calls k t227 t228 t229 0 0 (Int.tmod (IntKind.u64.wrap ((l1.length : Int))) t227) 0 t232 t233 t234 t235 _ A18.out).mono ?_); rintro e w24 ⟨rfl, hb⟩; refine ⟨_, rfl, ?_⟩; have n0_ := Aside0.mk (Kd.V_below (by (with_reducible repeat (first | apply Kd.V_alloc | apply Kd.V_drewN | apply Kd.V_drew)); exact (Kd.V_mono (Kd.V_far (p := ⟨gb231, 3, none⟩) (Kd.V_far (p := ⟨gb231, 2, none⟩) (Kd.V_far (p := ⟨gb231, 1, none⟩) (Kd.V_far (p := ⟨gb231, 0, none⟩) (Kd.V_mono HO1.out (fun k_ hk => (⟨hk, hk.2⟩ : _ ∧ k_ ≠ gb231))) (fun _ hk => hk.2) (.int .u64 0)) (fun _ hk => hk.2) (.int .u64 0)) (fun _ hk => hk.2) (.int .u64 (Int.tmod (IntKind.u64.wrap ((l1.length : Int))) t227))) (fun _ hk => hk.2) (.int .u64 0)) (fun _ h_ => h_.1))) hb); have n1_ := Aside0.mk (blk_below (g := gb225) (o := .cells #[.int .u64 0, .int .u64 0] 49 (0, 0)) (by (with_reducible repeat (first | refine blk_drewN ?_ _ | refine blk_drew ?_ | refine blk_alloc ?_ _)); refine blk_far ?_ NB225_231.out _; (with_reducible repeat (first | refine blk_drewN ?_ _ | refine blk_drew ?_ | refine blk_alloc ?_ _)); refine blk_far ?_ NB225_231.out _; (with_reducible repeat (first | refine blk_drewN ?_ _ | refine blk_drew ?_ | refine blk_alloc ?_ _)); refine blk_far ?_ NB225_231.out _; (with_reducible repeat (first | refine blk_drewN ?_ _ | refine blk_drew ?_ | refine blk_alloc ?_ _)); refine blk_far ?_ NB225_231.out _; (with_reducible repeat (first | refine blk_drewN ?_ _ | refine blk_drew ?_ | refine blk_alloc ?_ _)); exact BK225.out) hb); have n2_ := Aside0.mk (blk_below (g := gb230) (o := .cells #[.int .u64 t227, .int .u64 t228, .bool t229] 62 (0, 0)) (by (with_reducible repeat (first | refine blk_drewN ?_ _ | refine blk_drew ?_ | refine blk_alloc ?_ _)); refine blk_far ?_ NB230_231.out _; (with_reducible repeat (first | refine blk_drewN ?_ _ | refine blk_drew ?_ | refine blk_alloc ?_ _)); refine blk_far ?_ NB230_231.out _; (with_reducible repeat (first | refine blk_drewN ?_ _ | refine blk_drew ?_ | refine blk_alloc ?_ _)); refine blk_far ?_ NB230_231.out _; (with_reducible repeat (first | refine blk_drewN ?_ _ | refine blk_drew ?_ | refine blk_alloc ?_ _)); refine blk_far ?_ NB230_231.out _; (with_reducible repeat (first | refine blk_drewN ?_ _ | refine blk_drew ?_ | refine blk_alloc ?_ _)); exact BK230.out) hb); have n3_ := Aside0.mk (blk_below (g := gb231) (o := .cells #[.int .u64 0, .int .u64 0, .int .u64 (Int.tmod (IntKind.u64.wrap ((l1.length : Int))) t227), .int .u64 0] 64 (0, 0)) (by (with_reducible repeat (first | refine blk_drewN ?_ _ | refine blk_drew ?_ | refine blk_alloc ?_ _)); refine blk_put (cs := #[.int .u64 0, .int .u64 0, .int .u64 (Int.tmod (IntKind.u64.wrap ((l1.length : Int))) t227), .int .u64 0]) ?_ 3 _ rfl; (with_reducible repeat (first | refine blk_drewN ?_ _ | refine blk_drew ?_ | refine blk_alloc ?_ _)); refine blk_put (cs := #[.int .u64 0, .int .u64 0, .int .u64 0, .int .u64 0]) ?_ 2 _ rfl; (with_reducible repeat (first | refine blk_drewN ?_ _ | refine blk_drew ?_ | refine blk_alloc ?_ _)); refine blk_put (cs := #[.int .u64 0, .int .u64 0, .int .u64 0, .int .u64 0]) ?_ 1 _ rfl; (with_reducible repeat (first | refine blk_drewN ?_ _ | refine blk_drew ?_ | refine blk_alloc ?_ _)); refine blk_put (cs := #[.int .u64 0, .int .u64 0, .int .u64 0, .int .u64 0]) ?_ 0 _ rfl; (with_reducible repeat (first | refine blk_drewN ?_ _ | refine blk_drew ?_ | refine blk_alloc ?_ _)); exact BK231.out) hb); have n4_ := Aside0.mk (below_step (by repeat (first | (with_reducible first | exact HB.out | apply below_alloc | apply pw_below_drewN | apply below_drew1 | refine below_set ?_ GE225.out | refine below_set ?_ GE230.out | refine below_set ?_ GE231.out) | exact HB.out)) hb); clear HO1; clear BK225; clear BK230; clear BK231; clear HB; have HO1 := n0_; have BK225 := n1_; have BK230 := n2_; have BK231 := n3_; have HB := n4_; clear n0_ n1_ n2_ n3_ n4_; (try clear hb); (try clear hb2); (try clear hk); (try clear hi); have hcz25_0 : w24.cell? ⟨gb231, 0, none⟩ = some (.int .u64 0) := (blk_cell BK231.out 0).trans rfl; have hcz25_1 : w24.cell? ⟨gb231, 1, none⟩ = some (.int .u64 0) := (blk_cell BK231.out 1).trans rfl; have hcz25_2 : w24.cell? ⟨gb231, 2, none⟩ = some (.int .u64 (Int.tmod (IntKind.u64.wrap ((l1.length : Int))) t227)) := (blk_cell BK231.out 2).trans rfl; have hcz25_3 : w24.cell? ⟨gb231, 3, none⟩ = some (.int .u64 0) := (blk_cell BK231.out 3).trans rfl; have hfz25_0 := blk_frozen BK231.out 0; have hfz25_1 := blk_frozen BK231.out 1; have hfz25_2 := blk_frozen BK231.out 2; have hfz25_3 := blk_frozen BK231.out 3))
          go_meet
          case rel => exact ⟨_, (t232), (t233), (t234), (t235), H', ⟨by first | omega | exact Nat.le_refl _⟩, ⟨by (with_reducible repeat (first | apply Kd.V_alloc | apply Kd.V_drewN | apply Kd.V_drew)); exact Kd.V_mono (Kd.V_far (p := ⟨gb231, 3, none⟩) (Kd.V_far (p := ⟨gb231, 2, none⟩) (Kd.V_far (p := ⟨gb231, 1, none⟩) (Kd.V_far (p := ⟨gb231, 0, none⟩) (Kd.V_mono HO1.out (fun k_ hk => (⟨hk, hk.2⟩ : _ ∧ k_ ≠ gb231))) (fun _ hk => hk.2) (.int .u64 t232)) (fun _ hk => hk.2) (.int .u64 t233)) (fun _ hk => hk.2) (.int .u64 t234)) (fun _ hk => hk.2) (.int .u64 t235)) (fun _ hk => ⟨hk.1.1.1.1, ⟨hk.1.1.1.2, ⟨hk.1.1.2, hk.1.2⟩⟩⟩)⟩, ⟨by (with_reducible repeat (first | refine blk_drewN ?_ _ | refine blk_drew ?_ | refine blk_alloc ?_ _)); refine blk_far ?_ NB225_231.out _; (with_reducible repeat (first | refine blk_drewN ?_ _ | refine blk_drew ?_ | refine blk_alloc ?_ _)); refine blk_far ?_ NB225_231.out _; (with_reducible repeat (first | refine blk_drewN ?_ _ | refine blk_drew ?_ | refine blk_alloc ?_ _)); refine blk_far ?_ NB225_231.out _; (with_reducible repeat (first | refine blk_drewN ?_ _ | refine blk_drew ?_ | refine blk_alloc ?_ _)); refine blk_far ?_ NB225_231.out _; (with_reducible repeat (first | refine blk_drewN ?_ _ | refine blk_drew ?_ | refine blk_alloc ?_ _)); exact BK225.out⟩, ⟨by (with_reducible repeat (first | refine blk_drewN ?_ _ | refine blk_drew ?_ | refine blk_alloc ?_ _)); refine blk_far ?_ NB230_231.out _; (with_reducible repeat (first | refine blk_drewN ?_ _ | refine blk_drew ?_ | refine blk_alloc ?_ _)); refine blk_far ?_ NB230_231.out _; (with_reducible repeat (first | refine blk_drewN ?_ _ | refine blk_drew ?_ | refine blk_alloc ?_ _)); refine blk_far ?_ NB230_231.out _; (with_reducible repeat (first | refine blk_drewN ?_ _ | refine blk_drew ?_ | refine blk_alloc ?_ _)); refine blk_far ?_ NB230_231.out _; (with_reducible repeat (first | refine blk_drewN ?_ _ | refine blk_drew ?_ | refine blk_alloc ?_ _)); exact BK230.out⟩, ⟨by (with_reducible repeat (first | refine blk_drewN ?_ _ | refine blk_drew ?_ | refine blk_alloc ?_ _)); refine blk_put (cs := #[.int .u64 t232, .int .u64 t233, .int .u64 t234, .int .u64 0]) ?_ 3 _ rfl; (with_reducible repeat (first | refine blk_drewN ?_ _ | refine blk_drew ?_ | refine blk_alloc ?_ _)); refine blk_put (cs := #[.int .u64 t232, .int .u64 t233, .int .u64 (Int.tmod (IntKind.u64.wrap ((l1.length : Int))) t227), .int .u64 0]) ?_ 2 _ rfl; (with_reducible repeat (first | refine blk_drewN ?_ _ | refine blk_drew ?_ | refine blk_alloc ?_ _)); refine blk_put (cs := #[.int .u64 t232, .int .u64 0, .int .u64 (Int.tmod (IntKind.u64.wrap ((l1.length : Int))) t227), .int .u64 0]) ?_ 1 _ rfl; (with_reducible repeat (first | refine blk_drewN ?_ _ | refine blk_drew ?_ | refine blk_alloc ?_ _)); refine blk_put (cs := #[.int .u64 0, .int .u64 0, .int .u64 (Int.tmod (IntKind.u64.wrap ((l1.length : Int))) t227), .int .u64 0]) ?_ 0 _ rfl; (with_reducible repeat (first | refine blk_drewN ?_ _ | refine blk_drew ?_ | refine blk_alloc ?_ _)); exact BK231.out⟩, ⟨by repeat (first | (with_reducible first | exact HB.out | apply below_alloc | apply pw_below_drewN | apply below_drew1 | refine below_set ?_ GE225.out | refine below_set ?_ GE230.out | refine below_set ?_ GE231.out) | exact HB.out)⟩⟩
        · rw [if_neg c17] at H
          have c17b0 : ((l1.length : Int) == 0) = false := beq_eq_false_iff_ne.mpr c17
          have c17b1 : ((l1.length : Int) != 0) = true := bne_iff_ne.mpr c17
          have c17b2 : ¬ (l1 = []) := fun h_ => c17 (by rw [h_]; rfl)
          (first | rw [c17b0] | (simp only [i64_w, i32_w]; rw [c17b0]) | skip)
          have H' := Aside0.mk H
          clear H
          go_wp2
          go_meet
          case rel => exact ⟨_, (0), (0), (Int.tmod (IntKind.u64.wrap ((l1.length : Int))) t227), (0), H', ⟨by first | omega | exact Nat.le_refl _⟩, ⟨by (with_reducible repeat (first | apply Kd.V_alloc | apply Kd.V_drewN | apply Kd.V_drew)); exact Kd.V_mono (Kd.V_far (p := ⟨gb231, 3, none⟩) (Kd.V_far (p := ⟨gb231, 2, none⟩) (Kd.V_far (p := ⟨gb231, 1, none⟩) (Kd.V_far (p := ⟨gb231, 0, none⟩) (Kd.V_mono HO1.out (fun k_ hk => (⟨hk, hk.2⟩ : _ ∧ k_ ≠ gb231))) (fun _ hk => hk.2) (.int .u64 0)) (fun _ hk => hk.2) (.int .u64 0)) (fun _ hk => hk.2) (.int .u64 (Int.tmod (IntKind.u64.wrap ((l1.length : Int))) t227))) (fun _ hk => hk.2) (.int .u64 0)) (fun _ hk => ⟨hk.1.1.1.1, ⟨hk.1.1.1.2, ⟨hk.1.1.2, hk.1.2⟩⟩⟩)⟩, ⟨by (with_reducible repeat (first | refine blk_drewN ?_ _ | refine blk_drew ?_ | refine blk_alloc ?_ _)); refine blk_far ?_ NB225_231.out _; (with_reducible repeat (first | refine blk_drewN ?_ _ | refine blk_drew ?_ | refine blk_alloc ?_ _)); refine blk_far ?_ NB225_231.out _; (with_reducible repeat (first | refine blk_drewN ?_ _ | refine blk_drew ?_ | refine blk_alloc ?_ _)); refine blk_far ?_ NB225_231.out _; (with_reducible repeat (first | refine blk_drewN ?_ _ | refine blk_drew ?_ | refine blk_alloc ?_ _)); refine blk_far ?_ NB225_231.out _; (with_reducible repeat (first | refine blk_drewN ?_ _ | refine blk_drew ?_ | refine blk_alloc ?_ _)); exact BK225.out⟩, ⟨by (with_reducible repeat (first | refine blk_drewN ?_ _ | refine blk_drew ?_ | refine blk_alloc ?_ _)); refine blk_far ?_ NB230_231.out _; (with_reducible repeat (first | refine blk_drewN ?_ _ | refine blk_drew ?_ | refine blk_alloc ?_ _)); refine blk_far ?_ NB230_231.out _; (with_reducible repeat (first | refine blk_drewN ?_ _ | refine blk_drew ?_ | refine blk_alloc ?_ _)); refine blk_far ?_ NB230_231.out _; (with_reducible repeat (first | refine blk_drewN ?_ _ | refine blk_drew ?_ | refine blk_alloc ?_ _)); refine blk_far ?_ NB230_231.out _; (with_reducible repeat (first | refine blk_drewN ?_ _ | refine blk_drew ?_ | refine blk_alloc ?_ _)); exact BK230.out⟩, ⟨by (with_reducible repeat (first | refine blk_drewN ?_ _ | refine blk_drew ?_ | refine blk_alloc ?_ _)); refine blk_put (cs := #[.int .u64 0, .int .u64 0, .int .u64 (Int.tmod (IntKind.u64.wrap ((l1.length : Int))) t227), .int .u64 0]) ?_ 3 _ rfl; (with_reducible repeat (first | refine blk_drewN ?_ _ | refine blk_drew ?_ | refine blk_alloc ?_ _)); refine blk_put (cs := #[.int .u64 0, .int .u64 0, .int .u64 0, .int .u64 0]) ?_ 2 _ rfl; (with_reducible repeat (first | refine blk_drewN ?_ _ | refine blk_drew ?_ | refine blk_alloc ?_ _)); refine blk_put (cs := #[.int .u64 0, .int .u64 0, .int .u64 0, .int .u64 0]) ?_ 1 _ rfl; (with_reducible repeat (first | refine blk_drewN ?_ _ | refine blk_drew ?_ | refine blk_alloc ?_ _)); refine blk_put (cs := #[.int .u64 0, .int .u64 0, .int .u64 0, .int .u64 0]) ?_ 0 _ rfl; (with_reducible repeat (first | refine blk_drewN ?_ _ | refine blk_drew ?_ | refine blk_alloc ?_ _)); exact BK231.out⟩, ⟨by repeat (first | (with_reducible first | exact HB.out | apply below_alloc | apply pw_below_drewN | apply below_drew1 | refine below_set ?_ GE225.out | refine below_set ?_ GE230.out | refine below_set ?_ GE231.out) | exact HB.out)⟩⟩
      case rest =>
        clear HC7
        try clear c1
        try clear c2
        try clear p2
        try clear c3
        try clear c4
        try clear c6
        try clear c6b0
        try clear c6b1
        try clear c11
        try clear c14
        try clear c15
        try clear c17
        try clear c17b0
        try clear c17b1
        try clear c17b2
        try clear c19
        try clear c20
        try clear c22
        try clear hcz12_0
        try clear hcz12_1
        try clear hcz12_2
        try clear hcz16_0
        try clear hcz16_1
        try clear hcz16_2
        try clear hcz16_3
        try clear hcz21_0
        try clear hcz21_1
        try clear hcz21_2
        try clear hcz23_0
        try clear hcz23_1
        try clear hcz23_2
        try clear hcz23_3
        try clear hcz25_0
        try clear hcz25_1
        try clear hcz25_2
        try clear hcz25_3
        try clear hfz12_0
        try clear hfz12_1
        try clear hfz12_2
        try clear hfz16_0
        try clear hfz16_1
        try clear hfz16_2
        try clear hfz16_3
        try clear hfz21_0
        try clear hfz21_1
        try clear hfz21_2
        try clear hfz23_0
        try clear hfz23_1
        try clear hfz23_2
        try clear hfz23_3
        try clear hfz25_0
        try clear hfz25_1
        try clear hfz25_2
        try clear hfz25_3
        obtain ⟨kq, x232000_6, x232001_6, x232002_6, x232003_6, HA, HJ6, HO_1, BK225, BK230, BK231, HB⟩ := hcut
        cases kq with
        | zero => exact absurd HA.out (by simp [sponge_Hash.j0])
        | succ kj6 =>
          have H := HA.out
          clear HA
          simp only [sponge_Hash.j0] at H
          have H' := Aside0.mk H
          clear H
          go_wp2
          go_loopg [1] kj6 (fun kq v1 w' => ∃ (x1_2 : List Int) (x232000_2 : Int) (x232001_2 : Int) (x232002_2 : Int) (x232003_2 : Int), Aside0 (sponge_Hash.l0 kq x1_2 t227 t228 t229 x232000_2 x232001_2 x232002_2 x232003_2 = some (r1, r2)) ∧ Aside0 (kq ≤ kj6) ∧ Aside0 (Kd.V (Kd.int .u64) 47 w' w.heap.size (fun k_ => (P1_ k_ ∨ w.heap.size ≤ k_) ∧ k_ ≠ gb225 ∧ k_ ≠ gb230 ∧ k_ ≠ gb231) v1 x1_2) ∧ Aside0 (w'.heap[gb225]? = some (.cells #[.int .u64 0, .int .u64 0] 49 (0, 0))) ∧ Aside0 (w'.heap[gb230]? = some (.cells #[.int .u64 t227, .int .u64 t228, .bool t229] 62 (0, 0))) ∧ Aside0 (w'.heap[gb231]? = some (.cells #[.int .u64 x232000_2, .int .u64 x232001_2, .int .u64 x232002_2, .int .u64 x232003_2] 64 (0, 0))) ∧ Aside0 (Below w.heap.size w w'))
          case atStart => exact ⟨(l1), (x232000_6), (x232001_6), (x232002_6), (x232003_6), H', ⟨Nat.le_refl _⟩, ⟨by (with_reducible repeat (first | apply Kd.V_alloc | apply Kd.V_drewN | apply Kd.V_drew)); exact HO_1.out⟩, ⟨by (with_reducible repeat (first | refine blk_drewN ?_ _ | refine blk_drew ?_ | refine blk_alloc ?_ _)); exact BK225.out⟩, ⟨by (with_reducible repeat (first | refine blk_drewN ?_ _ | refine blk_drew ?_ | refine blk_alloc ?_ _)); exact BK230.out⟩, ⟨by (with_reducible repeat (first | refine blk_drewN ?_ _ | refine blk_drew ?_ | refine blk_alloc ?_ _)); exact BK231.out⟩, ⟨by repeat (first | (with_reducible first | exact HB.out | apply below_alloc | apply pw_below_drewN | apply below_drew1 | refine below_set ?_ GE225.out | refine below_set ?_ GE230.out | refine below_set ?_ GE231.out) | exact HB.out)⟩⟩
          case round =>
            clear H'
            try clear c1
            try clear c2
            try clear p2
            try clear c3
            try clear c4
            try clear c6
            try clear c6b0
            try clear c6b1
            try clear c11
            try clear c14
            try clear c15
            try clear c17
            try clear c17b0
            try clear c17b1
            try clear c17b2
            try clear c19
            try clear c20
            try clear c22
            try clear hcz12_0
            try clear hcz12_1
            try clear hcz12_2
            try clear hcz16_0
            try clear hcz16_1
            try clear hcz16_2
            try clear hcz16_3
            try clear hcz21_0
            try clear hcz21_1
            try clear hcz21_2
            try clear hcz23_0
            try clear hcz23_1
            try clear hcz23_2
            try clear hcz23_3
            try clear hcz25_0
            try clear hcz25_1
            try clear hcz25_2
            try clear hcz25_3
            try clear hfz12_0
            try clear hfz12_1
            try clear hfz12_2
            try clear hfz16_0
            try clear hfz16_1
            try clear hfz16_2
            try clear hfz16_3
            try clear hfz21_0
            try clear hfz21_1
            try clear hfz21_2
            try clear hfz23_0
            try clear hfz23_1
            try clear hfz23_2
            try clear hfz23_3
            try clear hfz25_0
            try clear hfz25_1
            try clear hfz25_2
            try clear hfz25_3
            try clear p2
            obtain ⟨x1_2, x232000_2, x232001_2, x232002_2, x232003_2, HA, HK2, HO_1, BK225, BK230, BK231, HB⟩ := hrel
            cases gk with
            | zero => exact absurd HA.out (by simp [sponge_Hash.l0])
            | succ k2 =>
              have H := HA.out
              clear HA
              simp only [sponge_Hash.l0] at H
              by_cases c26 : (x1_2.length : Int) > 0
              · rw [if_pos c26] at H
                have c26b0 : decide (0 < (x1_2.length : Int)) = true := decide_eq_true c26
                have c26b1 : decide (0 < x1_2.length) = true := decide_eq_true (by omega)
                clear c26
                obtain ⟨ji27, hji27⟩ : ∃ j_ : Int, (mn 2 (x1_2.length : Int)) = j_ := ⟨_, rfl⟩
                replace H : (if 0 ≤ (ji27) then (if (ji27) ≤ (x1_2.length : Int) then ((some (x1_2.take ((ji27) : Int).toNat : List Int)).bind fun y236 => (sponge_Hash.l1 k2 x1_2 ji27 y236 (y236.length : Int) 0 t227 t228 t229 x232000_2 x232001_2 x232002_2 x232003_2)) else (none)) else (none)) = some (r1, r2) := by first | (rw [hji27] at H; exact H) | (simp only [hji27] at H ⊢; exact H)
                have hji27_ : (if (x1_2.length : Int) < 2 then (x1_2.length : Int) else 2) = ji27 := hji27
                by_cases c28 : 0 ≤ (ji27)
                · rw [if_pos c28] at H
                  have c28b0 := eq_true c28
                  have c28b1 : decide (0 ≤ (ji27)) = true := decide_eq_true c28
                  clear c28
                  by_cases c29 : (ji27) ≤ (x1_2.length : Int)
                  · rw [if_pos c29] at H
                    have c29b0 := eq_true c29
                    have c29b1 : decide ((ji27) ≤ (x1_2.length : Int)) = true := decide_eq_true c29
                    clear c29
                    obtain ⟨y236, hy236⟩ : ∃ y_ : List Int, y_ = (x1_2.take ((ji27) : Int).toNat) := ⟨_, rfl⟩
                    replace H : (sponge_Hash.l1 k2 x1_2 ji27 y236 (y236.length : Int) 0 t227 t228 t229 x232000_2 x232001_2 x232002_2 x232003_2) = some (r1, r2) := by first | (rw [hy236]; with_reducible exact H) | (have H2_ := (Option.bind_some _ _).symm.trans H; rw [hy236]; with_reducible exact H2_) | (have H2_ := (Option.bind_some _ _).symm.trans H; with_reducible exact H2_) | with_reducible exact H | (rw [hy236]; exact H) | exact H
                    have Ny236 := Aside0.mk hy236
                    clear hy236
                    have H' := Aside0.mk H
                    clear H
                    obtain ⟨Ao30, co30, eo30⟩ := Kd.V_slice HO_1.out
                    subst eo30
                    have q31 : ((ji27) : Int) ≤ ((x1_2.length : Int) : Int) := of_decide_eq_true (by first | (with_reducible assumption) | assumption)
                    obtain ⟨i031, hi031, _, hsz31, _⟩ := info_parts info47
                    have hroom31 : x1_2.length ≤ co30 := (Kd.V_reads' HO_1.out).2.1
                    have hC31 : Kd.F (Kd.int .u64) _ _ Ao30 x1_2.length x1_2 := (Kd.V_at (base := w.heap.size) HO_1.out).2.2
                    have hcut31 := cut_to (P := Tryd.prog) 56 47 .i64 Tryd.underlying56 hi031 Ao30 x1_2.length co30 (ji27) (of_decide_eq_true (by first | (with_reducible assumption) | assumption)) q31 hroom31
                    have hr31 := Kd.F_take (m := ((ji27) : Int).toNat) hC31 (by omega)
                    have hy31 : y236.length = ((ji27) : Int).toNat := (by rw [Ny236.out, List.length_take]; omega)
                    rw [← Ny236.out] at hr31
                    rw [← hy31] at hcut31
                    have HO240 := Aside0.mk (show Kd.V (Kd.int .u64) 47 _ w.heap.size _ (.slice Ao30 y236.length co30) y236 from Kd.V_mk (by omega) hr31)
                    have HC240 := Aside0.mk (show y236.length ≤ co30 from by omega)
                    clear hr31 hC31 hroom31 hi031 hsz31
                    have KY31 := Aside0.mk hy31
                    clear hy31
                    replace q31 := eq_true q31
                    go_wp2
                    go_loopg [39] k2 (fun kq v39 w' => ∃ (x39_3 : Int) (x232000_3 : Int) (x232001_3 : Int) (x232002_3 : Int) (x232003_3 : Int), v39 = .int .i64 x39_3 ∧ Aside0 (sponge_Hash.l1 kq x1_2 ji27 y236 (y236.length : Int) x39_3 t227 t228 t229 x232000_3 x232001_3 x232002_3 x232003_3 = some (r1, r2)) ∧ Aside0 (kq ≤ k2) ∧ Aside0 (Kd.V (Kd.int .u64) 47 w' w.heap.size (fun k_ => (P1_ k_ ∨ w.heap.size ≤ k_) ∧ k_ ≠ gb225 ∧ k_ ≠ gb230 ∧ k_ ≠ gb231) (.slice Ao30 x1_2.length co30) x1_2) ∧ Aside0 (Kd.V (Kd.int .u64) 47 w' w.heap.size (fun k_ => (P1_ k_ ∨ w.heap.size ≤ k_) ∧ k_ ≠ gb225 ∧ k_ ≠ gb230 ∧ k_ ≠ gb231) (.slice Ao30 y236.length co30) y236) ∧ Aside0 (w'.heap[gb225]? = some (.cells #[.int .u64 0, .int .u64 0] 49 (0, 0))) ∧ Aside0 (w'.heap[gb230]? = some (.cells #[.int .u64 t227, .int .u64 t228, .bool t229] 62 (0, 0))) ∧ Aside0 (w'.heap[gb231]? = some (.cells #[.int .u64 x232000_3, .int .u64 x232001_3, .int .u64 x232002_3, .int .u64 x232003_3] 64 (0, 0))) ∧ Aside0 (Below w.heap.size w w'))
                    case atStart => exact ⟨(0), (x232000_2), (x232001_2), (x232002_2), (x232003_2), (by first | rfl | (simp; done) | (simp [*]; done) | (simp; rfl) | (simp; decide +kernel)), H', ⟨Nat.le_refl _⟩, ⟨by (with_reducible repeat (first | apply Kd.V_alloc | apply Kd.V_drewN | apply Kd.V_drew)); exact HO_1.out⟩, ⟨by (with_reducible repeat (first | apply Kd.V_alloc | apply Kd.V_drewN | apply Kd.V_drew)); exact HO240.out⟩, ⟨by (with_reducible repeat (first | refine blk_drewN ?_ _ | refine blk_drew ?_ | refine blk_alloc ?_ _)); exact BK225.out⟩, ⟨by (with_reducible repeat (first | refine blk_drewN ?_ _ | refine blk_drew ?_ | refine blk_alloc ?_ _)); exact BK230.out⟩, ⟨by (with_reducible repeat (first | refine blk_drewN ?_ _ | refine blk_drew ?_ | refine blk_alloc ?_ _)); exact BK231.out⟩, ⟨by repeat (first | (with_reducible first | exact HB.out | apply below_alloc | apply pw_below_drewN | apply below_drew1 | refine below_set ?_ GE225.out | refine below_set ?_ GE230.out | refine below_set ?_ GE231.out) | exact HB.out)⟩⟩
                    case round =>
                      clear H'
                      try clear c1
                      try clear c2
                      try clear p2
                      try clear c3
                      try clear q3
                      try clear c4
                      try clear c6
                      try clear c6b0
                      try clear c6b1
                      try clear c11
                      try clear c14
                      try clear c15
                      try clear c17
                      try clear c17b0
                      try clear c17b1
                      try clear c17b2
                      try clear c19
                      try clear c20
                      try clear c22
                      try clear c26
                      try clear c26b0
                      try clear c26b1
                      try clear c28
                      try clear c28b0
                      try clear c28b1
                      try clear c29
                      try clear c29b0
                      try clear c29b1
                      try clear q31
                      try clear hcz12_0
                      try clear hcz12_1
                      try clear hcz12_2
                      try clear hcz16_0
                      try clear hcz16_1
                      try clear hcz16_2
                      try clear hcz16_3
                      try clear hcz21_0
                      try clear hcz21_1
                      try clear hcz21_2
                      try clear hcz23_0
                      try clear hcz23_1
                      try clear hcz23_2
                      try clear hcz23_3
                      try clear hcz25_0
                      try clear hcz25_1
                      try clear hcz25_2
                      try clear hcz25_3
                      try clear hfz12_0
                      try clear hfz12_1
                      try clear hfz12_2
                      try clear hfz16_0
                      try clear hfz16_1
                      try clear hfz16_2
                      try clear hfz16_3
                      try clear hfz21_0
                      try clear hfz21_1
                      try clear hfz21_2
                      try clear hfz23_0
                      try clear hfz23_1
                      try clear hfz23_2
                      try clear hfz23_3
                      try clear hfz25_0
                      try clear hfz25_1
                      try clear hfz25_2
                      try clear hfz25_3
                      try clear p2
                      try clear q31
                      obtain ⟨x39_3, x232000_3, x232001_3, x232002_3, x232003_3, rfl, HA, HK3, HO_1, HO_37, BK225, BK230, BK231, HB⟩ := hrel
                      cases gk with
                      | zero => exact absurd HA.out (by simp [sponge_Hash.l1])
                      | succ k3 =>
                        have H := HA.out
                        clear HA
                        simp only [sponge_Hash.l1] at H
                        by_cases c32 : x39_3 < (y236.length : Int)
                        · rw [if_pos c32] at H
                          have c32b0 : decide (x39_3 < (y236.length : Int)) = true := decide_eq_true c32
                          clear c32
                          by_cases c33 : 0 ≤ x39_3
                          · rw [if_pos c33] at H
                            have c33b0 : decide (0 ≤ x39_3) = true := decide_eq_true c33
                            clear c33
                            by_cases c34 : x39_3 < (y236.length : Int)
                            · rw [if_pos c34] at H
                              have c34b0 : decide (x39_3 < (y236.length : Int)) = true := decide_eq_true c34
                              clear c34
                              by_cases c35 : x39_3 < 4
                              · rw [if_pos c35] at H
                                have c35b0 := eq_true c35
                                have c35b1 : decide (x39_3 < 4) = true := decide_eq_true c35
                                clear c35
                                by_cases c36 : t227 = 0
                                · rw [if_pos c36] at H
                                  exact absurd H (by simp)
                                · rw [if_neg c36] at H
                                  have c36b0 : (t227 == 0) = false := beq_eq_false_iff_ne.mpr c36
                                  have c36b1 : (t227 != 0) = true := bne_iff_ne.mpr c36
                                  have H' := Aside0.mk H
                                  clear H
                                  have p241 : 0 ≤ (x39_3 : Int) := of_decide_eq_true (by first | (with_reducible assumption) | assumption)
                                  have q241 : x39_3 < (y236.length : Int) := of_decide_eq_true (by first | (with_reducible assumption) | assumption)
                                  obtain ⟨ad241, e241, hx241_0⟩ := Kd.at_int (Kd.V_reads' HO_37.out).2.2 x39_3 p241 q241
                                  cases e241
                                  replace p241 := eq_true p241
                                  replace q241 := eq_true q241
                                  try go_wp2
                                  have n0_ := Aside0.mk (Kd.V_drew HO_1.out)
                                  have n1_ := Aside0.mk (Kd.V_drew HO_37.out)
                                  have n2_ := Aside0.mk (blk_drew BK225.out)
                                  have n3_ := Aside0.mk (blk_drew BK230.out)
                                  have n4_ := Aside0.mk (blk_drew BK231.out)
                                  have n5_ := Aside0.mk (below_drew1 HB.out)
                                  clear HO_1
                                  clear HO_37
                                  clear BK225
                                  clear BK230
                                  clear BK231
                                  clear HB
                                  have HO_1 := n0_
                                  have HO_37 := n1_
                                  have BK225 := n2_
                                  have BK230 := n3_
                                  have BK231 := n4_
                                  have HB := n5_
                                  clear n0_ n1_ n2_ n3_ n4_ n5_
                                  have hlt38 : (x39_3 < 4) = True := eq_true (of_decide_eq_true (by first | (with_reducible assumption) | assumption))
                                  have hge39 : (0 ≤ x39_3) = True := eq_true (of_decide_eq_true (by first | (with_reducible assumption) | assumption))
                                  have hlt42 : (x39_3 < 4) = True := eq_true (of_decide_eq_true (by first | (with_reducible assumption) | assumption))
                                  have hge43 : (0 ≤ x39_3) = True := eq_true (of_decide_eq_true (by first | (with_reducible assumption) | assumption))
                                  refine start_ (n := 14) (S := fun w' => w'.cell? ⟨gb230, 0, none⟩ = some (.int .u64 t227) ∧ w'.cell? ⟨gb230, 1, none⟩ = some (.int .u64 t228) ∧ w'.cell? ⟨gb230, 2, none⟩ = some (.bool t229) ∧ w'.cell? ⟨gb231, (x39_3).toNat, none⟩ = some (.int .u64 (rd ([x232000_3, x232001_3, x232002_3, x232003_3] : List Int) x39_3))) (ds := [13]) #[false, false, false, false, false, false, false, false, false, false, false, false, false, false] (by kernel_rfl) rfl rfl ⟨(blk_cell BK230.out 0).trans rfl, (blk_cell BK230.out 1).trans rfl, (blk_cell BK230.out 2).trans rfl, (sel_at (pre := []) (l := ([x232000_3, x232001_3, x232002_3, x232003_3] : List Int)) (post := []) BK231.out rfl (by simp) (of_decide_eq_true (by first | (with_reducible assumption) | assumption)) (of_decide_eq_true (by first | (with_reducible assumption) | assumption)))⟩ (fun hHeld => ?_); refine with_tabW sponge_Hash.tab12 sponge_Hash.bits12 (fun HT_ HW_ => ?_)
                                  generalize wr.drew = w37 at HO_1 HO_37 BK225 BK230 BK231 HB hHeld ⊢
                                  refine pure_ (i := 0) (N := some 44) (v := ?_) (a' := ?_) #[true, false, false, false, false, false, false, false, false, false, false, false, false, false] rfl rfl (any_of HT_.out (by kernel_rfl)) (fun _ _ _ h => h) (Or.inl ⟨by rfl, ?_⟩) ?_ ?_
                                  rotate_left
                                  · intro w'
                                    go_simp
                                    with_reducible rfl
                                  rotate_left
                                  · simp only [Act.put, List.setIfInBounds_toArray, List.set_cons_zero, List.set_cons_succ, i64_w, i32_w]
                                    rfl
                                  refine pure_ (i := 1) (N := some 45) (v := ?_) (a' := ?_) #[true, true, false, false, false, false, false, false, false, false, false, false, false, false] rfl rfl (any_of HT_.out (by kernel_rfl)) (fun _ _ _ h => h) (Or.inl ⟨by rfl, ?_⟩) ?_ ?_
                                  rotate_left
                                  · intro w'
                                    go_simp
                                    with_reducible rfl
                                  rotate_left
                                  · simp only [Act.put, List.setIfInBounds_toArray, List.set_cons_zero, List.set_cons_succ, i64_w, i32_w]
                                    rfl
                                  refine pure_ (i := 2) (N := some 46) (v := ?_) (a' := ?_) #[true, true, true, false, false, false, false, false, false, false, false, false, false, false] rfl rfl (any_of HT_.out (by kernel_rfl)) (fun _ _ _ h => h) (Or.inl ⟨by rfl, ?_⟩) ?_ ?_
                                  rotate_left
                                  · intro w'
                                    go_simp
                                    with_reducible rfl
                                  rotate_left
                                  · simp only [Act.put, List.setIfInBounds_toArray, List.set_cons_zero, List.set_cons_succ, i64_w, i32_w]
                                    rfl
                                  refine pure_ (i := 4) (N := some 48) (v := ?_) (a' := ?_) #[true, true, true, false, true, false, false, false, false, false, false, false, false, false] rfl rfl (any_of HT_.out (by kernel_rfl)) (fun _ _ _ h => h) (Or.inl ⟨by rfl, ?_⟩) ?_ ?_
                                  rotate_left
                                  · intro w'
                                    go_simp
                                    with_reducible rfl
                                  rotate_left
                                  · simp only [Act.put, List.setIfInBounds_toArray, List.set_cons_zero, List.set_cons_succ, i64_w, i32_w]
                                    rfl
                                  refine pure_ (i := 5) (N := some 49) (v := ?_) (a' := ?_) #[true, true, true, false, true, true, false, false, false, false, false, false, false, false] rfl rfl (any_of HT_.out (by kernel_rfl)) (fun _ _ _ h => h) (Or.inl ⟨by rfl, ?_⟩) ?_ ?_
                                  rotate_left
                                  · intro w'
                                    go_simp
                                    with_reducible rfl
                                  rotate_left
                                  · simp only [Act.put, List.setIfInBounds_toArray, List.set_cons_zero, List.set_cons_succ, i64_w, i32_w]
                                    rfl
                                  refine pure_ (i := 9) (N := some 53) (v := ?_) (a' := ?_) #[true, true, true, false, true, true, false, false, false, true, false, false, false, false] rfl rfl (any_of HT_.out (by kernel_rfl)) (fun _ _ _ h => h) (Or.inl ⟨by rfl, ?_⟩) ?_ ?_
                                  rotate_left
                                  · intro w'
                                    go_simp
                                    with_reducible rfl
                                  rotate_left
                                  · simp only [Act.put, List.setIfInBounds_toArray, List.set_cons_zero, List.set_cons_succ, i64_w, i32_w]
                                    rfl
                                  refine take_ (i := 3) (N := some 47) (v := ?_) (a' := ?_) #[true, true, true, true, true, true, false, false, false, true, false, false, false, false] rfl rfl (take_ofW HT_.out HW_.out (by kernel_rfl)) (fun _ _ _ h => h) (Or.inl ⟨by rfl, ?_⟩) hHeld ?_ ?_
                                  rotate_left
                                  · rintro w' ⟨s0, s1, s2, s3⟩
                                    go_simp
                                    with_reducible rfl
                                  rotate_left
                                  · simp only [Act.put, List.setIfInBounds_toArray, List.set_cons_zero, List.set_cons_succ, i64_w, i32_w]
                                    rfl
                                  refine take_ (i := 6) (N := some 50) (v := ?_) (a' := ?_) #[true, true, true, true, true, true, true, false, false, true, false, false, false, false] rfl rfl (take_ofW HT_.out HW_.out (by kernel_rfl)) (fun _ _ _ h => h) (Or.inl ⟨by rfl, ?_⟩) hHeld ?_ ?_
                                  rotate_left
                                  · rintro w' ⟨s0, s1, s2, s3⟩
                                    go_simp
                                    with_reducible rfl
                                  rotate_left
                                  · simp only [Act.put, List.setIfInBounds_toArray, List.set_cons_zero, List.set_cons_succ, i64_w, i32_w]
                                    rfl
                                  refine pure_ (i := 7) (N := some 51) (v := ?_) (a' := ?_) #[true, true, true, true, true, true, true, true, false, true, false, false, false, false] rfl rfl (any_of HT_.out (by kernel_rfl)) (fun _ _ _ h => h) (Or.inl ⟨by rfl, ?_⟩) ?_ ?_
                                  rotate_left
                                  · intro w'
                                    go_simp
                                    with_reducible rfl
                                  rotate_left
                                  · simp only [Act.put, List.setIfInBounds_toArray, List.set_cons_zero, List.set_cons_succ, i64_w, i32_w]
                                    rfl
                                  refine pure_ (i := 8) (N := some 52) (v := ?_) (a' := ?_) #[true, true, true, true, true, true, true, true, true, true, false, false, false, false] rfl rfl (any_of HT_.out (by kernel_rfl)) (fun _ _ _ h => h) (Or.inl ⟨by rfl, ?_⟩) ?_ ?_
                                  rotate_left
                                  · intro w'
                                    go_simp
                                    with_reducible rfl
                                  rotate_left
                                  · simp only [Act.put, List.setIfInBounds_toArray, List.set_cons_zero, List.set_cons_succ, i64_w, i32_w]
                                    rfl
                                  refine take_ (i := 10) (N := some 54) (v := ?_) (a' := ?_) #[true, true, true, true, true, true, true, true, true, true, true, false, false, false] rfl rfl (take_ofW HT_.out HW_.out (by kernel_rfl)) (fun _ _ _ h => h) (Or.inl ⟨by rfl, ?_⟩) hHeld ?_ ?_
                                  rotate_left
                                  · rintro w' ⟨s0, s1, s2, s3⟩
                                    go_simp
                                    with_reducible rfl
                                  rotate_left
                                  · simp only [Act.put, List.setIfInBounds_toArray, List.set_cons_zero, List.set_cons_succ, i64_w, i32_w]
                                    rfl
                                  refine pure_ (i := 11) (N := some 55) (v := ?_) (a' := ?_) #[true, true, true, true, true, true, true, true, true, true, true, true, false, false] rfl rfl (any_of HT_.out (by kernel_rfl)) (fun _ _ _ h => h) (Or.inl ⟨by rfl, ?_⟩) ?_ ?_
                                  rotate_left
                                  · intro w'
                                    go_simp
                                    with_reducible rfl
                                  rotate_left
                                  · simp only [Act.put, List.setIfInBounds_toArray, List.set_cons_zero, List.set_cons_succ, i64_w, i32_w]
                                    rfl
                                  refine pure_ (i := 12) (N := some 56) (v := ?_) (a' := ?_) #[true, true, true, true, true, true, true, true, true, true, true, true, true, false] rfl rfl (any_of HT_.out (by kernel_rfl)) (fun _ _ _ h => h) (Or.inl ⟨by rfl, ?_⟩) ?_ ?_
                                  rotate_left
                                  · intro w'
                                    go_simp
                                    with_reducible rfl
                                  rotate_left
                                  · simp only [Act.put, List.setIfInBounds_toArray, List.set_cons_zero, List.set_cons_succ, i64_w, i32_w]
                                    rfl
                                  refine last_ (i := 13) (N := none) #[true, true, true, true, true, true, true, true, true, true, true, true, true, true] rfl rfl (one_of HT_.out (by kernel_rfl)) (by decide) (fun K hK => ?_)
                                  have hsv40 : w37.cell? ⟨gb231, (x39_3).toNat, none⟩ = some (.int .u64 (rd ([x232000_3, x232001_3, x232002_3, x232003_3] : List Int) x39_3)) := (sel_at (pre := []) (l := ([x232000_3, x232001_3, x232002_3, x232003_3] : List Int)) (post := []) BK231.out rfl (by simp) (of_decide_eq_true (by first | (with_reducible assumption) | assumption)) (of_decide_eq_true (by first | (with_reducible assumption) | assumption)))
                                  have hfv41 := blk_frozen BK231.out ((x39_3).toNat)
                                  have hns44_0 := NB225_231.out
                                  have hns44_1 := NB230_231.out
                                  have hms44_0 := NB231_225.out
                                  have hms44_1 := NB231_230.out
                                  refine skip_ (w1 := ?_) (by rfl) rfl ?_ ?_
                                  rotate_left
                                  · go_simp
                                    rfl
                                  refine hK.out _ _ ?_
                                  clear hK K
                                  refine done_ (done_of HT_.out (by kernel_rfl)) ?_
                                  try go_wp2
                                  go_roundg k3
                                  case measure => have := HJ6.out; have := HK2.out; have := HK3.out; omega
                                  case rel => exact ⟨(wrap64 (x39_3 + 1)), ((updv x232000_3 0 x39_3 (Int.tmod (IntKind.u64.wrap ((rd ([x232000_3, x232001_3, x232002_3, x232003_3] : List Int) x39_3) + (Int.tmod (rd y236 x39_3) t227))) t227))), ((updv x232001_3 1 x39_3 (Int.tmod (IntKind.u64.wrap ((rd ([x232000_3, x232001_3, x232002_3, x232003_3] : List Int) x39_3) + (Int.tmod (rd y236 x39_3) t227))) t227))), ((updv x232002_3 2 x39_3 (Int.tmod (IntKind.u64.wrap ((rd ([x232000_3, x232001_3, x232002_3, x232003_3] : List Int) x39_3) + (Int.tmod (rd y236 x39_3) t227))) t227))), ((updv x232003_3 3 x39_3 (Int.tmod (IntKind.u64.wrap ((rd ([x232000_3, x232001_3, x232002_3, x232003_3] : List Int) x39_3) + (Int.tmod (rd y236 x39_3) t227))) t227))), (by first | rfl | (simp; done) | (simp [*]; done) | (simp; rfl) | (simp; decide +kernel)), H', ⟨by have := HJ6.out; have := HK2.out; have := HK3.out; omega⟩, ⟨by (with_reducible repeat (first | apply Kd.V_alloc | apply Kd.V_drewN | apply Kd.V_drew)); exact Kd.V_mono (Kd.V_far (p := ⟨gb231, (x39_3).toNat, none⟩) (Kd.V_mono HO_1.out (fun k_ hk => (⟨hk, hk.2.2.2⟩ : _ ∧ k_ ≠ gb231))) (fun _ hk => hk.2) (.int .u64 (Int.tmod (IntKind.u64.wrap ((rd ([x232000_3, x232001_3, x232002_3, x232003_3] : List Int) x39_3) + (Int.tmod (rd y236 x39_3) t227))) t227))) (fun _ hk => ⟨hk.1.1, ⟨hk.1.2.1, ⟨hk.1.2.2.1, hk.1.2.2.2⟩⟩⟩)⟩, ⟨by (with_reducible repeat (first | apply Kd.V_alloc | apply Kd.V_drewN | apply Kd.V_drew)); exact Kd.V_mono (Kd.V_far (p := ⟨gb231, (x39_3).toNat, none⟩) (Kd.V_mono HO_37.out (fun k_ hk => (⟨hk, hk.2.2.2⟩ : _ ∧ k_ ≠ gb231))) (fun _ hk => hk.2) (.int .u64 (Int.tmod (IntKind.u64.wrap ((rd ([x232000_3, x232001_3, x232002_3, x232003_3] : List Int) x39_3) + (Int.tmod (rd y236 x39_3) t227))) t227))) (fun _ hk => ⟨hk.1.1, ⟨hk.1.2.1, ⟨hk.1.2.2.1, hk.1.2.2.2⟩⟩⟩)⟩, ⟨by (with_reducible repeat (first | refine blk_drewN ?_ _ | refine blk_drew ?_ | refine blk_alloc ?_ _)); refine blk_far ?_ NB225_231.out _; (with_reducible repeat (first | refine blk_drewN ?_ _ | refine blk_drew ?_ | refine blk_alloc ?_ _)); exact BK225.out⟩, ⟨by (with_reducible repeat (first | refine blk_drewN ?_ _ | refine blk_drew ?_ | refine blk_alloc ?_ _)); refine blk_far ?_ NB230_231.out _; (with_reducible repeat (first | refine blk_drewN ?_ _ | refine blk_drew ?_ | refine blk_alloc ?_ _)); exact BK230.out⟩, ⟨by (with_reducible repeat (first | refine blk_drewN ?_ _ | refine blk_drew ?_ | refine blk_alloc ?_ _)); refine sel_put (pre := []) (l := ([x232000_3, x232001_3, x232002_3, x232003_3] : List Int)) (post := []) ?_ rfl rfl (by simp) (of_decide_eq_true (by first | (with_reducible assumption) | assumption)) (of_decide_eq_true (by first | (with_reducible assumption) | assumption)); (with_reducible repeat (first | refine blk_drewN ?_ _ | refine blk_drew ?_ | refine blk_alloc ?_ _)); exact BK231.out⟩, ⟨by repeat (first | (with_reducible first | exact HB.out | apply below_alloc | apply pw_below_drewN | apply below_drew1 | refine below_set ?_ GE225.out | refine below_set ?_ GE230.out | refine below_set ?_ GE231.out) | exact HB.out)⟩⟩
                              · rw [if_neg c35] at H
                                exact absurd H (by simp)
                            · rw [if_neg c34] at H
                              exact absurd H (by simp)
                          · rw [if_neg c33] at H
                            exact absurd H (by simp)
                        · rw [if_neg c32] at H
                          have c32b0 : decide (x39_3 < (y236.length : Int)) = false := decide_eq_false c32
                          clear c32
                          replace H := Option.bind_eq_some_iff.mp H
                          obtain ⟨⟨t242, t243, t244, t245⟩, A450, H⟩ := H
                          replace H : (if 0 ≤ ji27 then (if ji27 ≤ (x1_2.length : Int) then (sponge_Hash.l0 k3 (x1_2.drop (ji27 : Int).toNat) t227 t228 t229 t242 t243 t244 t245) else (none)) else (none)) = some (r1, r2) := H
                          have A45 := Aside0.mk A450
                          clear A450
                          by_cases c46 : 0 ≤ ji27
                          · rw [if_pos c46] at H
                            have c46b0 := eq_true c46
                            have c46b1 : decide (0 ≤ ji27) = true := decide_eq_true c46
                            clear c46
                            by_cases c47 : ji27 ≤ (x1_2.length : Int)
                            · rw [if_pos c47] at H
                              have c47b0 := eq_true c47
                              have c47b1 : decide (ji27 ≤ (x1_2.length : Int)) = true := decide_eq_true c47
                              clear c47
                              obtain ⟨y246, hy246⟩ : ∃ y_ : List Int, y_ = (x1_2.drop (ji27 : Int).toNat) := ⟨_, rfl⟩
                              replace H : (sponge_Hash.l0 k3 y246 t227 t228 t229 t242 t243 t244 t245) = some (r1, r2) := by first | (rw [hy246]; with_reducible exact H) | (have H2_ := (Option.bind_some _ _).symm.trans H; rw [hy246]; with_reducible exact H2_) | (have H2_ := (Option.bind_some _ _).symm.trans H; with_reducible exact H2_) | with_reducible exact H | (rw [hy246]; exact H) | exact H
                              have Ny246 := Aside0.mk hy246
                              clear hy246
                              have H' := Aside0.mk H
                              clear H
                              have hnb48 := NB230_225.out
                              have hnc48 := NB225_230.out
                              have hnb49 := NB230_231.out
                              have hnc49 := NB231_230.out
                              have hcz50_0 : wr.cell? ⟨gb230, 0, none⟩ = some (.int .u64 t227) := (blk_cell BK230.out 0).trans rfl
                              have hcz50_1 : wr.cell? ⟨gb230, 1, none⟩ = some (.int .u64 t228) := (blk_cell BK230.out 1).trans rfl
                              have hcz50_2 : wr.cell? ⟨gb230, 2, none⟩ = some (.bool t229) := (blk_cell BK230.out 2).trans rfl
                              have hfz50_0 := blk_frozen BK230.out 0
                              have hfz50_1 := blk_frozen BK230.out 1
                              have hfz50_2 := blk_frozen BK230.out 2
                              have hnb51 := NB231_225.out
                              have hnc51 := NB225_231.out
                              have hcz52_0 : wr.cell? ⟨gb231, 0, none⟩ = some (.int .u64 x232000_3) := (blk_cell BK231.out 0).trans rfl
                              have hcz52_1 : wr.cell? ⟨gb231, 1, none⟩ = some (.int .u64 x232001_3) := (blk_cell BK231.out 1).trans rfl
                              have hcz52_2 : wr.cell? ⟨gb231, 2, none⟩ = some (.int .u64 x232002_3) := (blk_cell BK231.out 2).trans rfl
                              have hcz52_3 : wr.cell? ⟨gb231, 3, none⟩ = some (.int .u64 x232003_3) := (blk_cell BK231.out 3).trans rfl
                              have hfz52_0 := blk_frozen BK231.out 0
                              have hfz52_1 := blk_frozen BK231.out 1
                              have hfz52_2 := blk_frozen BK231.out 2
                              have hfz52_3 := blk_frozen BK231.out 3
                              go_wp2_with (first | ((with_reducible refine gate_callee (f := 39) rfl ?_); refine goesL_ (some 60) rfl rfl Tryd.func39 (by kernel_rfl) rfl #[.agg #[.int .u64 t227, .int .u64 t228, .bool t229], .agg #[.int .u64 x232000_3, .int .u64 x232001_3, .int .u64 x232002_3, .int .u64 x232003_3]] rfl (by (try simp only [List.map_toArray, List.map_cons, List.map_nil]); first | done | rfl | (simp only [List.length_drop, List.length_take]; rfl) | (go_simp; done) | (go_simp; rw [Int.tmod_eq_emod_of_nonneg (by omega)]; omega)) ?_; (with_reducible refine (sponge_mixer_perm.calls k3 t227 t228 t229 x232000_3 x232001_3 x232002_3 x232003_3 t242 t243 t244 t245 _ A45.out).mono ?_); rintro e w53 ⟨rfl, hb⟩; refine ⟨_, rfl, ?_⟩; have n0_ := Aside0.mk (Kd.V_below (by (with_reducible repeat (first | apply Kd.V_alloc | apply Kd.V_drewN | apply Kd.V_drew)); exact HO_1.out) hb); have n1_ := Aside0.mk (Kd.V_below (by (with_reducible repeat (first | apply Kd.V_alloc | apply Kd.V_drewN | apply Kd.V_drew)); exact HO_37.out) hb); have n2_ := Aside0.mk (blk_below (g := gb225) (o := .cells #[.int .u64 0, .int .u64 0] 49 (0, 0)) (by (with_reducible repeat (first | refine blk_drewN ?_ _ | refine blk_drew ?_ | refine blk_alloc ?_ _)); exact BK225.out) hb); have n3_ := Aside0.mk (blk_below (g := gb230) (o := .cells #[.int .u64 t227, .int .u64 t228, .bool t229] 62 (0, 0)) (by (with_reducible repeat (first | refine blk_drewN ?_ _ | refine blk_drew ?_ | refine blk_alloc ?_ _)); exact BK230.out) hb); have n4_ := Aside0.mk (blk_below (g := gb231) (o := .cells #[.int .u64 x232000_3, .int .u64 x232001_3, .int .u64 x232002_3, .int .u64 x232003_3] 64 (0, 0)) (by (with_reducible repeat (first | refine blk_drewN ?_ _ | refine blk_drew ?_ | refine blk_alloc ?_ _)); exact BK231.out) hb); have n5_ := Aside0.mk (below_step (by repeat (first | (with_reducible first | exact HB.out | apply below_alloc | apply pw_below_drewN | apply below_drew1 | refine below_set ?_ GE225.out | refine below_set ?_ GE230.out | refine below_set ?_ GE231.out) | exact HB.out)) hb); clear HO_1; clear HO_37; clear BK225; clear BK230; clear BK231; clear HB; have HO_1 := n0_; have HO_37 := n1_; have BK225 := n2_; have BK230 := n3_; have BK231 := n4_; have HB := n5_; clear n0_ n1_ n2_ n3_ n4_ n5_; (try clear hb); (try clear hb2); (try clear hk); (try clear hi); have hcz54_0 : w53.cell? ⟨gb231, 0, none⟩ = some (.int .u64 x232000_3) := (blk_cell BK231.out 0).trans rfl; have hcz54_1 : w53.cell? ⟨gb231, 1, none⟩ = some (.int .u64 x232001_3) := (blk_cell BK231.out 1).trans rfl; have hcz54_2 : w53.cell? ⟨gb231, 2, none⟩ = some (.int .u64 x232002_3) := (blk_cell BK231.out 2).trans rfl; have hcz54_3 : w53.cell? ⟨gb231, 3, none⟩ = some (.int .u64 x232003_3) := (blk_cell BK231.out 3).trans rfl; have hfz54_0 := blk_frozen BK231.out 0; have hfz54_1 := blk_frozen BK231.out 1; have hfz54_2 := blk_frozen BK231.out 2; have hfz54_3 := blk_frozen BK231.out 3) | ((with_reducible refine gate_store (t := 64) (p := 6) rfl ?_); refine store_event (t := 64) (p := 6) (v := ?vo_w55) (w1 := ((((w53.setCell ⟨gb231, 0, none⟩ (.int .u64 t242)).setCell ⟨gb231, 1, none⟩ (.int .u64 t243)).setCell ⟨gb231, 2, none⟩ (.int .u64 t244)).setCell ⟨gb231, 3, none⟩ (.int .u64 t245))) ?hg ?ho ?hn ?hr ?_; (case ho => rfl); (case hg => rfl); (case hn => rfl); (case hr => first | (go_simp; done) | (go_simp; rfl)); intro w55 hw; have n0_ : Aside0 (Kd.V (Kd.int .u64) 47 w55 w.heap.size (fun k_ => (P1_ k_ ∨ w.heap.size ≤ k_) ∧ k_ ≠ gb225 ∧ k_ ≠ gb230 ∧ k_ ≠ gb231) (.slice Ao30 x1_2.length co30) x1_2) := ⟨(by rw [hw]; exact (by (with_reducible repeat (first | apply Kd.V_alloc | apply Kd.V_drewN | apply Kd.V_drew)); exact Kd.V_mono (Kd.V_far (p := ⟨gb231, 3, none⟩) (Kd.V_far (p := ⟨gb231, 2, none⟩) (Kd.V_far (p := ⟨gb231, 1, none⟩) (Kd.V_far (p := ⟨gb231, 0, none⟩) (Kd.V_mono HO_1.out (fun k_ hk => (⟨hk, hk.2.2.2⟩ : _ ∧ k_ ≠ gb231))) (fun _ hk => hk.2) (.int .u64 t242)) (fun _ hk => hk.2) (.int .u64 t243)) (fun _ hk => hk.2) (.int .u64 t244)) (fun _ hk => hk.2) (.int .u64 t245)) (fun _ hk => ⟨hk.1.1, ⟨hk.1.2.1, ⟨hk.1.2.2.1, hk.1.2.2.2⟩⟩⟩)))⟩; have n1_ : Aside0 (Kd.V (Kd.int .u64) 47 w55 w.heap.size (fun k_ => (P1_ k_ ∨ w.heap.size ≤ k_) ∧ k_ ≠ gb225 ∧ k_ ≠ gb230 ∧ k_ ≠ gb231) (.slice Ao30 y236.length co30) y236) := ⟨(by rw [hw]; exact (by (with_reducible repeat (first | apply Kd.V_alloc | apply Kd.V_drewN | apply Kd.V_drew)); exact Kd.V_mono (Kd.V_far (p := ⟨gb231, 3, none⟩) (Kd.V_far (p := ⟨gb231, 2, none⟩) (Kd.V_far (p := ⟨gb231, 1, none⟩) (Kd.V_far (p := ⟨gb231, 0, none⟩) (Kd.V_mono HO_37.out (fun k_ hk => (⟨hk, hk.2.2.2⟩ : _ ∧ k_ ≠ gb231))) (fun _ hk => hk.2) (.int .u64 t242)) (fun _ hk => hk.2) (.int .u64 t243)) (fun _ hk => hk.2) (.int .u64 t244)) (fun _ hk => hk.2) (.int .u64 t245)) (fun _ hk => ⟨hk.1.1, ⟨hk.1.2.1, ⟨hk.1.2.2.1, hk.1.2.2.2⟩⟩⟩)))⟩; have n2_ : Aside0 (w55.heap[gb225]? = some (.cells #[.int .u64 0, .int .u64 0] 49 (0, 0))) := ⟨(by rw [hw]; exact (by (with_reducible repeat (first | refine blk_drewN ?_ _ | refine blk_drew ?_ | refine blk_alloc ?_ _)); refine blk_far ?_ NB225_231.out _; (with_reducible repeat (first | refine blk_drewN ?_ _ | refine blk_drew ?_ | refine blk_alloc ?_ _)); refine blk_far ?_ NB225_231.out _; (with_reducible repeat (first | refine blk_drewN ?_ _ | refine blk_drew ?_ | refine blk_alloc ?_ _)); refine blk_far ?_ NB225_231.out _; (with_reducible repeat (first | refine blk_drewN ?_ _ | refine blk_drew ?_ | refine blk_alloc ?_ _)); refine blk_far ?_ NB225_231.out _; (with_reducible repeat (first | refine blk_drewN ?_ _ | refine blk_drew ?_ | refine blk_alloc ?_ _)); exact BK225.out))⟩; have n3_ : Aside0 (w55.heap[gb230]? = some (.cells #[.int .u64 t227, .int .u64 t228, .bool t229] 62 (0, 0))) := ⟨(by rw [hw]; exact (by (with_reducible repeat (first | refine blk_drewN ?_ _ | refine blk_drew ?_ | refine blk_alloc ?_ _)); refine blk_far ?_ NB230_231.out _; (with_reducible repeat (first | refine blk_drewN ?_ _ | refine blk_drew ?_ | refine blk_alloc ?_ _)); refine blk_far ?_ NB230_231.out _; (with_reducible repeat (first | refine blk_drewN ?_ _ | refine blk_drew ?_ | refine blk_alloc ?_ _)); refine blk_far ?_ NB230_231.out _; (with_reducible repeat (first | refine blk_drewN ?_ _ | refine blk_drew ?_ | refine blk_alloc ?_ _)); refine blk_far ?_ NB230_231.out _; (with_reducible repeat (first | refine blk_drewN ?_ _ | refine blk_drew ?_ | refine blk_alloc ?_ _)); exact BK230.out))⟩; have n4_ : Aside0 (w55.heap[gb231]? = some (.cells #[.int .u64 t242, .int .u64 t243, .int .u64 t244, .int .u64 t245] 64 (0, 0))) := ⟨(by rw [hw]; exact (by (with_reducible repeat (first | refine blk_drewN ?_ _ | refine blk_drew ?_ | refine blk_alloc ?_ _)); refine blk_put (cs := #[.int .u64 t242, .int .u64 t243, .int .u64 t244, .int .u64 x232003_3]) ?_ 3 _ rfl; (with_reducible repeat (first | refine blk_drewN ?_ _ | refine blk_drew ?_ | refine blk_alloc ?_ _)); refine blk_put (cs := #[.int .u64 t242, .int .u64 t243, .int .u64 x232002_3, .int .u64 x232003_3]) ?_ 2 _ rfl; (with_reducible repeat (first | refine blk_drewN ?_ _ | refine blk_drew ?_ | refine blk_alloc ?_ _)); refine blk_put (cs := #[.int .u64 t242, .int .u64 x232001_3, .int .u64 x232002_3, .int .u64 x232003_3]) ?_ 1 _ rfl; (with_reducible repeat (first | refine blk_drewN ?_ _ | refine blk_drew ?_ | refine blk_alloc ?_ _)); refine blk_put (cs := #[.int .u64 x232000_3, .int .u64 x232001_3, .int .u64 x232002_3, .int .u64 x232003_3]) ?_ 0 _ rfl; (with_reducible repeat (first | refine blk_drewN ?_ _ | refine blk_drew ?_ | refine blk_alloc ?_ _)); exact BK231.out))⟩; have n5_ : Aside0 (Below w.heap.size w w55) := ⟨(by rw [hw]; exact (by repeat (first | (with_reducible first | exact HB.out | apply below_alloc | apply pw_below_drewN | apply below_drew1 | refine below_set ?_ GE225.out | refine below_set ?_ GE230.out | refine below_set ?_ GE231.out) | exact HB.out)))⟩; clear hw; clear HO_1; clear HO_37; clear BK225; clear BK230; clear BK231; clear HB; have HO_1 := n0_; have HO_37 := n1_; have BK225 := n2_; have BK230 := n3_; have BK231 := n4_; have HB := n5_; clear n0_ n1_ n2_ n3_ n4_ n5_; have q56 : (ji27 : Int) ≤ ((x1_2.length : Int) : Int) := of_decide_eq_true (by first | (with_reducible assumption) | assumption); obtain ⟨i056, hi056, _, hsz56, _⟩ := info_parts info47; have hroom56 : x1_2.length ≤ co30 := (Kd.V_reads' HO_1.out).2.1; have hC56 : Kd.F (Kd.int .u64) _ _ Ao30 x1_2.length x1_2 := (Kd.V_at (base := w.heap.size) HO_1.out).2.2; have q056 : (0 : Int) ≤ (ji27 : Int) := of_decide_eq_true (by first | (with_reducible assumption) | assumption); have hcut56 := cut_from (P := Tryd.prog) 56 47 .i64 Tryd.underlying56 hi056 1 hsz56 Ao30 x1_2.length co30 ji27 q056 q56; have hr56 := Kd.F_cut (m := (ji27 : Int).toNat) (c := co30) hC56 (by omega) hroom56; obtain ⟨A56, hA56⟩ : ∃ A1, A1 = (if co30 = (ji27 : Int).toNat then Ao30 else (Ao30 : Option Addr).map (·.add ((ji27 : Int).toNat * 1))) := ⟨_, rfl⟩; obtain ⟨c56, hc56⟩ : ∃ c1, c1 = co30 - (ji27 : Int).toNat := ⟨_, rfl⟩; have hy56 : y246.length = x1_2.length - (ji27 : Int).toNat := (by rw [Ny246.out, List.length_drop] <;> omega); rw [show (x1_2).drop (ji27 : Int).toNat = y246 from Ny246.out.symm] at hr56; replace hr56 : Kd.F (Kd.int .u64) _ _ A56 y246.length y246 := (by rw [hA56]; exact hr56); rw [← hy56, ← hA56, ← hc56] at hcut56; have HO250 := Aside0.mk (show Kd.V (Kd.int .u64) 47 _ w.heap.size _ (.slice A56 y246.length c56) y246 from Kd.V_mk (by rw [hy56, hc56]; exact Nat.sub_le_sub_right hroom56 _) hr56); have HC250 := Aside0.mk (show y246.length ≤ c56 from by rw [hy56, hc56]; exact Nat.sub_le_sub_right hroom56 _); clear hr56 hC56 hroom56 hi056 hsz56 hc56; have KY56 := Aside0.mk hy56; have KA56 := Aside0.mk hA56; clear hy56 hA56; replace q56 := eq_true q56))
                              go_roundg k3
                              case measure => have := HJ6.out; have := HK2.out; have := HK3.out; omega
                              case rel => exact ⟨(y246), (t242), (t243), (t244), (t245), H', ⟨by have := HJ6.out; have := HK2.out; have := HK3.out; omega⟩, ⟨by (with_reducible repeat (first | apply Kd.V_alloc | apply Kd.V_drewN | apply Kd.V_drew)); exact HO250.out⟩, ⟨by (with_reducible repeat (first | refine blk_drewN ?_ _ | refine blk_drew ?_ | refine blk_alloc ?_ _)); exact BK225.out⟩, ⟨by (with_reducible repeat (first | refine blk_drewN ?_ _ | refine blk_drew ?_ | refine blk_alloc ?_ _)); exact BK230.out⟩, ⟨by (with_reducible repeat (first | refine blk_drewN ?_ _ | refine blk_drew ?_ | refine blk_alloc ?_ _)); exact BK231.out⟩, ⟨by repeat (first | (with_reducible first | exact HB.out | apply below_alloc | apply pw_below_drewN | apply below_drew1 | refine below_set ?_ GE225.out | refine below_set ?_ GE230.out | refine below_set ?_ GE231.out) | exact HB.out)⟩⟩
                            · rw [if_neg c47] at H
                              exact absurd H (by simp)
                          · rw [if_neg c46] at H
                            exact absurd H (by simp)
                  · rw [if_neg c29] at H
                    exact absurd H (by simp)
                · rw [if_neg c28] at H
                  exact absurd H (by simp)
              · rw [if_neg c26] at H
                have c26b0 : decide (0 < (x1_2.length : Int)) = false := decide_eq_false c26
                have c26b1 : decide (0 < x1_2.length) = false := decide_eq_false (by omega)
                clear c26
                simp only [Option.some.injEq, Prod.mk.injEq] at H
                obtain ⟨rfl, rfl⟩ := H
                obtain ⟨Ao57, co57, eo57⟩ := Kd.V_slice HO_1.out
                subst eo57
                have hnb58 := NB231_225.out
                have hnc58 := NB225_231.out
                have hnb59 := NB231_230.out
                have hnc59 := NB230_231.out
                have hcz60_0 : wr.cell? ⟨gb231, 0, none⟩ = some (.int .u64 x232000_2) := (blk_cell BK231.out 0).trans rfl
                have hcz60_1 : wr.cell? ⟨gb231, 1, none⟩ = some (.int .u64 x232001_2) := (blk_cell BK231.out 1).trans rfl
                have hcz60_2 : wr.cell? ⟨gb231, 2, none⟩ = some (.int .u64 x232002_2) := (blk_cell BK231.out 2).trans rfl
                have hcz60_3 : wr.cell? ⟨gb231, 3, none⟩ = some (.int .u64 x232003_2) := (blk_cell BK231.out 3).trans rfl
                have hfz60_0 := blk_frozen BK231.out 0
                have hfz60_1 := blk_frozen BK231.out 1
                have hfz60_2 := blk_frozen BK231.out 2
                have hfz60_3 := blk_frozen BK231.out 3
                have hnb61 := NB225_230.out
                have hnc61 := NB230_225.out
                have hcz62_0 : wr.cell? ⟨gb225, 0, none⟩ = some (.int .u64 0) := (blk_cell BK225.out 0).trans rfl
                have hcz62_1 : wr.cell? ⟨gb225, 1, none⟩ = some (.int .u64 0) := (blk_cell BK225.out 1).trans rfl
                have hfz62_0 := blk_frozen BK225.out 0
                have hfz62_1 := blk_frozen BK225.out 1
                go_wp2
                refine bodyPost_ret (results_cell_row rfl _ _ gb225 49 #[.int .u64 x232000_2, .int .u64 x232001_2] (0, 0) _ rfl (by (with_reducible repeat (first | refine blk_drewN ?_ _ | refine blk_drew ?_ | refine blk_alloc ?_ _)); refine blk_put (cs := #[.int .u64 x232000_2, .int .u64 0]) ?_ 1 _ rfl; (with_reducible repeat (first | refine blk_drewN ?_ _ | refine blk_drew ?_ | refine blk_alloc ?_ _)); refine blk_put (cs := #[.int .u64 0, .int .u64 0]) ?_ 0 _ rfl; (with_reducible repeat (first | refine blk_drewN ?_ _ | refine blk_drew ?_ | refine blk_alloc ?_ _)); exact BK225.out) Tryd.underlying49 rfl (by kernel_rfl)) rfl ?_
                exact ⟨by first | rfl | (simp [errW_none, errW_some] <;> rfl) | (simp [*, errW_none, errW_some] <;> rfl), by repeat (first | (with_reducible first | exact HB.out | apply below_alloc | apply pw_below_drewN | apply below_drew1 | refine below_set ?_ GE225.out | refine below_set ?_ GE230.out | refine below_set ?_ GE231.out) | exact HB.out)⟩
  · replace c4 := Bool.eq_false_iff.mpr c4
    subst c4
    have H1 : (some (0, 0)) = some (r1, r2) := by rw [if_neg (show ¬ (false = true) by decide)] at H; exact H
    clear H
    have H := H1
    clear H1
    simp only [Option.some.injEq, Prod.mk.injEq] at H
    obtain ⟨rfl, rfl⟩ := H
    go_enter Tryd.func33, Tryd.ntmps33
    go_wp2_with (first | ((with_reducible refine gate_dst (N := 4) rfl ?_); refine box_event ?hg (N := 4) ?hd (cs := #[.int .u64 0, .int .u64 0]) (t := 49) ?hr ?_; (case hd => rfl); (case hg => rfl); (case hr => first | (go_simp; done) | (go_simp; rfl)); intro gb225 hg w63 hbox hb; have n0_ := Aside0.mk (Kd.V_below (Kd.V_elderB (by (with_reducible repeat (first | apply Kd.V_alloc | apply Kd.V_drewN | apply Kd.V_drew)); exact HO1.out) gb225 (Nat.le_of_eq hg.symm)) hb); have n1_ := Aside0.mk (below_step (by repeat (first | (with_reducible first | exact HB.out | apply below_alloc | apply pw_below_drewN | apply below_drew1) | exact HB.out)) hb); have n2_ := Aside0.mk (hbox); have n3_ := Aside0.mk ((by rw [hg]; exact (below_size (by repeat (first | (with_reducible first | exact HB.out | apply below_alloc | apply pw_below_drewN | apply below_drew1) | exact HB.out))) : w.heap.size ≤ gb225)); have n4_ := Aside0.mk ((by rw [hg]; exact (below_size (by repeat (first | (with_reducible first | exact HB.out | apply below_alloc | apply pw_below_drewN | apply below_drew1) | exact HB.out))) : w.heap.size ≤ gb225)); clear HO1; clear HB; have HO1 := n0_; have HB := n1_; have BK225 := n2_; have GW225 := n3_; have GE225 := n4_; clear n0_ n1_ n2_ n3_ n4_; clear hb hbox hg) | ((with_reducible refine gate_callee (f := 37) rfl ?_); refine goesL_ (some 11) rfl rfl Tryd.func37 (by kernel_rfl) rfl #[.int .i64 a0] rfl (by (try simp only [List.map_toArray, List.map_cons, List.map_nil]); first | done | rfl | (simp only [List.length_drop, List.length_take]; rfl) | (go_simp; done) | (go_simp; rw [Int.tmod_eq_emod_of_nonneg (by omega)]; omega)) ?_; (with_reducible refine (field_Valid.calls a0 false _ A3.out).mono ?_); rintro e w' ⟨rfl, ⟨nd, rfl⟩⟩; refine ⟨_, rfl, ?_⟩; (try (rw [drewN_self w63]; generalize hq_ : World.drewN w63 _ = w63; have n0_ : Aside0 (Kd.V (Kd.int .u64) 47 w63 w.heap.size (fun k_ => (P1_ k_ ∨ w.heap.size ≤ k_) ∧ k_ ≠ gb225) (.slice A1 l1.length c1) l1) := ⟨by rw [← hq_]; exact (by (with_reducible repeat (first | apply Kd.V_alloc | apply Kd.V_drewN | apply Kd.V_drew)); exact HO1.out)⟩; have n1_ : Aside0 (w63.heap[gb225]? = some (.cells #[.int .u64 0, .int .u64 0] 49 (0, 0))) := ⟨by rw [← hq_]; exact (by (with_reducible repeat (first | refine blk_drewN ?_ _ | refine blk_drew ?_ | refine blk_alloc ?_ _)); exact BK225.out)⟩; have n2_ : Aside0 (Below w.heap.size w w63) := ⟨by rw [← hq_]; exact (by repeat (first | (with_reducible first | exact HB.out | apply below_alloc | apply pw_below_drewN | apply below_drew1 | refine below_set ?_ GE225.out) | exact HB.out))⟩; clear HO1 BK225 HB hq_; have HO1 := n0_; have BK225 := n1_; have HB := n2_; clear n0_ n1_ n2_)); have hcz64_0 : w63.cell? ⟨gb225, 0, none⟩ = some (.int .u64 0) := (blk_cell BK225.out 0).trans rfl; have hcz64_1 : w63.cell? ⟨gb225, 1, none⟩ = some (.int .u64 0) := (blk_cell BK225.out 1).trans rfl; have hfz64_0 := blk_frozen BK225.out 0; have hfz64_1 := blk_frozen BK225.out 1))
    refine bodyPost_ret (results_cell_row rfl _ _ gb225 49 #[.int .u64 0, .int .u64 0] (0, 0) _ rfl (by (with_reducible repeat (first | refine blk_drewN ?_ _ | refine blk_drew ?_ | refine blk_alloc ?_ _)); refine blk_put (cs := #[.int .u64 0, .int .u64 0]) ?_ 1 _ rfl; (with_reducible repeat (first | refine blk_drewN ?_ _ | refine blk_drew ?_ | refine blk_alloc ?_ _)); refine blk_put (cs := #[.int .u64 0, .int .u64 0]) ?_ 0 _ rfl; (with_reducible repeat (first | refine blk_drewN ?_ _ | refine blk_drew ?_ | refine blk_alloc ?_ _)); exact BK225.out) Tryd.underlying49 rfl (by kernel_rfl)) rfl ?_
    exact ⟨by first | rfl | (simp [errW_none, errW_some] <;> rfl) | (simp [*, errW_none, errW_some] <;> rfl), by repeat (first | (with_reducible first | exact HB.out | apply below_alloc | apply pw_below_drewN | apply below_drew1 | refine below_set ?_ GE225.out) | exact HB.out)⟩

end Go.Proofs.YtamjeglenbokfaaDoor.Q
end
section
namespace Go.Proofs.YtamjeglenbokfaaDoor.Q
open Go.RowKit Go.Proofs.YtamjeglenbokfaaDoorW.PrintWords Go.Proofs.YtamjeglenbokfaaDoorW.PrintLast Go.Proofs.YtamjeglenbokfaaDoorW.PrintMore
open Go.Proofs.YtamjeglenbokfaaDoor.Num
set_option linter.unusedVariables false
set_option linter.unusedSimpArgs false
def I (l : List Nat) : List Int := l.map (fun (n : Nat) => (n : Int))
theorem I_len (l : List Nat) : (I l).length = l.length := by simp [I]
theorem I_rd (l : List Nat) (i : Nat) (h : i < l.length) : rd (I l) (i : Int) = ((l[i] : Nat) : Int) := by simp [rd, I, h]
theorem ints_nat : ∀ l : List Int, (∀ x ∈ l, 0 ≤ x) → ∃ L : List Nat, l = I L
  | [], _ => ⟨[], rfl⟩
  | x :: l, h => by
    obtain ⟨L, hL⟩ := ints_nat l (fun y hy => h y (List.mem_cons_of_mem _ hy))
    obtain ⟨n, rfl⟩ := Int.eq_ofNat_of_zero_le (h x (List.mem_cons_self ..))
    exact ⟨n :: L, by rw [hL]; rfl⟩
def hsh (p g e : Nat) : List Nat → S4 → S4
  | [], s => s
  | [x], s => prm p g e 8 ⟨(s.a + x) % p, s.b, s.c, s.d⟩
  | x :: y :: l, s => hsh p g e l (prm p g e 8 ⟨(s.a + x) % p, (s.b + y) % p, s.c, s.d⟩)
theorem absb {f : Int} {p g e : Nat} (D : Fd f p g e) (s x : Nat) (hs : s < p) : Int.tmod (IntKind.u64.wrap ((s : Int) + Int.tmod (x : Int) (p : Int))) (p : Int) = (((s + x) % p : Nat) : Int) := by
  have h1 := D.F.md x
  have hb := D.F.big
  rw [tmodN, castA, wrapU (by omega), tmodN, Nat.add_mod_mod]
theorem mn2_one : mn 2 (1 : Int) = 1 := by decide
theorem w01 : wrap64 (0 + 1) = 1 := by decide +kernel
theorem w11 : wrap64 (1 + 1) = 2 := by decide +kernel
theorem u00 (o v : Int) : updv o 0 0 v = v := if_pos rfl
theorem u10 (o v : Int) : updv o 1 0 v = o := if_neg (by decide)
theorem u20 (o v : Int) : updv o 2 0 v = o := if_neg (by decide)
theorem u30 (o v : Int) : updv o 3 0 v = o := if_neg (by decide)
theorem u01 (o v : Int) : updv o 0 1 v = o := if_neg (by decide)
theorem u11 (o v : Int) : updv o 1 1 v = v := if_pos rfl
theorem u21 (o v : Int) : updv o 2 1 v = o := if_neg (by decide)
theorem u31 (o v : Int) : updv o 3 1 v = o := if_neg (by decide)
theorem rd40 (a b c d : Int) : rd [a, b, c, d] 0 = a := rfl
theorem rd41 (a b c d : Int) : rd [a, b, c, d] 1 = b := rfl
theorem hash_nil (k : Nat) (p g : Int) (b : Bool) (a0 a1 a2 a3 : Int) : sponge_Hash.l0 (k + 1) (I []) p g b a0 a1 a2 a3 = some (a0, a1) := by
  rw [sponge_Hash.l0, if_neg (by decide)]
theorem hash_one {f : Int} {p g e : Nat} (D : Fd f p g e) (k x : Nat) (hk : 12 < k) (s : S4) (hs : s.lt p) :
    sponge_Hash.l0 (k + 1 + 1 + 1 + 1) (I [x]) p g ((e : Int) == 5) s.a s.b s.c s.d = some (((hsh p g e [x] s).a : Int), ((hsh p g e [x] s).b : Int)) := by
  have l1 : (((I [x]).length : Nat) : Int) = 1 := by simp [I]
  rw [sponge_Hash.l0, l1, if_pos (by decide), mn2_one, if_pos (by decide), if_pos (by decide)]
  refine bnd rfl ?_
  rw [show (I [x]).take (1 : Int).toNat = [(x : Int)] from rfl]
  rw [sponge_Hash.l1, if_pos (by simp), if_pos (by decide), if_pos (by simp), if_pos (by decide), if_neg D.F.ne, w01, show rd [(x : Int)] 0 = (x : Int) from rfl, rd40, absb D s.a x hs.1, u00, u10, u20, u30]
  rw [sponge_Hash.l1, if_neg (by simp)]
  refine bnd (perm_f D (k + 1) (by omega) ⟨(s.a + x) % p, s.b, s.c, s.d⟩ ⟨D.F.md _, hs.2.1, hs.2.2.1, hs.2.2.2⟩) ?_
  rw [if_pos (by decide), if_pos (by rw [l1]; decide), show (I [x]).drop (1 : Int).toNat = I [] from rfl, hash_nil]
  rfl
theorem hash_two {f : Int} {p g e : Nat} (D : Fd f p g e) (k x y : Nat) (hk : 12 < k) (l : List Nat) (s : S4) (hs : s.lt p) (hl : l.length < 1000000) :
    sponge_Hash.l0 (k + 1 + 1 + 1 + 1) (I (x :: y :: l)) p g ((e : Int) == 5) s.a s.b s.c s.d = sponge_Hash.l0 k (I l) p g ((e : Int) == 5) (prm p g e 8 ⟨(s.a + x) % p, (s.b + y) % p, s.c, s.d⟩).a (prm p g e 8 ⟨(s.a + x) % p, (s.b + y) % p, s.c, s.d⟩).b (prm p g e 8 ⟨(s.a + x) % p, (s.b + y) % p, s.c, s.d⟩).c (prm p g e 8 ⟨(s.a + x) % p, (s.b + y) % p, s.c, s.d⟩).d := by
  have l1 : (((I (x :: y :: l)).length : Nat) : Int) = ((l.length : Nat) : Int) + 1 + 1 := by simp [I]
  have hm : mn 2 (((l.length : Nat) : Int) + 1 + 1) = 2 := by
    unfold mn
    rw [if_neg (by omega)]
  rw [sponge_Hash.l0, l1, if_pos (by omega), hm, if_pos (by decide), if_pos (by omega)]
  refine bnd rfl ?_
  rw [show (I (x :: y :: l)).take (2 : Int).toNat = [(x : Int), (y : Int)] from rfl]
  rw [sponge_Hash.l1, if_pos (by simp), if_pos (by decide), if_pos (by simp), if_pos (by decide), if_neg D.F.ne, w01, show rd [(x : Int), (y : Int)] 0 = (x : Int) from rfl, rd40, absb D s.a x hs.1, u00, u10, u20, u30]
  rw [sponge_Hash.l1, if_pos (by simp), if_pos (by decide), if_pos (by simp), if_pos (by decide), if_neg D.F.ne, w11, show rd [(x : Int), (y : Int)] 1 = (y : Int) from rfl, rd41, absb D s.b y hs.2.1, u01, u11, u21, u31]
  rw [sponge_Hash.l1, if_neg (by simp)]
  refine bnd (perm_f D k hk ⟨(s.a + x) % p, (s.b + y) % p, s.c, s.d⟩ ⟨D.F.md _, D.F.md _, hs.2.2.1, hs.2.2.2⟩) ?_
  rw [if_pos (by decide), if_pos (by rw [l1]; omega), show (I (x :: y :: l)).drop (2 : Int).toNat = I l from rfl]
  simp only [S4.o]
theorem hash_l0 {f : Int} {p g e : Nat} (D : Fd f p g e) : ∀ (n : Nat) (l : List Nat) (s : S4) (k : Nat), l.length ≤ n → n < 1000000 → s.lt p → 4 * n + 24 ≤ k →
    sponge_Hash.l0 k (I l) p g ((e : Int) == 5) s.a s.b s.c s.d = some (((hsh p g e l s).a : Int), ((hsh p g e l s).b : Int)) := by
  intro n
  induction n with
  | zero =>
    intro l s k hl hn hs hk
    obtain ⟨k, rfl⟩ : ∃ j, k = j + 1 := ⟨k - 1, by omega⟩
    obtain rfl := List.length_eq_zero_iff.mp (Nat.le_zero.mp hl)
    rw [hash_nil]
    rfl
  | succ n ih =>
    intro l s k hl hn hs hk
    obtain ⟨k, rfl⟩ : ∃ j, k = j + 1 + 1 + 1 + 1 := ⟨k - 4, by omega⟩
    match l, hl with
    | [], _ =>
      rw [hash_nil]
      rfl
    | [x], _ => exact hash_one D k x (by omega) s hs
    | x :: y :: l, hl =>
      simp only [List.length_cons] at hl
      have hq : (S4.mk ((s.a + x) % p) ((s.b + y) % p) s.c s.d).lt p := ⟨D.F.md _, D.F.md _, hs.2.2.1, hs.2.2.2⟩
      rw [hash_two D k x y (by omega) l s hs (by omega), ih l (prm p g e 8 ⟨(s.a + x) % p, (s.b + y) % p, s.c, s.d⟩) k (by omega) (by omega) (prm_lt D.pos g e _ hq 8) (by omega)]
      rfl
def beg (p n : Nat) : S4 := ⟨0, 0, n % p, 0⟩
theorem beg_lt {p : Nat} (hp : 0 < p) (n : Nat) : (beg p n).lt p := ⟨hp, hp, Nat.mod_lt _ hp, hp⟩
def fst4 (p g e : Nat) (l : List Nat) : S4 := if l.length = 0 then prm p g e 8 (beg p l.length) else hsh p g e l (beg p l.length)
theorem Hash_f {f : Int} {p g e : Nat} (D : Fd f p g e) (l : List Nat) (hl : l.length < 1000000) (k : Nat) (hk : 4 * l.length + 30 ≤ k) :
    sponge_Hash.f k f (I l) = some (((fst4 p g e l).a : Int), ((fst4 p g e l).b : Int)) := by
  obtain ⟨k, rfl⟩ : ∃ j, k = j + 1 := ⟨k - 1, by omega⟩
  unfold sponge_Hash.f
  refine bnd (valid_yes D.F) ?_
  rw [if_pos rfl]
  refine bnd (in_f D) ?_
  rw [if_neg D.F.ne, I_len, wrapU (by omega), tmodN]
  by_cases h : l.length = 0
  · rw [if_pos (by omega)]
    refine bnd (perm_f D (k + 1) (by omega) (beg p l.length) (beg_lt D.pos _)) ?_
    obtain rfl := List.length_eq_zero_iff.mp h
    rw [sponge_Hash.j0]
    obtain ⟨k, rfl⟩ : ∃ j, k = j + 1 := ⟨k - 1, by omega⟩
    rw [hash_nil]
    rfl
  · rw [if_neg (by omega), sponge_Hash.j0]
    have := hash_l0 D l.length l (beg p l.length) k (Nat.le_refl _) hl (beg_lt D.pos _) (by omega)
    rw [fst4, if_neg h]
    exact this
theorem Hash_no {f : Int} (h : ¬ (0 ≤ f ∧ f < 4)) (k : Nat) (l : List Int) : sponge_Hash.f k f l = some (0, 0) := by
  unfold sponge_Hash.f
  rw [valid_no h]
  rfl
end Go.Proofs.YtamjeglenbokfaaDoor.Q
end
section
namespace Go.Proofs.YtamjeglenbokfaaDoor.Q
open Go.RowKit Go.Proofs.YtamjeglenbokfaaDoorW.PrintWords Go.Proofs.YtamjeglenbokfaaDoorW.PrintLast Go.Proofs.YtamjeglenbokfaaDoorW.PrintMore
attribute [local go_sem] max2_int min2_int max_two min_two max_three min_three max_four min_four   -- for this text's walks alone
set_option linter.unusedVariables false
set_option linter.unusedSimpArgs false

/-! ### attestorref06_Hash: function 34 -/
mutual
def attestorref06_Hash.j0 : Nat → Int → List Int → Int → Int → Int → Int → Option (Int × Int)
  | 0, _, _, _, _, _, _ => none
  | k + 1, x0, x1, x303000, x303001, x303002, x303003 => attestorref06_Hash.l0 k x0 x1 0 x303000 x303001 x303002 x303003
def attestorref06_Hash.l0 : Nat → Int → List Int → Int → Int → Int → Int → Int → Option (Int × Int)
  | 0, _, _, _, _, _, _, _ => none
  | k + 1, x0, x1, x6, x303000, x303001, x303002, x303003 => if x6 < (x1.length : Int) then (if 0 ≤ x6 then ((attestorref01_Add.f x0 x303000 (rd x1 x6)).bind fun t308 => (if (wrap64 (x6 + 1)) < (x1.length : Int) then (if 0 ≤ (wrap64 (x6 + 1)) then ((attestorref01_Add.f x0 x303001 (rd x1 (wrap64 (x6 + 1)))).bind fun t310 => ((attestorref06_Perm.f k x0 t308 t310 x303002 x303003).bind fun bt311 => (attestorref06_Hash.l0 k x0 x1 (wrap64 (x6 + 2)) bt311.1 bt311.2.1 bt311.2.2.1 bt311.2.2.2))) else (none)) else ((attestorref06_Perm.f k x0 t308 x303001 x303002 x303003).bind fun bt315 => (attestorref06_Hash.l0 k x0 x1 (wrap64 (x6 + 2)) bt315.1 bt315.2.1 bt315.2.2.1 bt315.2.2.2)))) else (none)) else (some (x303000, x303001))
end
def attestorref06_Hash.f (k : Nat) (a0 : Int) (l1 : List Int) : Option (Int × Int) := (attestorref01_Valid.f a0).bind fun t300 => (if t300 = true then ((attestorref01_Add.f a0 0 (IntKind.u64.wrap ((l1.length : Int)))).bind fun t301 => (if (l1.length : Int) = 0 then ((attestorref06_Perm.f k a0 0 0 t301 0).bind fun bt303 => (attestorref06_Hash.j0 k a0 l1 bt303.1 bt303.2.1 bt303.2.2.1 bt303.2.2.2)) else (attestorref06_Hash.j0 k a0 l1 0 0 t301 0))) else (some (0, 0)))
theorem attestorref06_Hash.mono_l : ∀ k, (∀ y0 y1 y2 y3 y4 y5, LeO (attestorref06_Hash.j0 k y0 y1 y2 y3 y4 y5) (attestorref06_Hash.j0 (k + 1) y0 y1 y2 y3 y4 y5)) ∧ (∀ y0 y1 y2 y3 y4 y5 y6, LeO (attestorref06_Hash.l0 k y0 y1 y2 y3 y4 y5 y6) (attestorref06_Hash.l0 (k + 1) y0 y1 y2 y3 y4 y5 y6))
  | 0 => ⟨fun _ _ _ _ _ _ r h => by simp [attestorref06_Hash.j0] at h, fun _ _ _ _ _ _ _ r h => by simp [attestorref06_Hash.l0] at h⟩
  | k + 1 => by
    obtain ⟨ih0, ih1⟩ := attestorref06_Hash.mono_l k
    refine ⟨?_, ?_⟩
    · intro y0 y1 y2 y3 y4 y5
      unfold attestorref06_Hash.j0
      repeat' first
      | (with_reducible exact ih0 _ _ _ _ _ _)
      | (with_reducible exact ih1 _ _ _ _ _ _ _)
      | (with_reducible exact attestorref06_Perm.mono _ _ _ _ _ _)
      | (with_reducible exact LeO.refl _)
      | (with_reducible exact LeO.none _)
      | (with_reducible refine LeO.ite ?_ ?_)
      | (with_reducible refine LeO.bind ?_ (fun _ => ?_))
      | exact ih0 _ _ _ _ _ _
      | exact ih1 _ _ _ _ _ _ _
      | exact attestorref06_Perm.mono _ _ _ _ _ _
      | exact LeO.none _
      | refine LeO.ite ?_ ?_
      | refine LeO.bind ?_ (fun _ => ?_)
    · intro y0 y1 y2 y3 y4 y5 y6
      unfold attestorref06_Hash.l0
      repeat' first
      | (with_reducible exact ih0 _ _ _ _ _ _)
      | (with_reducible exact ih1 _ _ _ _ _ _ _)
      | (with_reducible exact attestorref06_Perm.mono _ _ _ _ _ _)
      | (with_reducible exact LeO.refl _)
      | (with_reducible exact LeO.none _)
      | (with_reducible refine LeO.ite ?_ ?_)
      | (with_reducible refine LeO.bind ?_ (fun _ => ?_))
      | exact ih0 _ _ _ _ _ _
      | exact ih1 _ _ _ _ _ _ _
      | exact attestorref06_Perm.mono _ _ _ _ _ _
      | exact LeO.none _
      | refine LeO.ite ?_ ?_
      | refine LeO.bind ?_ (fun _ => ?_)
theorem attestorref06_Hash.mono : ∀ a0 a1 k, LeO (attestorref06_Hash.f k a0 a1) (attestorref06_Hash.f (k + 1) a0 a1) := by
  intro a0 a1 k
  obtain ⟨ih0, ih1⟩ := attestorref06_Hash.mono_l k
  unfold attestorref06_Hash.f
  repeat' first
      | (with_reducible exact ih0 _ _ _ _ _ _)
      | (with_reducible exact ih1 _ _ _ _ _ _ _)
      | (with_reducible exact attestorref06_Perm.mono _ _ _ _ _ _)
      | (with_reducible exact LeO.refl _)
      | (with_reducible exact LeO.none _)
      | (with_reducible refine LeO.ite ?_ ?_)
      | (with_reducible refine LeO.bind ?_ (fun _ => ?_))
      | exact ih0 _ _ _ _ _ _
      | exact ih1 _ _ _ _ _ _ _
      | exact attestorref06_Perm.mono _ _ _ _ _ _
      | exact LeO.none _
      | refine LeO.ite ?_ ?_
      | refine LeO.bind ?_ (fun _ => ?_)
def attestorref06_Hash.T9 : Bool × List (List Nat × List Nat) := (true, [([], []), ([], []), ([1], [1]), ([], []), ([], []), ([3, 4], [3, 4]), ([5], [5]), ([0, 2, 6], [0, 2, 6]), ([0, 1, 2, 3, 4, 5, 6, 7], []), ([8, 7, 7, 0, 1, 2, 3, 4, 5, 6, 7], [7, 8])])
def attestorref06_Hash.B9 : List Nat := [0, 0, 2, 0, 0, 24, 56, 127, 255, 511]
theorem attestorref06_Hash.tab9 : rtab .any (opsOf Tryd.f34 9) = attestorref06_Hash.T9 := by kernel_rfl
theorem attestorref06_Hash.bits9 : waitsOk attestorref06_Hash.T9.2 attestorref06_Hash.B9 = true := by kernel_rfl
def attestorref06_Hash.T11 : Bool × List (List Nat × List Nat) := (true, [([], []), ([], []), ([1], [1]), ([], []), ([], []), ([4], [4]), ([3, 5], [3, 5]), ([6], [6]), ([0, 2, 7], [0, 2, 7]), ([0, 1, 2, 3, 4, 5, 6, 7, 8], []), ([9, 8, 8, 0, 1, 2, 3, 4, 5, 6, 7, 8], [8, 9])])
def attestorref06_Hash.B11 : List Nat := [0, 0, 2, 0, 0, 16, 56, 120, 255, 511, 1023]
theorem attestorref06_Hash.tab11 : rtab .any (opsOf Tryd.f34 11) = attestorref06_Hash.T11 := by kernel_rfl
theorem attestorref06_Hash.bits11 : waitsOk attestorref06_Hash.T11.2 attestorref06_Hash.B11 = true := by kernel_rfl
set_option maxHeartbeats 8000000 in
set_option maxRecDepth 100000 in
theorem attestorref06_Hash.calls (k : Nat) (a0 : Int) (A1 : Option Addr) (c1 : Nat) (l1 : List Int) (r1 : Int) (r2 : Int) (w : World) (hr1 : Kd.C (Kd.int .u64) w A1 l1.length l1) (hc1 : l1.length ≤ c1) (h : attestorref06_Hash.f k a0 l1 = some (r1, r2)) :
    Calls Tryd.prog 34 #[.int .i64 a0, .slice A1 l1.length c1] w fun e w' => e = .returned (.agg #[.int .u64 r1, .int .u64 r2]) ∧ Below w.heap.size w w' := by
  have hu49 := Tryd.underlying49
  have hu64 := Tryd.underlying64
  have HR1 := Aside0.mk hr1
  have HC1 := Aside0.mk hc1
  clear hr1 hc1
  have HB := Aside0.mk (Below.refl w.heap.size w)
  have H : ((attestorref01_Valid.f a0).bind fun t300 => (if t300 = true then ((attestorref01_Add.f a0 0 (IntKind.u64.wrap ((l1.length : Int)))).bind fun t301 => (if (l1.length : Int) = 0 then ((attestorref06_Perm.f k a0 0 0 t301 0).bind fun bt303 => (attestorref06_Hash.j0 k a0 l1 bt303.1 bt303.2.1 bt303.2.2.1 bt303.2.2.2)) else (attestorref06_Hash.j0 k a0 l1 0 0 t301 0))) else (some (0, 0)))) = some (r1, r2) := h
  clear h
  replace H := Option.bind_eq_some_iff.mp H
  obtain ⟨t300, A30, H⟩ := H
  replace H : (if t300 = true then ((attestorref01_Add.f a0 0 (IntKind.u64.wrap ((l1.length : Int)))).bind fun t301 => (if (l1.length : Int) = 0 then ((attestorref06_Perm.f k a0 0 0 t301 0).bind fun bt303 => (attestorref06_Hash.j0 k a0 l1 bt303.1 bt303.2.1 bt303.2.2.1 bt303.2.2.2)) else (attestorref06_Hash.j0 k a0 l1 0 0 t301 0))) else (some (0, 0))) = some (r1, r2) := H
  have A3 := Aside0.mk A30
  clear A30
  by_cases c4 : t300 = true
  · subst c4
    have H1 : ((attestorref01_Add.f a0 0 (IntKind.u64.wrap ((l1.length : Int)))).bind fun t301 => (if (l1.length : Int) = 0 then ((attestorref06_Perm.f k a0 0 0 t301 0).bind fun bt303 => (attestorref06_Hash.j0 k a0 l1 bt303.1 bt303.2.1 bt303.2.2.1 bt303.2.2.2)) else (attestorref06_Hash.j0 k a0 l1 0 0 t301 0))) = some (r1, r2) := by rw [if_pos rfl] at H; exact H
    clear H
    have H := H1
    clear H1
    replace H := Option.bind_eq_some_iff.mp H
    obtain ⟨t301, A50, H⟩ := H
    replace H : (if (l1.length : Int) = 0 then ((attestorref06_Perm.f k a0 0 0 t301 0).bind fun bt303 => (attestorref06_Hash.j0 k a0 l1 bt303.1 bt303.2.1 bt303.2.2.1 bt303.2.2.2)) else (attestorref06_Hash.j0 k a0 l1 0 0 t301 0)) = some (r1, r2) := H
    have A5 := Aside0.mk A50
    clear A50
    have HC6 := Aside0.mk H
    clear H
    go_enter Tryd.func34, Tryd.ntmps34
    go_upto_if 19 with (first | ((with_reducible refine gate_dst (N := 4) rfl ?_); refine box_event ?hg (N := 4) ?hd (cs := #[.int .u64 0, .int .u64 0]) (t := 49) ?hr ?_; (case hd => rfl); (case hg => rfl); (case hr => first | (go_simp; done) | (go_simp; rfl)); intro gb299 hg w7 hbox hb; have n0_ := Aside0.mk (below_step (by repeat (first | (with_reducible first | exact HB.out | apply below_alloc | apply pw_below_drewN | apply below_drew1) | exact HB.out)) hb); have n1_ := Aside0.mk (hbox); have n2_ := Aside0.mk ((by rw [hg]; exact (below_size (by repeat (first | (with_reducible first | exact HB.out | apply below_alloc | apply pw_below_drewN | apply below_drew1) | exact HB.out))) : w.heap.size ≤ gb299)); have n3_ := Aside0.mk ((by rw [hg]; exact (below_size (by repeat (first | (with_reducible first | exact HB.out | apply below_alloc | apply pw_below_drewN | apply below_drew1) | exact HB.out))) : w.heap.size ≤ gb299)); clear HB; have HB := n0_; have BK299 := n1_; have GW299 := n2_; have GE299 := n3_; clear n0_ n1_ n2_ n3_; clear hb hbox hg) | ((with_reducible refine gate_callee (f := 40) rfl ?_); refine goesL_ (some 8) rfl rfl Tryd.func40 (by kernel_rfl) rfl #[.int .i64 a0] rfl (by (try simp only [List.map_toArray, List.map_cons, List.map_nil]); first | done | rfl | (simp only [List.length_drop, List.length_take]; rfl) | (go_simp; done) | (go_simp; rw [Int.tmod_eq_emod_of_nonneg (by omega)]; omega)) ?_; (with_reducible refine (attestorref01_Valid.calls a0 true _ A3.out).mono ?_); rintro e w' ⟨rfl, ⟨nd, rfl⟩⟩; refine ⟨_, rfl, ?_⟩; (try (rw [drewN_self w7]; generalize hq_ : World.drewN w7 _ = w7; have n0_ : Aside0 (w7.heap[gb299]? = some (.cells #[.int .u64 0, .int .u64 0] 49 (0, 0))) := ⟨by rw [← hq_]; exact (by (with_reducible repeat (first | refine blk_drewN ?_ _ | refine blk_drew ?_ | refine blk_alloc ?_ _)); exact BK299.out)⟩; have n1_ : Aside0 (Below w.heap.size w w7) := ⟨by rw [← hq_]; exact (by repeat (first | (with_reducible first | exact HB.out | apply below_alloc | apply pw_below_drewN | apply below_drew1 | refine below_set ?_ GE299.out) | exact HB.out))⟩; clear BK299 HB hq_; have BK299 := n0_; have HB := n1_; clear n0_ n1_))) | ((with_reducible refine gate_callee (f := 41) rfl ?_); refine goesL_ (some 15) rfl rfl Tryd.func41 (by kernel_rfl) rfl #[.int .i64 a0, .int .u64 0, .int .u64 (IntKind.u64.wrap ((l1.length : Int)))] rfl (by (try simp only [List.map_toArray, List.map_cons, List.map_nil]); first | done | rfl | (simp only [List.length_drop, List.length_take]; rfl) | (go_simp; done) | (go_simp; rw [Int.tmod_eq_emod_of_nonneg (by omega)]; omega)) ?_; (with_reducible refine (attestorref01_Add.calls a0 0 (IntKind.u64.wrap ((l1.length : Int))) t301 _ A5.out).mono ?_); rintro e w' ⟨rfl, ⟨nd, rfl⟩⟩; refine ⟨_, rfl, ?_⟩; (try (rw [drewN_self w7]; generalize hq_ : World.drewN w7 _ = w7; have n0_ : Aside0 (w7.heap[gb299]? = some (.cells #[.int .u64 0, .int .u64 0] 49 (0, 0))) := ⟨by rw [← hq_]; exact (by (with_reducible repeat (first | refine blk_drewN ?_ _ | refine blk_drew ?_ | refine blk_alloc ?_ _)); exact BK299.out)⟩; have n1_ : Aside0 (Below w.heap.size w w7) := ⟨by rw [← hq_]; exact (by repeat (first | (with_reducible first | exact HB.out | apply below_alloc | apply pw_below_drewN | apply below_drew1 | refine below_set ?_ GE299.out) | exact HB.out))⟩; clear BK299 HB hq_; have BK299 := n0_; have HB := n1_; clear n0_ n1_))) | ((with_reducible refine gate_dst (N := 5) rfl ?_); refine box_event ?hg (N := 5) ?hd (cs := #[.int .u64 0, .int .u64 0, .int .u64 0, .int .u64 0]) (t := 64) ?hr ?_; (case hd => rfl); (case hg => rfl); (case hr => first | (go_simp; done) | (go_simp; rfl)); intro gb302 hg w8 hbox hb; have n0_ := Aside0.mk (blk_below (g := gb299) (o := .cells #[.int .u64 0, .int .u64 0] 49 (0, 0)) (by (with_reducible repeat (first | refine blk_drewN ?_ _ | refine blk_drew ?_ | refine blk_alloc ?_ _)); exact BK299.out) hb); have n1_ := Aside0.mk (below_step (by repeat (first | (with_reducible first | exact HB.out | apply below_alloc | apply pw_below_drewN | apply below_drew1 | refine below_set ?_ GE299.out) | exact HB.out)) hb); have n2_ := Aside0.mk (hbox); have n3_ := Aside0.mk ((by rw [hg]; exact (below_size (by repeat (first | (with_reducible first | exact HB.out | apply below_alloc | apply pw_below_drewN | apply below_drew1 | refine below_set ?_ GE299.out) | exact HB.out))) : w.heap.size ≤ gb302)); have n4_ := Aside0.mk ((by rw [hg]; exact (below_size (by repeat (first | (with_reducible first | exact HB.out | apply below_alloc | apply pw_below_drewN | apply below_drew1 | refine below_set ?_ GE299.out) | exact HB.out))) : w.heap.size ≤ gb302)); have n5_ := Aside0.mk ((by rw [hg]; exact Nat.ne_of_lt (blk_lt (g := gb299) (o := .cells #[.int .u64 0, .int .u64 0] 49 (0, 0)) (by (with_reducible repeat (first | refine blk_drewN ?_ _ | refine blk_drew ?_ | refine blk_alloc ?_ _)); exact BK299.out)) : gb299 ≠ gb302)); have n6_ := Aside0.mk ((by rw [hg]; exact Nat.ne_of_gt (blk_lt (g := gb299) (o := .cells #[.int .u64 0, .int .u64 0] 49 (0, 0)) (by (with_reducible repeat (first | refine blk_drewN ?_ _ | refine blk_drew ?_ | refine blk_alloc ?_ _)); exact BK299.out)) : gb302 ≠ gb299)); clear BK299; clear HB; have BK299 := n0_; have HB := n1_; have BK302 := n2_; have GW302 := n3_; have GE302 := n4_; have NB299_302 := n5_; have NB302_299 := n6_; clear n0_ n1_ n2_ n3_ n4_ n5_ n6_; clear hb hbox hg; have hnb9 := NB302_299.out; have hnc9 := NB299_302.out; have hcz10_0 : w8.cell? ⟨gb302, 0, none⟩ = some (.int .u64 0) := (blk_cell BK302.out 0).trans rfl; have hcz10_1 : w8.cell? ⟨gb302, 1, none⟩ = some (.int .u64 0) := (blk_cell BK302.out 1).trans rfl; have hcz10_2 : w8.cell? ⟨gb302, 2, none⟩ = some (.int .u64 0) := (blk_cell BK302.out 2).trans rfl; have hcz10_3 : w8.cell? ⟨gb302, 3, none⟩ = some (.int .u64 0) := (blk_cell BK302.out 3).trans rfl; have hfz10_0 := blk_frozen BK302.out 0; have hfz10_1 := blk_frozen BK302.out 1; have hfz10_2 := blk_frozen BK302.out 2; have hfz10_3 := blk_frozen BK302.out 3))
    (try simp only [Act.put, List.setIfInBounds_toArray, List.set_cons_zero, List.set_cons_succ])
    go_cut [] (fun wc => ∃ (kq : Nat) (x303000_5 : Int) (x303001_5 : Int) (x303002_5 : Int) (x303003_5 : Int), Aside0 (attestorref06_Hash.j0 kq a0 l1 x303000_5 x303001_5 x303002_5 x303003_5 = some (r1, r2)) ∧ Aside0 (kq ≤ k) ∧ Aside0 (wc.heap[gb299]? = some (.cells #[.int .u64 0, .int .u64 0] 49 (0, 0))) ∧ Aside0 (wc.heap[gb302]? = some (.cells #[.int .u64 x303000_5, .int .u64 x303001_5, .int .u64 x303002_5, .int .u64 x303003_5] 64 (0, 0))) ∧ Aside0 (Below w.heap.size w wc))
    case first =>
      have H := HC6.out
      clear HC6
      by_cases c11 : (l1.length : Int) = 0
      · rw [if_pos c11] at H
        have c11b0 : ((l1.length : Int) == 0) = true := beq_iff_eq.mpr c11
        have c11b1 : ((l1.length : Int) != 0) = false := bne_eq_false_iff_eq.mpr c11
        clear c11
        (first | rw [c11b0] | (simp only [i64_w, i32_w]; rw [c11b0]) | skip)
        replace H := Option.bind_eq_some_iff.mp H
        obtain ⟨⟨t303, t304, t305, t306⟩, A120, H⟩ := H
        replace H : (attestorref06_Hash.j0 k a0 l1 t303 t304 t305 t306) = some (r1, r2) := H
        have A12 := Aside0.mk A120
        clear A120
        have H' := Aside0.mk H
        clear H
        have hnb13 := NB302_299.out
        have hnc13 := NB299_302.out
        have hcz14_0 : w8.cell? ⟨gb302, 0, none⟩ = some (.int .u64 0) := (blk_cell BK302.out 0).trans rfl
        have hcz14_1 : w8.cell? ⟨gb302, 1, none⟩ = some (.int .u64 0) := (blk_cell BK302.out 1).trans rfl
        have hcz14_2 : w8.cell? ⟨gb302, 2, none⟩ = some (.int .u64 0) := (blk_cell BK302.out 2).trans rfl
        have hcz14_3 : w8.cell? ⟨gb302, 3, none⟩ = some (.int .u64 0) := (blk_cell BK302.out 3).trans rfl
        have hfz14_0 := blk_frozen BK302.out 0
        have hfz14_1 := blk_frozen BK302.out 1
        have hfz14_2 := blk_frozen BK302.out 2
        have hfz14_3 := blk_frozen BK302.out 3
        go_wp2_with (first | ((with_reducible refine gate_callee (f := 42) rfl ?_); refine goesL_ (some 22) rfl rfl Tryd.func42 (by kernel_rfl) rfl #[.int .i64 a0, .agg #[.int .u64 0, .int .u64 0, .int .u64 t301, .int .u64 0]] rfl (by (try simp only [List.map_toArray, List.map_cons, List.map_nil]); first | done | rfl | (simp only [List.length_drop, List.length_take]; rfl) | (go_simp; done) | (go_simp; rw [Int.tmod_eq_emod_of_nonneg (by omega)]; omega)) ?_; (with_reducible refine (attestorref06_Perm.calls k a0 0 0 t301 0 t303 t304 t305 t306 _ A12.out).mono ?_); rintro e w15 ⟨rfl, hb⟩; refine ⟨_, rfl, ?_⟩; have n0_ := Aside0.mk (blk_below (g := gb299) (o := .cells #[.int .u64 0, .int .u64 0] 49 (0, 0)) (by (with_reducible repeat (first | refine blk_drewN ?_ _ | refine blk_drew ?_ | refine blk_alloc ?_ _)); refine blk_far ?_ NB299_302.out _; (with_reducible repeat (first | refine blk_drewN ?_ _ | refine blk_drew ?_ | refine blk_alloc ?_ _)); refine blk_far ?_ NB299_302.out _; (with_reducible repeat (first | refine blk_drewN ?_ _ | refine blk_drew ?_ | refine blk_alloc ?_ _)); refine blk_far ?_ NB299_302.out _; (with_reducible repeat (first | refine blk_drewN ?_ _ | refine blk_drew ?_ | refine blk_alloc ?_ _)); refine blk_far ?_ NB299_302.out _; (with_reducible repeat (first | refine blk_drewN ?_ _ | refine blk_drew ?_ | refine blk_alloc ?_ _)); exact BK299.out) hb); have n1_ := Aside0.mk (blk_below (g := gb302) (o := .cells #[.int .u64 0, .int .u64 0, .int .u64 t301, .int .u64 0] 64 (0, 0)) (by (with_reducible repeat (first | refine blk_drewN ?_ _ | refine blk_drew ?_ | refine blk_alloc ?_ _)); refine blk_put (cs := #[.int .u64 0, .int .u64 0, .int .u64 t301, .int .u64 0]) ?_ 3 _ rfl; (with_reducible repeat (first | refine blk_drewN ?_ _ | refine blk_drew ?_ | refine blk_alloc ?_ _)); refine blk_put (cs := #[.int .u64 0, .int .u64 0, .int .u64 0, .int .u64 0]) ?_ 2 _ rfl; (with_reducible repeat (first | refine blk_drewN ?_ _ | refine blk_drew ?_ | refine blk_alloc ?_ _)); refine blk_put (cs := #[.int .u64 0, .int .u64 0, .int .u64 0, .int .u64 0]) ?_ 1 _ rfl; (with_reducible repeat (first | refine blk_drewN ?_ _ | refine blk_drew ?_ | refine blk_alloc ?_ _)); refine blk_put (cs := #[.int .u64 0, .int .u64 0, .int .u64 0, .int .u64 0]) ?_ 0 _ rfl; (with_reducible repeat (first | refine blk_drewN ?_ _ | refine blk_drew ?_ | refine blk_alloc ?_ _)); exact BK302.out) hb); have n2_ := Aside0.mk (below_step (by repeat (first | (with_reducible first | exact HB.out | apply below_alloc | apply pw_below_drewN | apply below_drew1 | refine below_set ?_ GE299.out | refine below_set ?_ GE302.out) | exact HB.out)) hb); clear BK299; clear BK302; clear HB; have BK299 := n0_; have BK302 := n1_; have HB := n2_; clear n0_ n1_ n2_; (try clear hb); (try clear hb2); (try clear hk); (try clear hi); have hcz16_0 : w15.cell? ⟨gb302, 0, none⟩ = some (.int .u64 0) := (blk_cell BK302.out 0).trans rfl; have hcz16_1 : w15.cell? ⟨gb302, 1, none⟩ = some (.int .u64 0) := (blk_cell BK302.out 1).trans rfl; have hcz16_2 : w15.cell? ⟨gb302, 2, none⟩ = some (.int .u64 t301) := (blk_cell BK302.out 2).trans rfl; have hcz16_3 : w15.cell? ⟨gb302, 3, none⟩ = some (.int .u64 0) := (blk_cell BK302.out 3).trans rfl; have hfz16_0 := blk_frozen BK302.out 0; have hfz16_1 := blk_frozen BK302.out 1; have hfz16_2 := blk_frozen BK302.out 2; have hfz16_3 := blk_frozen BK302.out 3))
        go_meet
        case rel => exact ⟨_, (t303), (t304), (t305), (t306), H', ⟨by first | omega | exact Nat.le_refl _⟩, ⟨by (with_reducible repeat (first | refine blk_drewN ?_ _ | refine blk_drew ?_ | refine blk_alloc ?_ _)); refine blk_far ?_ NB299_302.out _; (with_reducible repeat (first | refine blk_drewN ?_ _ | refine blk_drew ?_ | refine blk_alloc ?_ _)); refine blk_far ?_ NB299_302.out _; (with_reducible repeat (first | refine blk_drewN ?_ _ | refine blk_drew ?_ | refine blk_alloc ?_ _)); refine blk_far ?_ NB299_302.out _; (with_reducible repeat (first | refine blk_drewN ?_ _ | refine blk_drew ?_ | refine blk_alloc ?_ _)); refine blk_far ?_ NB299_302.out _; (with_reducible repeat (first | refine blk_drewN ?_ _ | refine blk_drew ?_ | refine blk_alloc ?_ _)); exact BK299.out⟩, ⟨by (with_reducible repeat (first | refine blk_drewN ?_ _ | refine blk_drew ?_ | refine blk_alloc ?_ _)); refine blk_put (cs := #[.int .u64 t303, .int .u64 t304, .int .u64 t305, .int .u64 0]) ?_ 3 _ rfl; (with_reducible repeat (first | refine blk_drewN ?_ _ | refine blk_drew ?_ | refine blk_alloc ?_ _)); refine blk_put (cs := #[.int .u64 t303, .int .u64 t304, .int .u64 t301, .int .u64 0]) ?_ 2 _ rfl; (with_reducible repeat (first | refine blk_drewN ?_ _ | refine blk_drew ?_ | refine blk_alloc ?_ _)); refine blk_put (cs := #[.int .u64 t303, .int .u64 0, .int .u64 t301, .int .u64 0]) ?_ 1 _ rfl; (with_reducible repeat (first | refine blk_drewN ?_ _ | refine blk_drew ?_ | refine blk_alloc ?_ _)); refine blk_put (cs := #[.int .u64 0, .int .u64 0, .int .u64 t301, .int .u64 0]) ?_ 0 _ rfl; (with_reducible repeat (first | refine blk_drewN ?_ _ | refine blk_drew ?_ | refine blk_alloc ?_ _)); exact BK302.out⟩, ⟨by repeat (first | (with_reducible first | exact HB.out | apply below_alloc | apply pw_below_drewN | apply below_drew1 | refine below_set ?_ GE299.out | refine below_set ?_ GE302.out) | exact HB.out)⟩⟩
      · rw [if_neg c11] at H
        have c11b0 : ((l1.length : Int) == 0) = false := beq_eq_false_iff_ne.mpr c11
        have c11b1 : ((l1.length : Int) != 0) = true := bne_iff_ne.mpr c11
        have c11b2 : ¬ (l1 = []) := fun h_ => c11 (by rw [h_]; rfl)
        (first | rw [c11b0] | (simp only [i64_w, i32_w]; rw [c11b0]) | skip)
        have H' := Aside0.mk H
        clear H
        go_wp2
        go_meet
        case rel => exact ⟨_, (0), (0), (t301), (0), H', ⟨by first | omega | exact Nat.le_refl _⟩, ⟨by (with_reducible repeat (first | refine blk_drewN ?_ _ | refine blk_drew ?_ | refine blk_alloc ?_ _)); refine blk_far ?_ NB299_302.out _; (with_reducible repeat (first | refine blk_drewN ?_ _ | refine blk_drew ?_ | refine blk_alloc ?_ _)); refine blk_far ?_ NB299_302.out _; (with_reducible repeat (first | refine blk_drewN ?_ _ | refine blk_drew ?_ | refine blk_alloc ?_ _)); refine blk_far ?_ NB299_302.out _; (with_reducible repeat (first | refine blk_drewN ?_ _ | refine blk_drew ?_ | refine blk_alloc ?_ _)); refine blk_far ?_ NB299_302.out _; (with_reducible repeat (first | refine blk_drewN ?_ _ | refine blk_drew ?_ | refine blk_alloc ?_ _)); exact BK299.out⟩, ⟨by (with_reducible repeat (first | refine blk_drewN ?_ _ | refine blk_drew ?_ | refine blk_alloc ?_ _)); refine blk_put (cs := #[.int .u64 0, .int .u64 0, .int .u64 t301, .int .u64 0]) ?_ 3 _ rfl; (with_reducible repeat (first | refine blk_drewN ?_ _ | refine blk_drew ?_ | refine blk_alloc ?_ _)); refine blk_put (cs := #[.int .u64 0, .int .u64 0, .int .u64 0, .int .u64 0]) ?_ 2 _ rfl; (with_reducible repeat (first | refine blk_drewN ?_ _ | refine blk_drew ?_ | refine blk_alloc ?_ _)); refine blk_put (cs := #[.int .u64 0, .int .u64 0, .int .u64 0, .int .u64 0]) ?_ 1 _ rfl; (with_reducible repeat (first | refine blk_drewN ?_ _ | refine blk_drew ?_ | refine blk_alloc ?_ _)); refine blk_put (cs := #[.int .u64 0, .int .u64 0, .int .u64 0, .int .u64 0]) ?_ 0 _ rfl; (with_reducible repeat (first | refine blk_drewN ?_ _ | refine blk_drew ?_ | refine blk_alloc ?_ _)); exact BK302.out⟩, ⟨by repeat (first | (with_reducible first | exact HB.out | apply below_alloc | apply pw_below_drewN | apply below_drew1 | refine below_set ?_ GE299.out | refine below_set ?_ GE302.out) | exact HB.out)⟩⟩
    case rest =>
      clear HC6
      try clear c1
      try clear p2
      try clear c3
      try clear c4
      try clear c9
      try clear c11
      try clear c11b0
      try clear c11b1
      try clear c11b2
      try clear c13
      try clear hcz10_0
      try clear hcz10_1
      try clear hcz10_2
      try clear hcz10_3
      try clear hcz14_0
      try clear hcz14_1
      try clear hcz14_2
      try clear hcz14_3
      try clear hcz16_0
      try clear hcz16_1
      try clear hcz16_2
      try clear hcz16_3
      try clear hfz10_0
      try clear hfz10_1
      try clear hfz10_2
      try clear hfz10_3
      try clear hfz14_0
      try clear hfz14_1
      try clear hfz14_2
      try clear hfz14_3
      try clear hfz16_0
      try clear hfz16_1
      try clear hfz16_2
      try clear hfz16_3
      obtain ⟨kq, x303000_5, x303001_5, x303002_5, x303003_5, HA, HJ5, BK299, BK302, HB⟩ := hcut
      cases kq with
      | zero => exact absurd HA.out (by simp [attestorref06_Hash.j0])
      | succ kj5 =>
        have H := HA.out
        clear HA
        simp only [attestorref06_Hash.j0] at H
        have H' := Aside0.mk H
        clear H
        go_wp2
        go_loopg [6] kj5 (fun kq v6 w' => ∃ (x6_2 : Int) (x303000_2 : Int) (x303001_2 : Int) (x303002_2 : Int) (x303003_2 : Int), v6 = .int .i64 x6_2 ∧ Aside0 (attestorref06_Hash.l0 kq a0 l1 x6_2 x303000_2 x303001_2 x303002_2 x303003_2 = some (r1, r2)) ∧ Aside0 (kq ≤ kj5) ∧ Aside0 (w'.heap[gb299]? = some (.cells #[.int .u64 0, .int .u64 0] 49 (0, 0))) ∧ Aside0 (w'.heap[gb302]? = some (.cells #[.int .u64 x303000_2, .int .u64 x303001_2, .int .u64 x303002_2, .int .u64 x303003_2] 64 (0, 0))) ∧ Aside0 (Below w.heap.size w w'))
        case atStart => exact ⟨(0), (x303000_5), (x303001_5), (x303002_5), (x303003_5), (by first | rfl | (simp; done) | (simp [*]; done) | (simp; rfl) | (simp; decide +kernel)), H', ⟨Nat.le_refl _⟩, ⟨by (with_reducible repeat (first | refine blk_drewN ?_ _ | refine blk_drew ?_ | refine blk_alloc ?_ _)); exact BK299.out⟩, ⟨by (with_reducible repeat (first | refine blk_drewN ?_ _ | refine blk_drew ?_ | refine blk_alloc ?_ _)); exact BK302.out⟩, ⟨by repeat (first | (with_reducible first | exact HB.out | apply below_alloc | apply pw_below_drewN | apply below_drew1 | refine below_set ?_ GE299.out | refine below_set ?_ GE302.out) | exact HB.out)⟩⟩
        case round =>
          clear H'
          try clear c1
          try clear p2
          try clear c3
          try clear c4
          try clear c9
          try clear c11
          try clear c11b0
          try clear c11b1
          try clear c11b2
          try clear c13
          try clear hcz10_0
          try clear hcz10_1
          try clear hcz10_2
          try clear hcz10_3
          try clear hcz14_0
          try clear hcz14_1
          try clear hcz14_2
          try clear hcz14_3
          try clear hcz16_0
          try clear hcz16_1
          try clear hcz16_2
          try clear hcz16_3
          try clear hfz10_0
          try clear hfz10_1
          try clear hfz10_2
          try clear hfz10_3
          try clear hfz14_0
          try clear hfz14_1
          try clear hfz14_2
          try clear hfz14_3
          try clear hfz16_0
          try clear hfz16_1
          try clear hfz16_2
          try clear hfz16_3
          try clear p2
          obtain ⟨x6_2, x303000_2, x303001_2, x303002_2, x303003_2, rfl, HA, HK2, BK299, BK302, HB⟩ := hrel
          cases gk with
          | zero => exact absurd HA.out (by simp [attestorref06_Hash.l0])
          | succ k2 =>
            have H := HA.out
            clear HA
            simp only [attestorref06_Hash.l0] at H
            by_cases c17 : x6_2 < (l1.length : Int)
            · rw [if_pos c17] at H
              have c17b0 : decide (x6_2 < (l1.length : Int)) = true := decide_eq_true c17
              clear c17
              by_cases c18 : 0 ≤ x6_2
              · rw [if_pos c18] at H
                have c18b0 : decide (0 ≤ x6_2) = true := decide_eq_true c18
                clear c18
                replace H := Option.bind_eq_some_iff.mp H
                obtain ⟨t308, A190, H⟩ := H
                replace H : (if (wrap64 (x6_2 + 1)) < (l1.length : Int) then (if 0 ≤ (wrap64 (x6_2 + 1)) then ((attestorref01_Add.f a0 x303001_2 (rd l1 (wrap64 (x6_2 + 1)))).bind fun t310 => ((attestorref06_Perm.f k2 a0 t308 t310 x303002_2 x303003_2).bind fun bt311 => (attestorref06_Hash.l0 k2 a0 l1 (wrap64 (x6_2 + 2)) bt311.1 bt311.2.1 bt311.2.2.1 bt311.2.2.2))) else (none)) else ((attestorref06_Perm.f k2 a0 t308 x303001_2 x303002_2 x303003_2).bind fun bt315 => (attestorref06_Hash.l0 k2 a0 l1 (wrap64 (x6_2 + 2)) bt315.1 bt315.2.1 bt315.2.2.1 bt315.2.2.2))) = some (r1, r2) := H
                have A19 := Aside0.mk A190
                clear A190
                by_cases c20 : (wrap64 (x6_2 + 1)) < (l1.length : Int)
                · rw [if_pos c20] at H
                  have c20b0 : decide ((wrap64 (x6_2 + 1)) < (l1.length : Int)) = true := decide_eq_true c20
                  clear c20
                  obtain ⟨ji21, hji21⟩ : ∃ j_ : Int, (wrap64 (x6_2 + 1)) = j_ := ⟨_, rfl⟩
                  replace H : (if 0 ≤ (ji21) then ((attestorref01_Add.f a0 x303001_2 (rd l1 (ji21))).bind fun t310 => ((attestorref06_Perm.f k2 a0 t308 t310 x303002_2 x303003_2).bind fun bt311 => (attestorref06_Hash.l0 k2 a0 l1 (wrap64 (x6_2 + 2)) bt311.1 bt311.2.1 bt311.2.2.1 bt311.2.2.2))) else (none)) = some (r1, r2) := by first | (rw [hji21] at H; exact H) | (simp only [hji21] at H ⊢; exact H)
                  (try rw [hji21] at c20b0)
                  (try rw [hji21] at A19)
                  have hji21w : (IntKind.i64.wrap (x6_2 + 1)) = ji21 := (i64_w _).trans hji21
                  by_cases c22 : 0 ≤ (ji21)
                  · rw [if_pos c22] at H
                    have c22b0 : decide (0 ≤ (ji21)) = true := decide_eq_true c22
                    clear c22
                    replace H := Option.bind_eq_some_iff.mp H
                    obtain ⟨t310, A230, H⟩ := H
                    replace H : ((attestorref06_Perm.f k2 a0 t308 t310 x303002_2 x303003_2).bind fun bt311 => (attestorref06_Hash.l0 k2 a0 l1 (wrap64 (x6_2 + 2)) bt311.1 bt311.2.1 bt311.2.2.1 bt311.2.2.2)) = some (r1, r2) := H
                    have A23 := Aside0.mk A230
                    clear A230
                    replace H := Option.bind_eq_some_iff.mp H
                    obtain ⟨⟨t311, t312, t313, t314⟩, A240, H⟩ := H
                    replace H : (attestorref06_Hash.l0 k2 a0 l1 (wrap64 (x6_2 + 2)) t311 t312 t313 t314) = some (r1, r2) := H
                    have A24 := Aside0.mk A240
                    clear A240
                    have H' := Aside0.mk H
                    clear H
                    try go_wp2
                    have n0_ := Aside0.mk (blk_drew BK299.out)
                    have n1_ := Aside0.mk (blk_drew BK302.out)
                    have n2_ := Aside0.mk (below_drew1 HB.out)
                    clear BK299
                    clear BK302
                    clear HB
                    have BK299 := n0_
                    have BK302 := n1_
                    have HB := n2_
                    clear n0_ n1_ n2_
                    have p307 : 0 ≤ (x6_2 : Int) := of_decide_eq_true (by first | (with_reducible assumption) | assumption)
                    have q307 : x6_2 < (l1.length : Int) := of_decide_eq_true (by first | (with_reducible assumption) | assumption)
                    obtain ⟨ad307, e307, hx307_0⟩ := Kd.at_int HR1.out x6_2 p307 q307
                    have hw307_0 := hx307_0
                    cases e307
                    replace hx307_0 := (HB.out.cell (World.block_lt_of_cell? w _ hx307_0)).trans hx307_0
                    replace p307 := eq_true p307
                    replace q307 := eq_true q307
                    refine start_ (n := 10) (S := fun w' => w'.cell? ⟨gb302, 0, none⟩ = some (.int .u64 x303000_2) ∧ w'.cell? ⟨gb302, 1, none⟩ = some (.int .u64 x303001_2) ∧ w'.cell? ⟨gb302, 2, none⟩ = some (.int .u64 x303002_2) ∧ w'.cell? ⟨gb302, 3, none⟩ = some (.int .u64 x303003_2) ∧ w'.cell? (ad307.add (x6_2).toNat) = some (.int .u64 (rd l1 x6_2))) (ds := [9]) #[false, false, false, false, false, false, false, false, false, false] (by kernel_rfl) rfl rfl ⟨(blk_cell BK302.out 0).trans rfl, (blk_cell BK302.out 1).trans rfl, (blk_cell BK302.out 2).trans rfl, (blk_cell BK302.out 3).trans rfl, ((HB.out.cell (World.block_lt_of_cell? w _ hw307_0)).trans hw307_0)⟩ (fun hHeld => ?_); refine with_tabW attestorref06_Hash.tab9 attestorref06_Hash.bits9 (fun HT_ HW_ => ?_)
                    generalize wr.drew = w25 at BK299 BK302 HB hx307_0 hHeld ⊢
                    refine pure_ (i := 0) (N := some 29) (v := ?_) (a' := ?_) #[true, false, false, false, false, false, false, false, false, false] rfl rfl (any_of HT_.out (by kernel_rfl)) (fun _ _ _ h => h) (Or.inl ⟨by rfl, ?_⟩) ?_ ?_
                    rotate_left
                    · intro w'
                      go_simp
                      with_reducible rfl
                    rotate_left
                    · simp only [Act.put, List.setIfInBounds_toArray, List.set_cons_zero, List.set_cons_succ, i64_w, i32_w]
                      rfl
                    refine pure_ (i := 1) (N := some 30) (v := ?_) (a' := ?_) #[true, true, false, false, false, false, false, false, false, false] rfl rfl (any_of HT_.out (by kernel_rfl)) (fun _ _ _ h => h) (Or.inl ⟨by rfl, ?_⟩) ?_ ?_
                    rotate_left
                    · intro w'
                      go_simp
                      with_reducible rfl
                    rotate_left
                    · simp only [Act.put, List.setIfInBounds_toArray, List.set_cons_zero, List.set_cons_succ, i64_w, i32_w]
                      rfl
                    refine pure_ (i := 3) (N := some 32) (v := ?_) (a' := ?_) #[true, true, false, true, false, false, false, false, false, false] rfl rfl (any_of HT_.out (by kernel_rfl)) (fun _ _ _ h => h) (Or.inl ⟨by rfl, ?_⟩) ?_ ?_
                    rotate_left
                    · intro w'
                      go_simp
                      with_reducible rfl
                    rotate_left
                    · simp only [Act.put, List.setIfInBounds_toArray, List.set_cons_zero, List.set_cons_succ, i64_w, i32_w]
                      rfl
                    refine pure_ (i := 4) (N := some 33) (v := ?_) (a' := ?_) #[true, true, false, true, true, false, false, false, false, false] rfl rfl (any_of HT_.out (by kernel_rfl)) (fun _ _ _ h => h) (Or.inl ⟨by rfl, ?_⟩) ?_ ?_
                    rotate_left
                    · intro w'
                      go_simp
                      with_reducible rfl
                    rotate_left
                    · simp only [Act.put, List.setIfInBounds_toArray, List.set_cons_zero, List.set_cons_succ, i64_w, i32_w]
                      rfl
                    refine pure_ (i := 5) (N := some 34) (v := ?_) (a' := ?_) #[true, true, false, true, true, true, false, false, false, false] rfl rfl (any_of HT_.out (by kernel_rfl)) (fun _ _ _ h => h) (Or.inl ⟨by rfl, ?_⟩) ?_ ?_
                    rotate_left
                    · intro w'
                      go_simp
                      with_reducible rfl
                    rotate_left
                    · simp only [Act.put, List.setIfInBounds_toArray, List.set_cons_zero, List.set_cons_succ, i64_w, i32_w]
                      rfl
                    refine take_ (i := 2) (N := some 31) (v := ?_) (a' := ?_) #[true, true, true, true, true, true, false, false, false, false] rfl rfl (take_ofW HT_.out HW_.out (by kernel_rfl)) (fun _ _ _ h => h) (Or.inl ⟨by rfl, ?_⟩) hHeld ?_ ?_
                    rotate_left
                    · rintro w' ⟨s0, s1, s2, s3, s4⟩
                      go_simp
                      with_reducible rfl
                    rotate_left
                    · simp only [Act.put, List.setIfInBounds_toArray, List.set_cons_zero, List.set_cons_succ, i64_w, i32_w]
                      rfl
                    refine take_ (i := 6) (N := some 35) (v := ?_) (a' := ?_) #[true, true, true, true, true, true, true, false, false, false] rfl rfl (take_ofW HT_.out HW_.out (by kernel_rfl)) (fun _ _ _ h => h) (Or.inl ⟨by rfl, ?_⟩) hHeld ?_ ?_
                    rotate_left
                    · rintro w' ⟨s0, s1, s2, s3, s4⟩
                      go_simp
                      with_reducible rfl
                    rotate_left
                    · simp only [Act.put, List.setIfInBounds_toArray, List.set_cons_zero, List.set_cons_succ, i64_w, i32_w]
                      rfl
                    refine one_ (i := 7) (N := some 36) #[true, true, true, true, true, true, true, true, false, false] rfl rfl (one_of HT_.out (by kernel_rfl)) (by decide) (fun K hK => ?_)
                    refine goes_ Tryd.func41 (by kernel_rfl) rfl #[.int .i64 a0, .int .u64 x303000_2, .int .u64 (rd l1 x6_2)] (by rfl) rfl rfl (by (try simp only [List.map_toArray, List.map_cons, List.map_nil]); first | done | rfl | (simp only [List.length_drop, List.length_take]; rfl) | (go_simp; done) | (go_simp; rw [Int.tmod_eq_emod_of_nonneg (by omega)]; omega)) ?_
                    with_reducible refine (attestorref01_Add.calls a0 x303000_2 (rd l1 x6_2) t308 _ A19.out).mono ?_
                    rintro e w' ⟨rfl, ⟨nd, rfl⟩⟩
                    refine ⟨_, rfl, ?_⟩
                    (try (rw [drewN_self w25]; generalize hq_ : World.drewN w25 _ = w25; have n0_ := Aside0.mk (blk_at hq_ BK299.out); have n1_ := Aside0.mk (blk_at hq_ BK302.out); have n2_ := Aside0.mk (below_at hq_ HB.out); clear hq_ BK299 BK302 HB; have BK299 := n0_; have BK302 := n1_; have HB := n2_; clear n0_ n1_ n2_))
                    refine hK.out _ _ ⟨(blk_cell BK302.out 0).trans rfl, (blk_cell BK302.out 1).trans rfl, (blk_cell BK302.out 2).trans rfl, (blk_cell BK302.out 3).trans rfl, ((HB.out.cell (World.block_lt_of_cell? w _ hw307_0)).trans hw307_0)⟩ (fun hHeld => ?_)
                    clear hK K
                    refine norm_ (a' := ?_) ?_ ?_
                    rotate_left
                    · show Act.put _ (some 36) _ = _
                      simp only [Act.put, List.setIfInBounds_toArray, List.set_cons_zero, List.set_cons_succ, i64_w, i32_w]
                      rfl
                    refine pure_ (i := 8) (N := some 37) (v := ?_) (a' := ?_) #[true, true, true, true, true, true, true, true, true, false] rfl rfl (any_of HT_.out (by kernel_rfl)) (fun _ _ _ h => h) (Or.inl ⟨by rfl, ?_⟩) ?_ ?_
                    rotate_left
                    · intro w'
                      go_simp
                      with_reducible rfl
                    rotate_left
                    · simp only [Act.put, List.setIfInBounds_toArray, List.set_cons_zero, List.set_cons_succ, i64_w, i32_w]
                      rfl
                    refine last_ (i := 9) (N := none) #[true, true, true, true, true, true, true, true, true, true] rfl rfl (one_of HT_.out (by kernel_rfl)) (by decide) (fun K hK => ?_)
                    have hs26 : w25.cell? ⟨gb302, 0, none⟩ = some (.int .u64 x303000_2) := (blk_cell BK302.out 0).trans rfl
                    have hfs26 := blk_frozen BK302.out 0
                    have hns26_0 := NB299_302.out
                    have hms26_0 := NB302_299.out
                    refine skip_ (w1 := ?_) (by rfl) rfl ?_ ?_
                    rotate_left
                    · go_simp
                      rfl
                    refine hK.out _ _ ?_
                    clear hK K
                    refine done_ (done_of HT_.out (by kernel_rfl)) ?_
                    try go_wp2
                    have n0_ : Aside0 ((w25.setCell ⟨gb302, 0, none⟩ (.int .u64 t308)).heap[gb299]? = some (.cells #[.int .u64 0, .int .u64 0] 49 (0, 0))) := ⟨by (with_reducible repeat (first | refine blk_drewN ?_ _ | refine blk_drew ?_ | refine blk_alloc ?_ _)); refine blk_far ?_ NB299_302.out _; (with_reducible repeat (first | refine blk_drewN ?_ _ | refine blk_drew ?_ | refine blk_alloc ?_ _)); exact BK299.out⟩
                    have n1_ : Aside0 ((w25.setCell ⟨gb302, 0, none⟩ (.int .u64 t308)).heap[gb302]? = some (.cells #[.int .u64 t308, .int .u64 x303001_2, .int .u64 x303002_2, .int .u64 x303003_2] 64 (0, 0))) := ⟨by (with_reducible repeat (first | refine blk_drewN ?_ _ | refine blk_drew ?_ | refine blk_alloc ?_ _)); refine blk_put (cs := #[.int .u64 x303000_2, .int .u64 x303001_2, .int .u64 x303002_2, .int .u64 x303003_2]) ?_ 0 _ rfl; (with_reducible repeat (first | refine blk_drewN ?_ _ | refine blk_drew ?_ | refine blk_alloc ?_ _)); exact BK302.out⟩
                    have n2_ : Aside0 (Below w.heap.size w (w25.setCell ⟨gb302, 0, none⟩ (.int .u64 t308))) := ⟨by repeat (first | (with_reducible first | exact HB.out | apply below_alloc | apply pw_below_drewN | apply below_drew1 | refine below_set ?_ GE299.out | refine below_set ?_ GE302.out) | exact HB.out)⟩
                    (try clear BK299)
                    (try clear BK302)
                    (try clear HB)
                    generalize (w25.setCell ⟨gb302, 0, none⟩ (.int .u64 t308)) = w27 at n0_ n1_ n2_ ⊢
                    have BK299 := n0_
                    have BK302 := n1_
                    have HB := n2_
                    clear n0_ n1_ n2_
                    have n0_ := Aside0.mk (blk_drew BK299.out)
                    have n1_ := Aside0.mk (blk_drew BK302.out)
                    have n2_ := Aside0.mk (below_drew1 HB.out)
                    clear BK299
                    clear BK302
                    clear HB
                    have BK299 := n0_
                    have BK302 := n1_
                    have HB := n2_
                    clear n0_ n1_ n2_
                    have p309 : 0 ≤ ((ji21) : Int) := of_decide_eq_true (by first | (with_reducible assumption) | assumption)
                    have q309 : (ji21) < (l1.length : Int) := of_decide_eq_true (by first | (with_reducible assumption) | assumption)
                    obtain ⟨ad309, e309, hx309_0⟩ := Kd.at_int HR1.out (ji21) p309 q309
                    have hw309_0 := hx309_0
                    obtain rfl : ad307 = ad309 := (by injection e309)
                    replace hx309_0 := (HB.out.cell (World.block_lt_of_cell? w _ hx309_0)).trans hx309_0
                    replace p309 := eq_true p309
                    replace q309 := eq_true q309
                    refine start_ (n := 11) (S := fun w' => w'.cell? ⟨gb302, 0, none⟩ = some (.int .u64 t308) ∧ w'.cell? ⟨gb302, 1, none⟩ = some (.int .u64 x303001_2) ∧ w'.cell? ⟨gb302, 2, none⟩ = some (.int .u64 x303002_2) ∧ w'.cell? ⟨gb302, 3, none⟩ = some (.int .u64 x303003_2) ∧ w'.cell? (ad307.add ((ji21)).toNat) = some (.int .u64 (rd l1 (ji21)))) (ds := [10]) #[false, false, false, false, false, false, false, false, false, false, false] (by kernel_rfl) rfl rfl ⟨(blk_cell BK302.out 0).trans rfl, (blk_cell BK302.out 1).trans rfl, (blk_cell BK302.out 2).trans rfl, (blk_cell BK302.out 3).trans rfl, ((HB.out.cell (World.block_lt_of_cell? w _ hw309_0)).trans hw309_0)⟩ (fun hHeld => ?_); refine with_tabW attestorref06_Hash.tab11 attestorref06_Hash.bits11 (fun HT_ HW_ => ?_)
                    generalize w27.drew = w28 at BK299 BK302 HB hx309_0 hHeld ⊢
                    refine pure_ (i := 0) (N := some 43) (v := ?_) (a' := ?_) #[true, false, false, false, false, false, false, false, false, false, false] rfl rfl (any_of HT_.out (by kernel_rfl)) (fun _ _ _ h => h) (Or.inl ⟨by rfl, ?_⟩) ?_ ?_
                    rotate_left
                    · intro w'
                      go_simp
                      with_reducible rfl
                    rotate_left
                    · simp only [Act.put, List.setIfInBounds_toArray, List.set_cons_zero, List.set_cons_succ, i64_w, i32_w]
                      rfl
                    refine pure_ (i := 1) (N := some 44) (v := ?_) (a' := ?_) #[true, true, false, false, false, false, false, false, false, false, false] rfl rfl (any_of HT_.out (by kernel_rfl)) (fun _ _ _ h => h) (Or.inl ⟨by rfl, ?_⟩) ?_ ?_
                    rotate_left
                    · intro w'
                      go_simp
                      with_reducible rfl
                    rotate_left
                    · simp only [Act.put, List.setIfInBounds_toArray, List.set_cons_zero, List.set_cons_succ, i64_w, i32_w]
                      rfl
                    refine pure_ (i := 3) (N := some 46) (v := ?_) (a' := ?_) #[true, true, false, true, false, false, false, false, false, false, false] rfl rfl (any_of HT_.out (by kernel_rfl)) (fun _ _ _ h => h) (Or.inl ⟨by rfl, ?_⟩) ?_ ?_
                    rotate_left
                    · intro w'
                      go_simp
                      with_reducible rfl
                    rotate_left
                    · simp only [Act.put, List.setIfInBounds_toArray, List.set_cons_zero, List.set_cons_succ, i64_w, i32_w]
                      rfl
                    refine pure_ (i := 4) (N := some 47) (v := ?_) (a' := ?_) #[true, true, false, true, true, false, false, false, false, false, false] rfl rfl (any_of HT_.out (by kernel_rfl)) (fun _ _ _ h => h) (Or.inl ⟨by rfl, ?_⟩) ?_ ?_
                    rotate_left
                    · intro w'
                      go_simp
                      with_reducible rfl
                    rotate_left
                    · simp only [Act.put, List.setIfInBounds_toArray, List.set_cons_zero, List.set_cons_succ, i64_w, i32_w]
                      rfl
                    refine pure_ (i := 5) (N := some 48) (v := ?_) (a' := ?_) #[true, true, false, true, true, true, false, false, false, false, false] rfl rfl (any_of HT_.out (by kernel_rfl)) (fun _ _ _ h => h) (Or.inl ⟨by rfl, ?_⟩) ?_ ?_
                    rotate_left
                    · intro w'
                      go_simp
                      with_reducible rfl
                    rotate_left
                    · simp only [Act.put, List.setIfInBounds_toArray, List.set_cons_zero, List.set_cons_succ, i64_w, i32_w]
                      rfl
                    refine pure_ (i := 6) (N := some 49) (v := ?_) (a' := ?_) #[true, true, false, true, true, true, true, false, false, false, false] rfl rfl (any_of HT_.out (by kernel_rfl)) (fun _ _ _ h => h) (Or.inl ⟨by rfl, ?_⟩) ?_ ?_
                    rotate_left
                    · intro w'
                      go_simp
                      with_reducible rfl
                    rotate_left
                    · simp only [Act.put, List.setIfInBounds_toArray, List.set_cons_zero, List.set_cons_succ, i64_w, i32_w]
                      rfl
                    refine take_ (i := 2) (N := some 45) (v := ?_) (a' := ?_) #[true, true, true, true, true, true, true, false, false, false, false] rfl rfl (take_ofW HT_.out HW_.out (by kernel_rfl)) (fun _ _ _ h => h) (Or.inl ⟨by rfl, ?_⟩) hHeld ?_ ?_
                    rotate_left
                    · rintro w' ⟨s0, s1, s2, s3, s4⟩
                      go_simp
                      with_reducible rfl
                    rotate_left
                    · simp only [Act.put, List.setIfInBounds_toArray, List.set_cons_zero, List.set_cons_succ, i64_w, i32_w]
                      rfl
                    refine take_ (i := 7) (N := some 50) (v := ?_) (a' := ?_) #[true, true, true, true, true, true, true, true, false, false, false] rfl rfl (take_ofW HT_.out HW_.out (by kernel_rfl)) (fun _ _ _ h => h) (Or.inl ⟨by rfl, ?_⟩) hHeld ?_ ?_
                    rotate_left
                    · rintro w' ⟨s0, s1, s2, s3, s4⟩
                      go_simp
                      with_reducible rfl
                    rotate_left
                    · simp only [Act.put, List.setIfInBounds_toArray, List.set_cons_zero, List.set_cons_succ, i64_w, i32_w]
                      rfl
                    refine one_ (i := 8) (N := some 51) #[true, true, true, true, true, true, true, true, true, false, false] rfl rfl (one_of HT_.out (by kernel_rfl)) (by decide) (fun K hK => ?_)
                    refine goes_ Tryd.func41 (by kernel_rfl) rfl #[.int .i64 a0, .int .u64 x303001_2, .int .u64 (rd l1 (ji21))] (by rfl) rfl rfl (by (try simp only [List.map_toArray, List.map_cons, List.map_nil]); first | done | (simp only [hji21]; rfl) | rfl | (simp only [List.length_drop, List.length_take]; rfl) | (go_simp; done) | (go_simp; rw [Int.tmod_eq_emod_of_nonneg (by omega)]; omega)) ?_
                    with_reducible refine (attestorref01_Add.calls a0 x303001_2 (rd l1 (ji21)) t310 _ A23.out).mono ?_
                    rintro e w' ⟨rfl, ⟨nd, rfl⟩⟩
                    refine ⟨_, rfl, ?_⟩
                    (try (rw [drewN_self w28]; generalize hq_ : World.drewN w28 _ = w28; have n0_ := Aside0.mk (blk_at hq_ BK299.out); have n1_ := Aside0.mk (blk_at hq_ BK302.out); have n2_ := Aside0.mk (below_at hq_ HB.out); clear hq_ BK299 BK302 HB; have BK299 := n0_; have BK302 := n1_; have HB := n2_; clear n0_ n1_ n2_))
                    refine hK.out _ _ ⟨(blk_cell BK302.out 0).trans rfl, (blk_cell BK302.out 1).trans rfl, (blk_cell BK302.out 2).trans rfl, (blk_cell BK302.out 3).trans rfl, ((HB.out.cell (World.block_lt_of_cell? w _ hw309_0)).trans hw309_0)⟩ (fun hHeld => ?_)
                    clear hK K
                    refine norm_ (a' := ?_) ?_ ?_
                    rotate_left
                    · show Act.put _ (some 51) _ = _
                      simp only [Act.put, List.setIfInBounds_toArray, List.set_cons_zero, List.set_cons_succ, i64_w, i32_w]
                      rfl
                    refine pure_ (i := 9) (N := some 52) (v := ?_) (a' := ?_) #[true, true, true, true, true, true, true, true, true, true, false] rfl rfl (any_of HT_.out (by kernel_rfl)) (fun _ _ _ h => h) (Or.inl ⟨by rfl, ?_⟩) ?_ ?_
                    rotate_left
                    · intro w'
                      go_simp
                      with_reducible rfl
                    rotate_left
                    · simp only [Act.put, List.setIfInBounds_toArray, List.set_cons_zero, List.set_cons_succ, i64_w, i32_w]
                      rfl
                    refine last_ (i := 10) (N := none) #[true, true, true, true, true, true, true, true, true, true, true] rfl rfl (one_of HT_.out (by kernel_rfl)) (by decide) (fun K hK => ?_)
                    have hs29 : w28.cell? ⟨gb302, 1, none⟩ = some (.int .u64 x303001_2) := (blk_cell BK302.out 1).trans rfl
                    have hfs29 := blk_frozen BK302.out 1
                    have hns29_0 := NB299_302.out
                    have hms29_0 := NB302_299.out
                    refine skip_ (w1 := ?_) (by rfl) rfl ?_ ?_
                    rotate_left
                    · go_simp
                      rfl
                    refine hK.out _ _ ?_
                    clear hK K
                    refine done_ (done_of HT_.out (by kernel_rfl)) ?_
                    have hnb30 := NB302_299.out
                    have hnc30 := NB299_302.out
                    have hcz31_0 : w28.cell? ⟨gb302, 0, none⟩ = some (.int .u64 t308) := (blk_cell BK302.out 0).trans rfl
                    have hcz31_1 : w28.cell? ⟨gb302, 1, none⟩ = some (.int .u64 x303001_2) := (blk_cell BK302.out 1).trans rfl
                    have hcz31_2 : w28.cell? ⟨gb302, 2, none⟩ = some (.int .u64 x303002_2) := (blk_cell BK302.out 2).trans rfl
                    have hcz31_3 : w28.cell? ⟨gb302, 3, none⟩ = some (.int .u64 x303003_2) := (blk_cell BK302.out 3).trans rfl
                    have hfz31_0 := blk_frozen BK302.out 0
                    have hfz31_1 := blk_frozen BK302.out 1
                    have hfz31_2 := blk_frozen BK302.out 2
                    have hfz31_3 := blk_frozen BK302.out 3
                    try go_wp2_with (first | ((with_reducible refine gate_callee (f := 42) rfl ?_); refine goesL_ (some 55) rfl rfl Tryd.func42 (by kernel_rfl) rfl #[.int .i64 a0, .agg #[.int .u64 t308, .int .u64 t310, .int .u64 x303002_2, .int .u64 x303003_2]] rfl (by (try simp only [List.map_toArray, List.map_cons, List.map_nil]); first | done | rfl | (simp only [List.length_drop, List.length_take]; rfl) | (go_simp; done) | (go_simp; rw [Int.tmod_eq_emod_of_nonneg (by omega)]; omega)) ?_; (with_reducible refine (attestorref06_Perm.calls k2 a0 t308 t310 x303002_2 x303003_2 t311 t312 t313 t314 _ A24.out).mono ?_); rintro e w32 ⟨rfl, hb⟩; refine ⟨_, rfl, ?_⟩; have n0_ := Aside0.mk (blk_below (g := gb299) (o := .cells #[.int .u64 0, .int .u64 0] 49 (0, 0)) (by (with_reducible repeat (first | refine blk_drewN ?_ _ | refine blk_drew ?_ | refine blk_alloc ?_ _)); refine blk_far ?_ NB299_302.out _; (with_reducible repeat (first | refine blk_drewN ?_ _ | refine blk_drew ?_ | refine blk_alloc ?_ _)); exact BK299.out) hb); have n1_ := Aside0.mk (blk_below (g := gb302) (o := .cells #[.int .u64 t308, .int .u64 t310, .int .u64 x303002_2, .int .u64 x303003_2] 64 (0, 0)) (by (with_reducible repeat (first | refine blk_drewN ?_ _ | refine blk_drew ?_ | refine blk_alloc ?_ _)); refine blk_put (cs := #[.int .u64 t308, .int .u64 x303001_2, .int .u64 x303002_2, .int .u64 x303003_2]) ?_ 1 _ rfl; (with_reducible repeat (first | refine blk_drewN ?_ _ | refine blk_drew ?_ | refine blk_alloc ?_ _)); exact BK302.out) hb); have n2_ := Aside0.mk (below_step (by repeat (first | (with_reducible first | exact HB.out | apply below_alloc | apply pw_below_drewN | apply below_drew1 | refine below_set ?_ GE299.out | refine below_set ?_ GE302.out) | exact HB.out)) hb); clear BK299; clear BK302; clear HB; have BK299 := n0_; have BK302 := n1_; have HB := n2_; clear n0_ n1_ n2_; (try clear hb); (try clear hb2); (try clear hk); (try clear hi); have hcz33_0 : w32.cell? ⟨gb302, 0, none⟩ = some (.int .u64 t308) := (blk_cell BK302.out 0).trans rfl; have hcz33_1 : w32.cell? ⟨gb302, 1, none⟩ = some (.int .u64 t310) := (blk_cell BK302.out 1).trans rfl; have hcz33_2 : w32.cell? ⟨gb302, 2, none⟩ = some (.int .u64 x303002_2) := (blk_cell BK302.out 2).trans rfl; have hcz33_3 : w32.cell? ⟨gb302, 3, none⟩ = some (.int .u64 x303003_2) := (blk_cell BK302.out 3).trans rfl; have hfz33_0 := blk_frozen BK302.out 0; have hfz33_1 := blk_frozen BK302.out 1; have hfz33_2 := blk_frozen BK302.out 2; have hfz33_3 := blk_frozen BK302.out 3))
                    go_roundg k2
                    case measure => have := HJ5.out; have := HK2.out; omega
                    case rel => exact ⟨(wrap64 (x6_2 + 2)), (t311), (t312), (t313), (t314), (by first | rfl | (simp; done) | (simp [*]; done) | (simp; rfl) | (simp; decide +kernel)), H', ⟨by have := HJ5.out; have := HK2.out; omega⟩, ⟨by (with_reducible repeat (first | refine blk_drewN ?_ _ | refine blk_drew ?_ | refine blk_alloc ?_ _)); refine blk_far ?_ NB299_302.out _; (with_reducible repeat (first | refine blk_drewN ?_ _ | refine blk_drew ?_ | refine blk_alloc ?_ _)); refine blk_far ?_ NB299_302.out _; (with_reducible repeat (first | refine blk_drewN ?_ _ | refine blk_drew ?_ | refine blk_alloc ?_ _)); refine blk_far ?_ NB299_302.out _; (with_reducible repeat (first | refine blk_drewN ?_ _ | refine blk_drew ?_ | refine blk_alloc ?_ _)); refine blk_far ?_ NB299_302.out _; (with_reducible repeat (first | refine blk_drewN ?_ _ | refine blk_drew ?_ | refine blk_alloc ?_ _)); exact BK299.out⟩, ⟨by (with_reducible repeat (first | refine blk_drewN ?_ _ | refine blk_drew ?_ | refine blk_alloc ?_ _)); refine blk_put (cs := #[.int .u64 t311, .int .u64 t312, .int .u64 t313, .int .u64 x303003_2]) ?_ 3 _ rfl; (with_reducible repeat (first | refine blk_drewN ?_ _ | refine blk_drew ?_ | refine blk_alloc ?_ _)); refine blk_put (cs := #[.int .u64 t311, .int .u64 t312, .int .u64 x303002_2, .int .u64 x303003_2]) ?_ 2 _ rfl; (with_reducible repeat (first | refine blk_drewN ?_ _ | refine blk_drew ?_ | refine blk_alloc ?_ _)); refine blk_put (cs := #[.int .u64 t311, .int .u64 t310, .int .u64 x303002_2, .int .u64 x303003_2]) ?_ 1 _ rfl; (with_reducible repeat (first | refine blk_drewN ?_ _ | refine blk_drew ?_ | refine blk_alloc ?_ _)); refine blk_put (cs := #[.int .u64 t308, .int .u64 t310, .int .u64 x303002_2, .int .u64 x303003_2]) ?_ 0 _ rfl; (with_reducible repeat (first | refine blk_drewN ?_ _ | refine blk_drew ?_ | refine blk_alloc ?_ _)); exact BK302.out⟩, ⟨by repeat (first | (with_reducible first | exact HB.out | apply below_alloc | apply pw_below_drewN | apply below_drew1 | refine below_set ?_ GE299.out | refine below_set ?_ GE302.out) | exact HB.out)⟩⟩
                  · rw [if_neg c22] at H
                    exact absurd H (by simp)
                · rw [if_neg c20] at H
                  have c20b0 : decide ((wrap64 (x6_2 + 1)) < (l1.length : Int)) = false := decide_eq_false c20
                  clear c20
                  replace H := Option.bind_eq_some_iff.mp H
                  obtain ⟨⟨t315, t316, t317, t318⟩, A340, H⟩ := H
                  replace H : (attestorref06_Hash.l0 k2 a0 l1 (wrap64 (x6_2 + 2)) t315 t316 t317 t318) = some (r1, r2) := H
                  have A34 := Aside0.mk A340
                  clear A340
                  have H' := Aside0.mk H
                  clear H
                  try go_wp2
                  have n0_ := Aside0.mk (blk_drew BK299.out)
                  have n1_ := Aside0.mk (blk_drew BK302.out)
                  have n2_ := Aside0.mk (below_drew1 HB.out)
                  clear BK299
                  clear BK302
                  clear HB
                  have BK299 := n0_
                  have BK302 := n1_
                  have HB := n2_
                  clear n0_ n1_ n2_
                  have p307 : 0 ≤ (x6_2 : Int) := of_decide_eq_true (by first | (with_reducible assumption) | assumption)
                  have q307 : x6_2 < (l1.length : Int) := of_decide_eq_true (by first | (with_reducible assumption) | assumption)
                  obtain ⟨ad307, e307, hx307_0⟩ := Kd.at_int HR1.out x6_2 p307 q307
                  have hw307_0 := hx307_0
                  cases e307
                  replace hx307_0 := (HB.out.cell (World.block_lt_of_cell? w _ hx307_0)).trans hx307_0
                  replace p307 := eq_true p307
                  replace q307 := eq_true q307
                  refine start_ (n := 10) (S := fun w' => w'.cell? ⟨gb302, 0, none⟩ = some (.int .u64 x303000_2) ∧ w'.cell? ⟨gb302, 1, none⟩ = some (.int .u64 x303001_2) ∧ w'.cell? ⟨gb302, 2, none⟩ = some (.int .u64 x303002_2) ∧ w'.cell? ⟨gb302, 3, none⟩ = some (.int .u64 x303003_2) ∧ w'.cell? (ad307.add (x6_2).toNat) = some (.int .u64 (rd l1 x6_2))) (ds := [9]) #[false, false, false, false, false, false, false, false, false, false] (by kernel_rfl) rfl rfl ⟨(blk_cell BK302.out 0).trans rfl, (blk_cell BK302.out 1).trans rfl, (blk_cell BK302.out 2).trans rfl, (blk_cell BK302.out 3).trans rfl, ((HB.out.cell (World.block_lt_of_cell? w _ hw307_0)).trans hw307_0)⟩ (fun hHeld => ?_); refine with_tabW attestorref06_Hash.tab9 attestorref06_Hash.bits9 (fun HT_ HW_ => ?_)
                  generalize wr.drew = w35 at BK299 BK302 HB hx307_0 hHeld ⊢
                  refine pure_ (i := 0) (N := some 29) (v := ?_) (a' := ?_) #[true, false, false, false, false, false, false, false, false, false] rfl rfl (any_of HT_.out (by kernel_rfl)) (fun _ _ _ h => h) (Or.inl ⟨by rfl, ?_⟩) ?_ ?_
                  rotate_left
                  · intro w'
                    go_simp
                    with_reducible rfl
                  rotate_left
                  · simp only [Act.put, List.setIfInBounds_toArray, List.set_cons_zero, List.set_cons_succ, i64_w, i32_w]
                    rfl
                  refine pure_ (i := 1) (N := some 30) (v := ?_) (a' := ?_) #[true, true, false, false, false, false, false, false, false, false] rfl rfl (any_of HT_.out (by kernel_rfl)) (fun _ _ _ h => h) (Or.inl ⟨by rfl, ?_⟩) ?_ ?_
                  rotate_left
                  · intro w'
                    go_simp
                    with_reducible rfl
                  rotate_left
                  · simp only [Act.put, List.setIfInBounds_toArray, List.set_cons_zero, List.set_cons_succ, i64_w, i32_w]
                    rfl
                  refine pure_ (i := 3) (N := some 32) (v := ?_) (a' := ?_) #[true, true, false, true, false, false, false, false, false, false] rfl rfl (any_of HT_.out (by kernel_rfl)) (fun _ _ _ h => h) (Or.inl ⟨by rfl, ?_⟩) ?_ ?_
                  rotate_left
                  · intro w'
                    go_simp
                    with_reducible rfl
                  rotate_left
                  · simp only [Act.put, List.setIfInBounds_toArray, List.set_cons_zero, List.set_cons_succ, i64_w, i32_w]
                    rfl
                  refine pure_ (i := 4) (N := some 33) (v := ?_) (a' := ?_) #[true, true, false, true, true, false, false, false, false, false] rfl rfl (any_of HT_.out (by kernel_rfl)) (fun _ _ _ h => h) (Or.inl ⟨by rfl, ?_⟩) ?_ ?_
                  rotate_left
                  · intro w'
                    go_simp
                    with_reducible rfl
                  rotate_left
                  · simp only [Act.put, List.setIfInBounds_toArray, List.set_cons_zero, List.set_cons_succ, i64_w, i32_w]
                    rfl
                  refine pure_ (i := 5) (N := some 34) (v := ?_) (a' := ?_) #[true, true, false, true, true, true, false, false, false, false] rfl rfl (any_of HT_.out (by kernel_rfl)) (fun _ _ _ h => h) (Or.inl ⟨by rfl, ?_⟩) ?_ ?_
                  rotate_left
                  · intro w'
                    go_simp
                    with_reducible rfl
                  rotate_left
                  · simp only [Act.put, List.setIfInBounds_toArray, List.set_cons_zero, List.set_cons_succ, i64_w, i32_w]
                    rfl
                  refine take_ (i := 2) (N := some 31) (v := ?_) (a' := ?_) #[true, true, true, true, true, true, false, false, false, false] rfl rfl (take_ofW HT_.out HW_.out (by kernel_rfl)) (fun _ _ _ h => h) (Or.inl ⟨by rfl, ?_⟩) hHeld ?_ ?_
                  rotate_left
                  · rintro w' ⟨s0, s1, s2, s3, s4⟩
                    go_simp
                    with_reducible rfl
                  rotate_left
                  · simp only [Act.put, List.setIfInBounds_toArray, List.set_cons_zero, List.set_cons_succ, i64_w, i32_w]
                    rfl
                  refine take_ (i := 6) (N := some 35) (v := ?_) (a' := ?_) #[true, true, true, true, true, true, true, false, false, false] rfl rfl (take_ofW HT_.out HW_.out (by kernel_rfl)) (fun _ _ _ h => h) (Or.inl ⟨by rfl, ?_⟩) hHeld ?_ ?_
                  rotate_left
                  · rintro w' ⟨s0, s1, s2, s3, s4⟩
                    go_simp
                    with_reducible rfl
                  rotate_left
                  · simp only [Act.put, List.setIfInBounds_toArray, List.set_cons_zero, List.set_cons_succ, i64_w, i32_w]
                    rfl
                  refine one_ (i := 7) (N := some 36) #[true, true, true, true, true, true, true, true, false, false] rfl rfl (one_of HT_.out (by kernel_rfl)) (by decide) (fun K hK => ?_)
                  refine goes_ Tryd.func41 (by kernel_rfl) rfl #[.int .i64 a0, .int .u64 x303000_2, .int .u64 (rd l1 x6_2)] (by rfl) rfl rfl (by (try simp only [List.map_toArray, List.map_cons, List.map_nil]); first | done | rfl | (simp only [List.length_drop, List.length_take]; rfl) | (go_simp; done) | (go_simp; rw [Int.tmod_eq_emod_of_nonneg (by omega)]; omega)) ?_
                  with_reducible refine (attestorref01_Add.calls a0 x303000_2 (rd l1 x6_2) t308 _ A19.out).mono ?_
                  rintro e w' ⟨rfl, ⟨nd, rfl⟩⟩
                  refine ⟨_, rfl, ?_⟩
                  (try (rw [drewN_self w35]; generalize hq_ : World.drewN w35 _ = w35; have n0_ := Aside0.mk (blk_at hq_ BK299.out); have n1_ := Aside0.mk (blk_at hq_ BK302.out); have n2_ := Aside0.mk (below_at hq_ HB.out); clear hq_ BK299 BK302 HB; have BK299 := n0_; have BK302 := n1_; have HB := n2_; clear n0_ n1_ n2_))
                  refine hK.out _ _ ⟨(blk_cell BK302.out 0).trans rfl, (blk_cell BK302.out 1).trans rfl, (blk_cell BK302.out 2).trans rfl, (blk_cell BK302.out 3).trans rfl, ((HB.out.cell (World.block_lt_of_cell? w _ hw307_0)).trans hw307_0)⟩ (fun hHeld => ?_)
                  clear hK K
                  refine norm_ (a' := ?_) ?_ ?_
                  rotate_left
                  · show Act.put _ (some 36) _ = _
                    simp only [Act.put, List.setIfInBounds_toArray, List.set_cons_zero, List.set_cons_succ, i64_w, i32_w]
                    rfl
                  refine pure_ (i := 8) (N := some 37) (v := ?_) (a' := ?_) #[true, true, true, true, true, true, true, true, true, false] rfl rfl (any_of HT_.out (by kernel_rfl)) (fun _ _ _ h => h) (Or.inl ⟨by rfl, ?_⟩) ?_ ?_
                  rotate_left
                  · intro w'
                    go_simp
                    with_reducible rfl
                  rotate_left
                  · simp only [Act.put, List.setIfInBounds_toArray, List.set_cons_zero, List.set_cons_succ, i64_w, i32_w]
                    rfl
                  refine last_ (i := 9) (N := none) #[true, true, true, true, true, true, true, true, true, true] rfl rfl (one_of HT_.out (by kernel_rfl)) (by decide) (fun K hK => ?_)
                  have hs36 : w35.cell? ⟨gb302, 0, none⟩ = some (.int .u64 x303000_2) := (blk_cell BK302.out 0).trans rfl
                  have hfs36 := blk_frozen BK302.out 0
                  have hns36_0 := NB299_302.out
                  have hms36_0 := NB302_299.out
                  refine skip_ (w1 := ?_) (by rfl) rfl ?_ ?_
                  rotate_left
                  · go_simp
                    rfl
                  refine hK.out _ _ ?_
                  clear hK K
                  refine done_ (done_of HT_.out (by kernel_rfl)) ?_
                  have hnb37 := NB302_299.out
                  have hnc37 := NB299_302.out
                  have hcz38_0 : w35.cell? ⟨gb302, 0, none⟩ = some (.int .u64 x303000_2) := (blk_cell BK302.out 0).trans rfl
                  have hcz38_1 : w35.cell? ⟨gb302, 1, none⟩ = some (.int .u64 x303001_2) := (blk_cell BK302.out 1).trans rfl
                  have hcz38_2 : w35.cell? ⟨gb302, 2, none⟩ = some (.int .u64 x303002_2) := (blk_cell BK302.out 2).trans rfl
                  have hcz38_3 : w35.cell? ⟨gb302, 3, none⟩ = some (.int .u64 x303003_2) := (blk_cell BK302.out 3).trans rfl
                  have hfz38_0 := blk_frozen BK302.out 0
                  have hfz38_1 := blk_frozen BK302.out 1
                  have hfz38_2 := blk_frozen BK302.out 2
                  have hfz38_3 := blk_frozen BK302.out 3
                  try go_wp2_with (first | ((with_reducible refine gate_callee (f := 42) rfl ?_); refine goesL_ (some 55) rfl rfl Tryd.func42 (by kernel_rfl) rfl #[.int .i64 a0, .agg #[.int .u64 t308, .int .u64 x303001_2, .int .u64 x303002_2, .int .u64 x303003_2]] rfl (by (try simp only [List.map_toArray, List.map_cons, List.map_nil]); first | done | rfl | (simp only [List.length_drop, List.length_take]; rfl) | (go_simp; done) | (go_simp; rw [Int.tmod_eq_emod_of_nonneg (by omega)]; omega)) ?_; (with_reducible refine (attestorref06_Perm.calls k2 a0 t308 x303001_2 x303002_2 x303003_2 t315 t316 t317 t318 _ A34.out).mono ?_); rintro e w39 ⟨rfl, hb⟩; refine ⟨_, rfl, ?_⟩; have n0_ := Aside0.mk (blk_below (g := gb299) (o := .cells #[.int .u64 0, .int .u64 0] 49 (0, 0)) (by (with_reducible repeat (first | refine blk_drewN ?_ _ | refine blk_drew ?_ | refine blk_alloc ?_ _)); refine blk_far ?_ NB299_302.out _; (with_reducible repeat (first | refine blk_drewN ?_ _ | refine blk_drew ?_ | refine blk_alloc ?_ _)); exact BK299.out) hb); have n1_ := Aside0.mk (blk_below (g := gb302) (o := .cells #[.int .u64 t308, .int .u64 x303001_2, .int .u64 x303002_2, .int .u64 x303003_2] 64 (0, 0)) (by (with_reducible repeat (first | refine blk_drewN ?_ _ | refine blk_drew ?_ | refine blk_alloc ?_ _)); refine blk_put (cs := #[.int .u64 x303000_2, .int .u64 x303001_2, .int .u64 x303002_2, .int .u64 x303003_2]) ?_ 0 _ rfl; (with_reducible repeat (first | refine blk_drewN ?_ _ | refine blk_drew ?_ | refine blk_alloc ?_ _)); exact BK302.out) hb); have n2_ := Aside0.mk (below_step (by repeat (first | (with_reducible first | exact HB.out | apply below_alloc | apply pw_below_drewN | apply below_drew1 | refine below_set ?_ GE299.out | refine below_set ?_ GE302.out) | exact HB.out)) hb); clear BK299; clear BK302; clear HB; have BK299 := n0_; have BK302 := n1_; have HB := n2_; clear n0_ n1_ n2_; (try clear hb); (try clear hb2); (try clear hk); (try clear hi); have hcz40_0 : w39.cell? ⟨gb302, 0, none⟩ = some (.int .u64 t308) := (blk_cell BK302.out 0).trans rfl; have hcz40_1 : w39.cell? ⟨gb302, 1, none⟩ = some (.int .u64 x303001_2) := (blk_cell BK302.out 1).trans rfl; have hcz40_2 : w39.cell? ⟨gb302, 2, none⟩ = some (.int .u64 x303002_2) := (blk_cell BK302.out 2).trans rfl; have hcz40_3 : w39.cell? ⟨gb302, 3, none⟩ = some (.int .u64 x303003_2) := (blk_cell BK302.out 3).trans rfl; have hfz40_0 := blk_frozen BK302.out 0; have hfz40_1 := blk_frozen BK302.out 1; have hfz40_2 := blk_frozen BK302.out 2; have hfz40_3 := blk_frozen BK302.out 3))
                  go_roundg k2
                  case measure => have := HJ5.out; have := HK2.out; omega
                  case rel => exact ⟨(wrap64 (x6_2 + 2)), (t315), (t316), (t317), (t318), (by first | rfl | (simp; done) | (simp [*]; done) | (simp; rfl) | (simp; decide +kernel)), H', ⟨by have := HJ5.out; have := HK2.out; omega⟩, ⟨by (with_reducible repeat (first | refine blk_drewN ?_ _ | refine blk_drew ?_ | refine blk_alloc ?_ _)); refine blk_far ?_ NB299_302.out _; (with_reducible repeat (first | refine blk_drewN ?_ _ | refine blk_drew ?_ | refine blk_alloc ?_ _)); refine blk_far ?_ NB299_302.out _; (with_reducible repeat (first | refine blk_drewN ?_ _ | refine blk_drew ?_ | refine blk_alloc ?_ _)); refine blk_far ?_ NB299_302.out _; (with_reducible repeat (first | refine blk_drewN ?_ _ | refine blk_drew ?_ | refine blk_alloc ?_ _)); refine blk_far ?_ NB299_302.out _; (with_reducible repeat (first | refine blk_drewN ?_ _ | refine blk_drew ?_ | refine blk_alloc ?_ _)); exact BK299.out⟩, ⟨by (with_reducible repeat (first | refine blk_drewN ?_ _ | refine blk_drew ?_ | refine blk_alloc ?_ _)); refine blk_put (cs := #[.int .u64 t315, .int .u64 t316, .int .u64 t317, .int .u64 x303003_2]) ?_ 3 _ rfl; (with_reducible repeat (first | refine blk_drewN ?_ _ | refine blk_drew ?_ | refine blk_alloc ?_ _)); refine blk_put (cs := #[.int .u64 t315, .int .u64 t316, .int .u64 x303002_2, .int .u64 x303003_2]) ?_ 2 _ rfl; (with_reducible repeat (first | refine blk_drewN ?_ _ | refine blk_drew ?_ | refine blk_alloc ?_ _)); refine blk_put (cs := #[.int .u64 t315, .int .u64 x303001_2, .int .u64 x303002_2, .int .u64 x303003_2]) ?_ 1 _ rfl; (with_reducible repeat (first | refine blk_drewN ?_ _ | refine blk_drew ?_ | refine blk_alloc ?_ _)); refine blk_put (cs := #[.int .u64 t308, .int .u64 x303001_2, .int .u64 x303002_2, .int .u64 x303003_2]) ?_ 0 _ rfl; (with_reducible repeat (first | refine blk_drewN ?_ _ | refine blk_drew ?_ | refine blk_alloc ?_ _)); exact BK302.out⟩, ⟨by repeat (first | (with_reducible first | exact HB.out | apply below_alloc | apply pw_below_drewN | apply below_drew1 | refine below_set ?_ GE299.out | refine below_set ?_ GE302.out) | exact HB.out)⟩⟩
              · rw [if_neg c18] at H
                exact absurd H (by simp)
            · rw [if_neg c17] at H
              have c17b0 : decide (x6_2 < (l1.length : Int)) = false := decide_eq_false c17
              clear c17
              simp only [Option.some.injEq, Prod.mk.injEq] at H
              obtain ⟨rfl, rfl⟩ := H
              have hnb41 := NB302_299.out
              have hnc41 := NB299_302.out
              have hcz42_0 : wr.cell? ⟨gb302, 0, none⟩ = some (.int .u64 x303000_2) := (blk_cell BK302.out 0).trans rfl
              have hcz42_1 : wr.cell? ⟨gb302, 1, none⟩ = some (.int .u64 x303001_2) := (blk_cell BK302.out 1).trans rfl
              have hcz42_2 : wr.cell? ⟨gb302, 2, none⟩ = some (.int .u64 x303002_2) := (blk_cell BK302.out 2).trans rfl
              have hcz42_3 : wr.cell? ⟨gb302, 3, none⟩ = some (.int .u64 x303003_2) := (blk_cell BK302.out 3).trans rfl
              have hfz42_0 := blk_frozen BK302.out 0
              have hfz42_1 := blk_frozen BK302.out 1
              have hfz42_2 := blk_frozen BK302.out 2
              have hfz42_3 := blk_frozen BK302.out 3
              have hcz43_0 : wr.cell? ⟨gb299, 0, none⟩ = some (.int .u64 0) := (blk_cell BK299.out 0).trans rfl
              have hcz43_1 : wr.cell? ⟨gb299, 1, none⟩ = some (.int .u64 0) := (blk_cell BK299.out 1).trans rfl
              have hfz43_0 := blk_frozen BK299.out 0
              have hfz43_1 := blk_frozen BK299.out 1
              go_wp2
              refine bodyPost_ret (results_cell_row rfl _ _ gb299 49 #[.int .u64 x303000_2, .int .u64 x303001_2] (0, 0) _ rfl (by (with_reducible repeat (first | refine blk_drewN ?_ _ | refine blk_drew ?_ | refine blk_alloc ?_ _)); refine blk_put (cs := #[.int .u64 x303000_2, .int .u64 0]) ?_ 1 _ rfl; (with_reducible repeat (first | refine blk_drewN ?_ _ | refine blk_drew ?_ | refine blk_alloc ?_ _)); refine blk_put (cs := #[.int .u64 0, .int .u64 0]) ?_ 0 _ rfl; (with_reducible repeat (first | refine blk_drewN ?_ _ | refine blk_drew ?_ | refine blk_alloc ?_ _)); exact BK299.out) Tryd.underlying49 rfl (by kernel_rfl)) rfl ?_
              exact ⟨by first | rfl | (simp [errW_none, errW_some] <;> rfl) | (simp [*, errW_none, errW_some] <;> rfl), by repeat (first | (with_reducible first | exact HB.out | apply below_alloc | apply pw_below_drewN | apply below_drew1 | refine below_set ?_ GE299.out | refine below_set ?_ GE302.out) | exact HB.out)⟩
  · replace c4 := Bool.eq_false_iff.mpr c4
    subst c4
    have H1 : (some (0, 0)) = some (r1, r2) := by rw [if_neg (show ¬ (false = true) by decide)] at H; exact H
    clear H
    have H := H1
    clear H1
    simp only [Option.some.injEq, Prod.mk.injEq] at H
    obtain ⟨rfl, rfl⟩ := H
    go_enter Tryd.func34, Tryd.ntmps34
    go_wp2_with (first | ((with_reducible refine gate_dst (N := 4) rfl ?_); refine box_event ?hg (N := 4) ?hd (cs := #[.int .u64 0, .int .u64 0]) (t := 49) ?hr ?_; (case hd => rfl); (case hg => rfl); (case hr => first | (go_simp; done) | (go_simp; rfl)); intro gb299 hg w44 hbox hb; have n0_ := Aside0.mk (below_step (by repeat (first | (with_reducible first | exact HB.out | apply below_alloc | apply pw_below_drewN | apply below_drew1) | exact HB.out)) hb); have n1_ := Aside0.mk (hbox); have n2_ := Aside0.mk ((by rw [hg]; exact (below_size (by repeat (first | (with_reducible first | exact HB.out | apply below_alloc | apply pw_below_drewN | apply below_drew1) | exact HB.out))) : w.heap.size ≤ gb299)); have n3_ := Aside0.mk ((by rw [hg]; exact (below_size (by repeat (first | (with_reducible first | exact HB.out | apply below_alloc | apply pw_below_drewN | apply below_drew1) | exact HB.out))) : w.heap.size ≤ gb299)); clear HB; have HB := n0_; have BK299 := n1_; have GW299 := n2_; have GE299 := n3_; clear n0_ n1_ n2_ n3_; clear hb hbox hg) | ((with_reducible refine gate_callee (f := 40) rfl ?_); refine goesL_ (some 8) rfl rfl Tryd.func40 (by kernel_rfl) rfl #[.int .i64 a0] rfl (by (try simp only [List.map_toArray, List.map_cons, List.map_nil]); first | done | rfl | (simp only [List.length_drop, List.length_take]; rfl) | (go_simp; done) | (go_simp; rw [Int.tmod_eq_emod_of_nonneg (by omega)]; omega)) ?_; (with_reducible refine (attestorref01_Valid.calls a0 false _ A3.out).mono ?_); rintro e w' ⟨rfl, ⟨nd, rfl⟩⟩; refine ⟨_, rfl, ?_⟩; (try (rw [drewN_self w44]; generalize hq_ : World.drewN w44 _ = w44; have n0_ : Aside0 (w44.heap[gb299]? = some (.cells #[.int .u64 0, .int .u64 0] 49 (0, 0))) := ⟨by rw [← hq_]; exact (by (with_reducible repeat (first | refine blk_drewN ?_ _ | refine blk_drew ?_ | refine blk_alloc ?_ _)); exact BK299.out)⟩; have n1_ : Aside0 (Below w.heap.size w w44) := ⟨by rw [← hq_]; exact (by repeat (first | (with_reducible first | exact HB.out | apply below_alloc | apply pw_below_drewN | apply below_drew1 | refine below_set ?_ GE299.out) | exact HB.out))⟩; clear BK299 HB hq_; have BK299 := n0_; have HB := n1_; clear n0_ n1_)); have hcz45_0 : w44.cell? ⟨gb299, 0, none⟩ = some (.int .u64 0) := (blk_cell BK299.out 0).trans rfl; have hcz45_1 : w44.cell? ⟨gb299, 1, none⟩ = some (.int .u64 0) := (blk_cell BK299.out 1).trans rfl; have hfz45_0 := blk_frozen BK299.out 0; have hfz45_1 := blk_frozen BK299.out 1))
    refine bodyPost_ret (results_cell_row rfl _ _ gb299 49 #[.int .u64 0, .int .u64 0] (0, 0) _ rfl (by (with_reducible repeat (first | refine blk_drewN ?_ _ | refine blk_drew ?_ | refine blk_alloc ?_ _)); refine blk_put (cs := #[.int .u64 0, .int .u64 0]) ?_ 1 _ rfl; (with_reducible repeat (first | refine blk_drewN ?_ _ | refine blk_drew ?_ | refine blk_alloc ?_ _)); refine blk_put (cs := #[.int .u64 0, .int .u64 0]) ?_ 0 _ rfl; (with_reducible repeat (first | refine blk_drewN ?_ _ | refine blk_drew ?_ | refine blk_alloc ?_ _)); exact BK299.out) Tryd.underlying49 rfl (by kernel_rfl)) rfl ?_
    exact ⟨by first | rfl | (simp [errW_none, errW_some] <;> rfl) | (simp [*, errW_none, errW_some] <;> rfl), by repeat (first | (with_reducible first | exact HB.out | apply below_alloc | apply pw_below_drewN | apply below_drew1 | refine below_set ?_ GE299.out) | exact HB.out)⟩

end Go.Proofs.YtamjeglenbokfaaDoor.Q
end
section
namespace Go.Proofs.YtamjeglenbokfaaDoor.Q
open Go.RowKit Go.Proofs.YtamjeglenbokfaaDoorW.PrintWords Go.Proofs.YtamjeglenbokfaaDoorW.PrintLast Go.Proofs.YtamjeglenbokfaaDoorW.PrintMore
open Go.Proofs.YtamjeglenbokfaaDoor.Num
set_option linter.unusedVariables false
set_option linter.unusedSimpArgs false
theorem rhash_l0 {f : Int} {p g e : Nat} (D : Fd f p g e) (L : List Nat) (hL : L.length < 1000000) : ∀ (n i : Nat) (s : S4) (k : Nat), L.length - i ≤ n → s.lt p → 140 + n ≤ k → i ≤ L.length + 1 →
    attestorref06_Hash.l0 k f (I L) i s.a s.b s.c s.d = some (((hsh p g e (L.drop i) s).a : Int), ((hsh p g e (L.drop i) s).b : Int)) := by
  intro n
  induction n with
  | zero =>
    intro i s k hi hs hk hb
    obtain ⟨k, rfl⟩ : ∃ j, k = j + 1 := ⟨k - 1, by omega⟩
    rw [attestorref06_Hash.l0, I_len, if_neg (by omega), List.drop_eq_nil_of_le (by omega)]
    rfl
  | succ n ih =>
    intro i s k hi hs hk hb
    obtain ⟨k, rfl⟩ : ∃ j, k = j + 1 := ⟨k - 1, by omega⟩
    rw [attestorref06_Hash.l0, I_len]
    by_cases h : i < L.length
    · rw [if_pos (by omega), if_pos (by omega), I_rd L i h]
      refine bnd (radd_f D.F _ _) ?_
      rw [wrapS (x := (i : Int) + 1) (by omega) (by omega), wrapS (x := (i : Int) + 2) (by omega) (by omega), show ((i : Int) + 1) = ((i + 1 : Nat) : Int) from rfl, show ((i : Int) + 2) = ((i + 2 : Nat) : Int) from rfl]
      by_cases h2 : i + 1 < L.length
      · rw [if_pos (by omega), if_pos (by omega), I_rd L (i + 1) h2]
        refine bnd (radd_f D.F _ _) (bnd (rPerm_f D k (by omega) ⟨(s.a + L[i]) % p, (s.b + L[i + 1]) % p, s.c, s.d⟩) ?_)
        have hq : (S4.mk ((s.a + L[i]) % p) ((s.b + L[i + 1]) % p) s.c s.d).lt p := ⟨D.F.md _, D.F.md _, hs.2.2.1, hs.2.2.2⟩
        rw [red_id hq]
        have e1 : L.drop i = L[i] :: L[i + 1] :: L.drop (i + 2) := by rw [List.drop_eq_getElem_cons h, List.drop_eq_getElem_cons h2]
        rw [e1]
        exact ih (i + 2) _ k (by omega) (prm_lt D.pos _ _ _ hq 8) (by omega) (by omega)
      · rw [if_neg (by omega)]
        refine bnd (rPerm_f D k (by omega) ⟨(s.a + L[i]) % p, s.b, s.c, s.d⟩) ?_
        have hq : (S4.mk ((s.a + L[i]) % p) s.b s.c s.d).lt p := ⟨D.F.md _, hs.2.1, hs.2.2.1, hs.2.2.2⟩
        rw [red_id hq]
        have e1 : L.drop i = [L[i]] := by rw [List.drop_eq_getElem_cons h, List.drop_eq_nil_of_le (by omega)]
        have := ih (i + 2) (prm p g e 8 ⟨(s.a + L[i]) % p, s.b, s.c, s.d⟩) k (by omega) (prm_lt D.pos _ _ _ hq 8) (by omega) (by omega)
        rw [List.drop_eq_nil_of_le (by omega)] at this
        rw [e1]
        exact this
    · rw [if_neg (by omega), List.drop_eq_nil_of_le (by omega)]
      rfl
theorem rHash_f {f : Int} {p g e : Nat} (D : Fd f p g e) (l : List Nat) (hl : l.length < 1000000) (k : Nat) (hk : l.length + 150 ≤ k) :
    attestorref06_Hash.f k f (I l) = some (((fst4 p g e l).a : Int), ((fst4 p g e l).b : Int)) := by
  obtain ⟨k, rfl⟩ : ∃ j, k = j + 1 := ⟨k - 1, by omega⟩
  have ra0 : ∀ b : Nat, attestorref01_Add.f f 0 b = some (((0 + b) % p : Nat) : Int) := fun b => radd_f D.F 0 b
  unfold attestorref06_Hash.f
  refine bnd (rvalid_yes D.F) ?_
  rw [if_pos rfl, I_len, wrapU (by omega)]
  refine bnd (ra0 _) ?_
  rw [Nat.zero_add]
  by_cases h : l.length = 0
  · rw [if_pos (by omega)]
    refine bnd (rPerm_f D (k + 1) (by omega) (beg p l.length)) ?_
    rw [red_id (beg_lt D.pos _), attestorref06_Hash.j0, fst4, if_pos h]
    have := rhash_l0 D l hl 0 0 (prm p g e 8 (beg p l.length)) k (by omega) (prm_lt D.pos _ _ _ (beg_lt D.pos _) 8) (by omega) (by omega)
    rw [List.drop_eq_nil_of_le (by omega)] at this
    exact this
  · rw [if_neg (by omega), attestorref06_Hash.j0, fst4, if_neg h]
    exact rhash_l0 D l hl l.length 0 (beg p l.length) k (by omega) (beg_lt D.pos _) (by omega) (by omega)
theorem hash_both (f : Int) (l : List Nat) (hl : l.length < 1000000) (k : Nat) (hk : 4 * l.length + 150 ≤ k) : ∃ x y : Int, sponge_Hash.f k f (I l) = some (x, y) ∧ attestorref06_Hash.f k f (I l) = some (x, y) := by
  by_cases h : 0 ≤ f ∧ f < 4
  · obtain ⟨p, g, e, D⟩ := fd_of h.1 h.2
    exact ⟨_, _, Hash_f D l hl k (by omega), rHash_f D l hl k (by omega)⟩
  · refine ⟨0, 0, Hash_no h k _, ?_⟩
    unfold attestorref06_Hash.f
    rw [rvalid_no h]
    rfl
end Go.Proofs.YtamjeglenbokfaaDoor.Q
end
