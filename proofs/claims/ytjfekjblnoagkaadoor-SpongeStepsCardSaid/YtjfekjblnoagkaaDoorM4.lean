/- Several texts in one, in build order. What they prove, each by its own first remark:
Written by our own copy of a printing program (a twelfth state) out of the translation. Not trusted: Lean checks it.
The examples of the chapter that each law on the sponge checks, and that rounds make the permutation.
What the layer's Hash computes, told in natural numbers.
What the layer's Node computes, told in natural numbers. -/
import Derived.Test.YtjfekjblnoagkaaDoorM2
import Derived.Test.YtjfekjblnoagkaaDoorM3
section
namespace Go.Proofs.YtjfekjblnoagkaaDoor.Q
open Go.RowKit Go.Proofs.YtjfekjblnoagkaaDoorW.PrintWords Go.Proofs.YtjfekjblnoagkaaDoorW.PrintLast Go.Proofs.YtjfekjblnoagkaaDoorW.PrintMore
attribute [local go_sem] max2_int min2_int max_two min_two max_three min_three max_four min_four   -- for this text's walks alone
set_option linter.unusedVariables false
set_option linter.unusedSimpArgs false

abbrev z17_0_ : Array Bool := #[false, false, false, false, false, false, false, false, false, false, false, false, false, false]
abbrev z17_1_ : Array Bool := #[true, false, false, false, false, false, false, false, false, false, false, false, false, false]
abbrev z17_2_ : Array Bool := #[true, true, false, false, false, false, false, false, false, false, false, false, false, false]
abbrev z17_3_ : Array Bool := #[true, true, true, false, false, false, false, false, false, false, false, false, false, false]
abbrev z17_4_ : Array Bool := #[true, true, true, false, true, false, false, false, false, false, false, false, false, false]
abbrev z17_5_ : Array Bool := #[true, true, true, false, true, true, false, false, false, false, false, false, false, false]
abbrev z17_6_ : Array Bool := #[true, true, true, false, true, true, false, false, false, true, false, false, false, false]
abbrev z17_7_ : Array Bool := #[true, true, true, true, true, true, false, false, false, true, false, false, false, false]
abbrev z17_8_ : Array Bool := #[true, true, true, true, true, true, true, false, false, true, false, false, false, false]
abbrev z17_9_ : Array Bool := #[true, true, true, true, true, true, true, true, false, true, false, false, false, false]
abbrev z17_10_ : Array Bool := #[true, true, true, true, true, true, true, true, true, true, false, false, false, false]
abbrev z17_11_ : Array Bool := #[true, true, true, true, true, true, true, true, true, true, true, false, false, false]
abbrev z17_12_ : Array Bool := #[true, true, true, true, true, true, true, true, true, true, true, true, false, false]
abbrev z17_13_ : Array Bool := #[true, true, true, true, true, true, true, true, true, true, true, true, true, false]
abbrev z17_14_ : Array Bool := #[true, true, true, true, true, true, true, true, true, true, true, true, true, true]
/-! ### sponge_Hash: function 17 -/
mutual
def sponge_Hash.j0 : Nat → List Int → Int → Int → Bool → Int → Int → Int → Int → Option (Int × Int)
  | 0, _, _, _, _, _, _, _, _ => none
  | k + 1, x1, x282000, x282001, x282002, x283000, x283001, x283002, x283003 => sponge_Hash.l0 k x1 x282000 x282001 x282002 x283000 x283001 x283002 x283003
def sponge_Hash.l0 : Nat → List Int → Int → Int → Bool → Int → Int → Int → Int → Option (Int × Int)
  | 0, _, _, _, _, _, _, _, _ => none
  | k + 1, x1, x282000, x282001, x282002, x283000, x283001, x283002, x283003 => if (x1.length : Int) > 0 then (if 0 ≤ (mn 2 (x1.length : Int)) then (if (mn 2 (x1.length : Int)) ≤ (x1.length : Int) then ((some (x1.take ((mn 2 (x1.length : Int)) : Int).toNat : List Int)).bind fun y287 => (sponge_Hash.l1 k x1 (mn 2 (x1.length : Int)) y287 (y287.length : Int) 0 x282000 x282001 x282002 x283000 x283001 x283002 x283003)) else (none)) else (none)) else (some (x283000, x283001))
def sponge_Hash.l1 : Nat → List Int → Int → List Int → Int → Int → Int → Int → Bool → Int → Int → Int → Int → Option (Int × Int)
  | 0, _, _, _, _, _, _, _, _, _, _, _, _ => none
  | k + 1, x1, x7, x37, x38, x39, x282000, x282001, x282002, x283000, x283001, x283002, x283003 => if x39 < x38 then (if 0 ≤ x39 then (if x39 < (x37.length : Int) then (if x39 = 0 then (if x282000 = 0 then (none) else (sponge_Hash.l1 k x1 x7 x37 x38 (wrap64 (x39 + 1)) x282000 x282001 x282002 (Int.tmod (IntKind.u64.wrap (x283000 + (Int.tmod (rd x37 x39) x282000))) x282000) x283001 x283002 x283003)) else (if x39 = 1 then (if x282000 = 0 then (none) else (sponge_Hash.l1 k x1 x7 x37 x38 (wrap64 (x39 + 1)) x282000 x282001 x282002 x283000 (Int.tmod (IntKind.u64.wrap (x283001 + (Int.tmod (rd x37 x39) x282000))) x282000) x283002 x283003)) else (if x39 = 2 then (if x282000 = 0 then (none) else (sponge_Hash.l1 k x1 x7 x37 x38 (wrap64 (x39 + 1)) x282000 x282001 x282002 x283000 x283001 (Int.tmod (IntKind.u64.wrap (x283002 + (Int.tmod (rd x37 x39) x282000))) x282000) x283003)) else (if x39 = 3 then (if x282000 = 0 then (none) else (sponge_Hash.l1 k x1 x7 x37 x38 (wrap64 (x39 + 1)) x282000 x282001 x282002 x283000 x283001 x283002 (Int.tmod (IntKind.u64.wrap (x283003 + (Int.tmod (rd x37 x39) x282000))) x282000))) else (none))))) else (none)) else (none)) else ((sponge_mixer_perm.f x282000 x282001 x282002 x283000 x283001 x283002 x283003).bind fun bt293 => (if 0 ≤ x7 then (if x7 ≤ (x1.length : Int) then (sponge_Hash.l0 k (x1.drop (x7 : Int).toNat) x282000 x282001 x282002 bt293.1 bt293.2.1 bt293.2.2.1 bt293.2.2.2) else (none)) else (none)))
end
def sponge_Hash.f (k : Nat) (a0 : Int) (l1 : List Int) : Option (Int × Int) := (field_Valid.f a0).bind fun t277 => (if t277 = true then ((sponge_in.f a0).bind fun bt278 => (if bt278.1 = 0 then (none) else (if (l1.length : Int) = 0 then ((sponge_mixer_perm.f bt278.1 bt278.2.1 bt278.2.2 0 0 (Int.tmod (IntKind.u64.wrap ((l1.length : Int))) bt278.1) 0).bind fun bt283 => (sponge_Hash.j0 k l1 bt278.1 bt278.2.1 bt278.2.2 bt283.1 bt283.2.1 bt283.2.2.1 bt283.2.2.2)) else (sponge_Hash.j0 k l1 bt278.1 bt278.2.1 bt278.2.2 0 0 (Int.tmod (IntKind.u64.wrap ((l1.length : Int))) bt278.1) 0)))) else (some (0, 0)))
theorem sponge_Hash.mono_l : ∀ k, (∀ y0 y1 y2 y3 y4 y5 y6 y7, LeO (sponge_Hash.j0 k y0 y1 y2 y3 y4 y5 y6 y7) (sponge_Hash.j0 (k + 1) y0 y1 y2 y3 y4 y5 y6 y7)) ∧ (∀ y0 y1 y2 y3 y4 y5 y6 y7, LeO (sponge_Hash.l0 k y0 y1 y2 y3 y4 y5 y6 y7) (sponge_Hash.l0 (k + 1) y0 y1 y2 y3 y4 y5 y6 y7)) ∧ (∀ y0 y1 y2 y3 y4 y5 y6 y7 y8 y9 y10 y11, LeO (sponge_Hash.l1 k y0 y1 y2 y3 y4 y5 y6 y7 y8 y9 y10 y11) (sponge_Hash.l1 (k + 1) y0 y1 y2 y3 y4 y5 y6 y7 y8 y9 y10 y11))
  | 0 => ⟨fun _ _ _ _ _ _ _ _ r h => by simp [sponge_Hash.j0] at h, fun _ _ _ _ _ _ _ _ r h => by simp [sponge_Hash.l0] at h, fun _ _ _ _ _ _ _ _ _ _ _ _ r h => by simp [sponge_Hash.l1] at h⟩
  | k + 1 => by
    obtain ⟨ih0, ih1, ih2⟩ := sponge_Hash.mono_l k
    refine ⟨?_, ?_, ?_⟩
    · intro y0 y1 y2 y3 y4 y5 y6 y7
      unfold sponge_Hash.j0
      repeat' first
      | (with_reducible exact ih0 _ _ _ _ _ _ _ _)
      | (with_reducible exact ih1 _ _ _ _ _ _ _ _)
      | (with_reducible exact ih2 _ _ _ _ _ _ _ _ _ _ _ _)
      | (with_reducible exact LeO.refl _)
      | (with_reducible exact LeO.none _)
      | (with_reducible refine LeO.ite ?_ ?_)
      | (with_reducible refine LeO.bind ?_ (fun _ => ?_))
      | exact ih0 _ _ _ _ _ _ _ _
      | exact ih1 _ _ _ _ _ _ _ _
      | exact ih2 _ _ _ _ _ _ _ _ _ _ _ _
      | exact LeO.none _
      | refine LeO.ite ?_ ?_
      | refine LeO.bind ?_ (fun _ => ?_)
    · intro y0 y1 y2 y3 y4 y5 y6 y7
      unfold sponge_Hash.l0
      repeat' first
      | (with_reducible exact ih0 _ _ _ _ _ _ _ _)
      | (with_reducible exact ih1 _ _ _ _ _ _ _ _)
      | (with_reducible exact ih2 _ _ _ _ _ _ _ _ _ _ _ _)
      | (with_reducible exact LeO.refl _)
      | (with_reducible exact LeO.none _)
      | (with_reducible refine LeO.ite ?_ ?_)
      | (with_reducible refine LeO.bind ?_ (fun _ => ?_))
      | exact ih0 _ _ _ _ _ _ _ _
      | exact ih1 _ _ _ _ _ _ _ _
      | exact ih2 _ _ _ _ _ _ _ _ _ _ _ _
      | exact LeO.none _
      | refine LeO.ite ?_ ?_
      | refine LeO.bind ?_ (fun _ => ?_)
    · intro y0 y1 y2 y3 y4 y5 y6 y7 y8 y9 y10 y11
      unfold sponge_Hash.l1
      repeat' first
      | (with_reducible exact ih0 _ _ _ _ _ _ _ _)
      | (with_reducible exact ih1 _ _ _ _ _ _ _ _)
      | (with_reducible exact ih2 _ _ _ _ _ _ _ _ _ _ _ _)
      | (with_reducible exact LeO.refl _)
      | (with_reducible exact LeO.none _)
      | (with_reducible refine LeO.ite ?_ ?_)
      | (with_reducible refine LeO.bind ?_ (fun _ => ?_))
      | exact ih0 _ _ _ _ _ _ _ _
      | exact ih1 _ _ _ _ _ _ _ _
      | exact ih2 _ _ _ _ _ _ _ _ _ _ _ _
      | exact LeO.none _
      | refine LeO.ite ?_ ?_
      | refine LeO.bind ?_ (fun _ => ?_)
theorem sponge_Hash.mono : ∀ a0 a1 k, LeO (sponge_Hash.f k a0 a1) (sponge_Hash.f (k + 1) a0 a1) := by
  intro a0 a1 k
  obtain ⟨ih0, ih1, ih2⟩ := sponge_Hash.mono_l k
  unfold sponge_Hash.f
  repeat' first
      | (with_reducible exact ih0 _ _ _ _ _ _ _ _)
      | (with_reducible exact ih1 _ _ _ _ _ _ _ _)
      | (with_reducible exact ih2 _ _ _ _ _ _ _ _ _ _ _ _)
      | (with_reducible exact LeO.refl _)
      | (with_reducible exact LeO.none _)
      | (with_reducible refine LeO.ite ?_ ?_)
      | (with_reducible refine LeO.bind ?_ (fun _ => ?_))
      | exact ih0 _ _ _ _ _ _ _ _
      | exact ih1 _ _ _ _ _ _ _ _
      | exact ih2 _ _ _ _ _ _ _ _ _ _ _ _
      | exact LeO.none _
      | refine LeO.ite ?_ ?_
      | refine LeO.bind ?_ (fun _ => ?_)
def sponge_Hash.T12 : Bool × List (List Nat × List Nat) := (true, [([], []), ([], []), ([1], [1]), ([2], [2]), ([], []), ([], []), ([5], [5]), ([4, 6], [4, 6]), ([3, 7], [3, 7]), ([], []), ([9], [9]), ([8, 10], [8, 10]), ([0, 0, 1, 2, 3, 4, 5, 6, 7, 8, 9, 10, 11], [0]), ([12, 11, 0, 1, 2, 3, 4, 5, 6, 7, 8, 9, 10, 11], [11, 12])])
def sponge_Hash.B12 : List Nat := [0, 0, 2, 6, 0, 0, 32, 112, 254, 0, 512, 2046, 4095, 8191]
theorem sponge_Hash.tab12 : rtab .any (opsOf Tryd.f17 12) = sponge_Hash.T12 := by kernel_rfl
theorem sponge_Hash.bits12 : waitsOk sponge_Hash.T12.2 sponge_Hash.B12 = true := by kernel_rfl
set_option maxHeartbeats 8000000 in
set_option maxRecDepth 100000 in
theorem sponge_Hash.calls (k : Nat) (a0 : Int) (P1_ : Nat → Prop) (A1 : Option Addr) (c1 : Nat) (l1 : List Int) (r1 : Int) (r2 : Int) (w : World) (hs1 : Kd.V (Kd.int .u64) 22 w w.heap.size (fun k_ => P1_ k_) (.slice A1 l1.length c1) l1) (hrG : GL w) (h : sponge_Hash.f k a0 l1 = some (r1, r2)) :
  Calls Tryd.prog 17 #[.int .i64 a0, .slice A1 l1.length c1] w fun e w' => e = .returned (.agg #[.int .u64 r1, .int .u64 r2]) ∧ Below w.heap.size w w' := by
 have hu30 := Tryd.underlying30
 have hu45 := Tryd.underlying45
 have hu23 := Tryd.underlying23
 have HRG := Aside0.mk hrG
 clear hrG
 have HO1 := Aside0.mk (show Kd.V (Kd.int .u64) 22 w w.heap.size (fun k_ => (P1_ k_ ∨ w.heap.size ≤ k_)) (.slice A1 l1.length c1) l1 from Kd.V_mono hs1 (fun k_ hk => .inl hk))
 have HB := Aside0.mk (Below.refl w.heap.size w)
 have H : ((field_Valid.f a0).bind fun t277 => (if t277 = true then ((sponge_in.f a0).bind fun bt278 => (if bt278.1 = 0 then (none) else (if (l1.length : Int) = 0 then ((sponge_mixer_perm.f bt278.1 bt278.2.1 bt278.2.2 0 0 (Int.tmod (IntKind.u64.wrap ((l1.length : Int))) bt278.1) 0).bind fun bt283 => (sponge_Hash.j0 k l1 bt278.1 bt278.2.1 bt278.2.2 bt283.1 bt283.2.1 bt283.2.2.1 bt283.2.2.2)) else (sponge_Hash.j0 k l1 bt278.1 bt278.2.1 bt278.2.2 0 0 (Int.tmod (IntKind.u64.wrap ((l1.length : Int))) bt278.1) 0)))) else (some (0, 0)))) = some (r1, r2) := h
 clear h
 replace H := Option.bind_eq_some_iff.mp H
 obtain ⟨t277, A30, H⟩ := H
 have A3 := Aside0.mk A30
 clear A30
 by_cases c4 : t277 = true
 ·subst c4
  have H1 : ((sponge_in.f a0).bind fun bt278 => (if bt278.1 = 0 then (none) else (if (l1.length : Int) = 0 then ((sponge_mixer_perm.f bt278.1 bt278.2.1 bt278.2.2 0 0 (Int.tmod (IntKind.u64.wrap ((l1.length : Int))) bt278.1) 0).bind fun bt283 => (sponge_Hash.j0 k l1 bt278.1 bt278.2.1 bt278.2.2 bt283.1 bt283.2.1 bt283.2.2.1 bt283.2.2.2)) else (sponge_Hash.j0 k l1 bt278.1 bt278.2.1 bt278.2.2 0 0 (Int.tmod (IntKind.u64.wrap ((l1.length : Int))) bt278.1) 0)))) = some (r1, r2) := by rw [if_pos rfl] at H; exact H
  clear H
  have H := H1
  clear H1
  replace H := Option.bind_eq_some_iff.mp H
  obtain ⟨⟨t278, t279, t280⟩, A50, H⟩ := H
  replace H : (if t278 = 0 then (none) else (if (l1.length : Int) = 0 then ((sponge_mixer_perm.f t278 t279 t280 0 0 (Int.tmod (IntKind.u64.wrap ((l1.length : Int))) t278) 0).bind fun bt283 => (sponge_Hash.j0 k l1 t278 t279 t280 bt283.1 bt283.2.1 bt283.2.2.1 bt283.2.2.2)) else (sponge_Hash.j0 k l1 t278 t279 t280 0 0 (Int.tmod (IntKind.u64.wrap ((l1.length : Int))) t278) 0))) = some (r1, r2) := H
  have A5 := Aside0.mk A50
  clear A50
  by_cases c6 : t278 = 0
  ·rw [if_pos c6] at H
   exact absurd H (by simp)
  ·rw [if_neg c6] at H
   have c6b0 : (t278 == 0) = false := beq_eq_false_iff_ne.mpr c6
   have c6b1 : (t278 != 0) = true := bne_iff_ne.mpr c6
   have HC7 := Aside0.mk H
   clear H
   go_enter Tryd.func17, Tryd.ntmps17
   go_upto_if 25 with (first | ((with_reducible refine gate_dst (N := 4) rfl ?_); refine box_event ?hg (N := 4) ?hd (cs := #[.int .u64 0, .int .u64 0]) (t := 30) ?hr ?_; (case hd => rfl); (case hg => rfl); (case hr => first | (go_simp; done) | (go_simp; rfl)); intro g276 hg w8 hbox hb; have n0_ := Aside0.mk (Kd.V_below (Kd.V_elderB (by (with_reducible repeat (first | apply Kd.V_alloc | apply Kd.V_drewN | apply Kd.V_drew)); exact HO1.out) g276 (Nat.le_of_eq hg.symm)) hb); have n1_ := Aside0.mk (below_step (by repeat (first | (with_reducible first | exact HB.out | apply below_alloc | apply pw_below_drewN | apply below_drew1) | exact HB.out)) hb); have n2_ := Aside0.mk (hbox); have n3_ := Aside0.mk ((by rw [hg]; exact (below_size (by repeat (first | (with_reducible first | exact HB.out | apply below_alloc | apply pw_below_drewN | apply below_drew1) | exact HB.out))) : w.heap.size ≤ g276)); have n4_ := Aside0.mk ((by rw [hg]; exact (below_size (by repeat (first | (with_reducible first | exact HB.out | apply below_alloc | apply pw_below_drewN | apply below_drew1) | exact HB.out))) : w.heap.size ≤ g276)); clear HO1; clear HB; have HO1 := n0_; have HB := n1_; have B276 := n2_; have GW276 := n3_; have GE276 := n4_; clear n0_ n1_ n2_ n3_ n4_; clear hb hbox hg) | ((with_reducible refine gate_callee (f := 41) rfl ?_); refine goesL_ (some 11) rfl rfl Tryd.func41 (by kernel_rfl) rfl #[.int .i64 a0] rfl (by (try simp only [List.map_toArray, List.map_cons, List.map_nil]); first | done | rfl) ?_; (with_reducible refine (field_Valid.calls a0 true _ A3.out).mono ?_); rintro e w' ⟨rfl, ⟨nd, rfl⟩⟩; refine ⟨_, rfl, ?_⟩; (try (rw [drewN_self w8]; generalize q_ : World.drewN w8 _ = w8; have n0_ : Aside0 (Kd.V (Kd.int .u64) 22 w8 w.heap.size (fun k_ => (P1_ k_ ∨ w.heap.size ≤ k_) ∧ k_ ≠ g276) (.slice A1 l1.length c1) l1) := ⟨by rw [← q_]; exact (by (with_reducible repeat (first | apply Kd.V_alloc | apply Kd.V_drewN | apply Kd.V_drew)); exact HO1.out)⟩; have n1_ : Aside0 (w8.heap[g276]? = some (.cells #[.int .u64 0, .int .u64 0] 30 (0, 0))) := ⟨by rw [← q_]; exact (by (with_reducible repeat first | refine blk_drewN ?_ _ | refine blk_drew ?_ | refine blk_alloc ?_ _); exact B276.out)⟩; have n2_ : Aside0 (Below w.heap.size w w8) := ⟨by rw [← q_]; exact (by repeat (first | (with_reducible first | exact HB.out | apply below_alloc | apply pw_below_drewN | apply below_drew1 | refine below_set ?_ GE276.out) | exact HB.out))⟩; clear HO1 B276 HB q_; have HO1 := n0_; have B276 := n1_; have HB := n2_; clear n0_ n1_ n2_))) | ((with_reducible refine gate_callee (f := 35) rfl ?_); refine goesL_ (some 15) rfl rfl Tryd.func35 (by kernel_rfl) rfl #[.int .i64 a0] rfl (by (try simp only [List.map_toArray, List.map_cons, List.map_nil]); first | done | rfl) ?_; (with_reducible refine (sponge_in.calls a0 t278 t279 t280 _ ?side1 A5.out).mono ?_); (case side1 => repeat (first | exact (GL.below HRG.out HB.out) | (with_reducible refine GL.alloc ?_ _) | (with_reducible refine GL.drewN ?_ _) | (with_reducible refine GL.drew ?_))); rintro e w9 ⟨rfl, hb⟩; refine ⟨_, rfl, ?_⟩; have n0_ := Aside0.mk (Kd.V_below (by (with_reducible repeat (first | apply Kd.V_alloc | apply Kd.V_drewN | apply Kd.V_drew)); exact HO1.out) hb); have n1_ := Aside0.mk (blk_below (g := g276) (o := .cells #[.int .u64 0, .int .u64 0] 30 (0, 0)) (by (with_reducible repeat first | refine blk_drewN ?_ _ | refine blk_drew ?_ | refine blk_alloc ?_ _); exact B276.out) hb); have n2_ := Aside0.mk (below_step (by repeat (first | (with_reducible first | exact HB.out | apply below_alloc | apply pw_below_drewN | apply below_drew1 | refine below_set ?_ GE276.out) | exact HB.out)) hb); clear HO1; clear B276; clear HB; have HO1 := n0_; have B276 := n1_; have HB := n2_; clear n0_ n1_ n2_; (try clear hb); (try clear hb2); (try clear hk); (try clear hi)) | ((with_reducible refine gate_dst (N := 5) rfl ?_); refine box_event ?hg (N := 5) ?hd (cs := #[.int .u64 0, .int .u64 0, .bool false]) (t := 45) ?hr ?_; (case hd => rfl); (case hg => rfl); (case hr => first | (go_simp; done) | (go_simp; rfl)); intro g281 hg w10 hbox hb; have n0_ := Aside0.mk (Kd.V_below (Kd.V_elderB (by (with_reducible repeat (first | apply Kd.V_alloc | apply Kd.V_drewN | apply Kd.V_drew)); exact HO1.out) g281 (Nat.le_of_eq hg.symm)) hb); have n1_ := Aside0.mk (blk_below (g := g276) (o := .cells #[.int .u64 0, .int .u64 0] 30 (0, 0)) (by (with_reducible repeat first | refine blk_drewN ?_ _ | refine blk_drew ?_ | refine blk_alloc ?_ _); exact B276.out) hb); have n2_ := Aside0.mk (below_step (by repeat (first | (with_reducible first | exact HB.out | apply below_alloc | apply pw_below_drewN | apply below_drew1 | refine below_set ?_ GE276.out) | exact HB.out)) hb); have n3_ := Aside0.mk (hbox); have n4_ := Aside0.mk ((by rw [hg]; exact (below_size (by repeat (first | (with_reducible first | exact HB.out | apply below_alloc | apply pw_below_drewN | apply below_drew1 | refine below_set ?_ GE276.out) | exact HB.out))) : w.heap.size ≤ g281)); have n5_ := Aside0.mk ((by rw [hg]; exact (below_size (by repeat (first | (with_reducible first | exact HB.out | apply below_alloc | apply pw_below_drewN | apply below_drew1 | refine below_set ?_ GE276.out) | exact HB.out))) : w.heap.size ≤ g281)); have n6_ := Aside0.mk ((by rw [hg]; exact Nat.ne_of_lt (blk_lt (g := g276) (o := .cells #[.int .u64 0, .int .u64 0] 30 (0, 0)) (by (with_reducible repeat first | refine blk_drewN ?_ _ | refine blk_drew ?_ | refine blk_alloc ?_ _); exact B276.out)) : g276 ≠ g281)); have n7_ := Aside0.mk ((by rw [hg]; exact Nat.ne_of_gt (blk_lt (g := g276) (o := .cells #[.int .u64 0, .int .u64 0] 30 (0, 0)) (by (with_reducible repeat first | refine blk_drewN ?_ _ | refine blk_drew ?_ | refine blk_alloc ?_ _); exact B276.out)) : g281 ≠ g276)); clear HO1; clear B276; clear HB; have HO1 := n0_; have B276 := n1_; have HB := n2_; have B281 := n3_; have GW281 := n4_; have GE281 := n5_; have NB276_281 := n6_; have NB281_276 := n7_; clear n0_ n1_ n2_ n3_ n4_ n5_ n6_ n7_; clear hb hbox hg; have hnb11 := NB281_276.out; have hnc11 := NB276_281.out; have hcz12_0 : w10.cell? ⟨g281, 0, none⟩ = some (.int .u64 0) := bq_ B281 0; have hcz12_1 : w10.cell? ⟨g281, 1, none⟩ = some (.int .u64 0) := bq_ B281 1; have hcz12_2 : w10.cell? ⟨g281, 2, none⟩ = some (.bool false) := bq_ B281 2; have hfz12_0 := blk_frozen B281.out 0; have hfz12_1 := blk_frozen B281.out 1; have hfz12_2 := blk_frozen B281.out 2) | ((with_reducible refine gate_dst (N := 6) rfl ?_); refine box_event ?hg (N := 6) ?hd (cs := #[.int .u64 0, .int .u64 0, .int .u64 0, .int .u64 0]) (t := 23) ?hr ?_; (case hd => rfl); (case hg => rfl); (case hr => first | (go_simp; done) | (go_simp; rfl)); intro g282 hg w13 hbox hb; have n0_ := Aside0.mk (Kd.V_below (Kd.V_elderB (by (with_reducible repeat (first | apply Kd.V_alloc | apply Kd.V_drewN | apply Kd.V_drew)); exact (Kd.V_mono (Kd.V_far (p := ⟨g281, 2, none⟩) (Kd.V_far (p := ⟨g281, 1, none⟩) (Kd.V_far (p := ⟨g281, 0, none⟩) (Kd.V_mono HO1.out (fun k_ hk => (⟨hk, hk.2⟩ : _ ∧ k_ ≠ g281))) (fun _ hk => hk.2) (.int .u64 t278)) (fun _ hk => hk.2) (.int .u64 t279)) (fun _ hk => hk.2) (.bool t280)) (fun _ h_ => h_.1))) g282 (Nat.le_of_eq hg.symm)) hb); have n1_ := Aside0.mk (blk_below (g := g276) (o := .cells #[.int .u64 0, .int .u64 0] 30 (0, 0)) (by (with_reducible repeat first | refine blk_drewN ?_ _ | refine blk_drew ?_ | refine blk_alloc ?_ _); refine blk_far ?_ NB276_281.out _; (with_reducible repeat first | refine blk_drewN ?_ _ | refine blk_drew ?_ | refine blk_alloc ?_ _); refine blk_far ?_ NB276_281.out _; (with_reducible repeat first | refine blk_drewN ?_ _ | refine blk_drew ?_ | refine blk_alloc ?_ _); refine blk_far ?_ NB276_281.out _; (with_reducible repeat first | refine blk_drewN ?_ _ | refine blk_drew ?_ | refine blk_alloc ?_ _); exact B276.out) hb); have n2_ := Aside0.mk (blk_below (g := g281) (o := .cells #[.int .u64 t278, .int .u64 t279, .bool t280] 45 (0, 0)) (by (with_reducible repeat first | refine blk_drewN ?_ _ | refine blk_drew ?_ | refine blk_alloc ?_ _); refine blk_put (cs := #[.int .u64 t278, .int .u64 t279, .bool false]) ?_ 2 _ rfl; (with_reducible repeat first | refine blk_drewN ?_ _ | refine blk_drew ?_ | refine blk_alloc ?_ _); refine blk_put (cs := #[.int .u64 t278, .int .u64 0, .bool false]) ?_ 1 _ rfl; (with_reducible repeat first | refine blk_drewN ?_ _ | refine blk_drew ?_ | refine blk_alloc ?_ _); refine blk_put (cs := #[.int .u64 0, .int .u64 0, .bool false]) ?_ 0 _ rfl; (with_reducible repeat first | refine blk_drewN ?_ _ | refine blk_drew ?_ | refine blk_alloc ?_ _); exact B281.out) hb); have n3_ := Aside0.mk (below_step (by repeat (first | (with_reducible first | exact HB.out | apply below_alloc | apply pw_below_drewN | apply below_drew1 | refine below_set ?_ GE276.out | refine below_set ?_ GE281.out) | exact HB.out)) hb); have n4_ := Aside0.mk (hbox); have n5_ := Aside0.mk ((by rw [hg]; exact (below_size (by repeat (first | (with_reducible first | exact HB.out | apply below_alloc | apply pw_below_drewN | apply below_drew1 | refine below_set ?_ GE276.out | refine below_set ?_ GE281.out) | exact HB.out))) : w.heap.size ≤ g282)); have n6_ := Aside0.mk ((by rw [hg]; exact (below_size (by repeat (first | (with_reducible first | exact HB.out | apply below_alloc | apply pw_below_drewN | apply below_drew1 | refine below_set ?_ GE276.out | refine below_set ?_ GE281.out) | exact HB.out))) : w.heap.size ≤ g282)); have n7_ := Aside0.mk ((by rw [hg]; exact Nat.ne_of_lt (blk_lt (g := g276) (o := .cells #[.int .u64 0, .int .u64 0] 30 (0, 0)) (by (with_reducible repeat first | refine blk_drewN ?_ _ | refine blk_drew ?_ | refine blk_alloc ?_ _); refine blk_far ?_ NB276_281.out _; (with_reducible repeat first | refine blk_drewN ?_ _ | refine blk_drew ?_ | refine blk_alloc ?_ _); refine blk_far ?_ NB276_281.out _; (with_reducible repeat first | refine blk_drewN ?_ _ | refine blk_drew ?_ | refine blk_alloc ?_ _); refine blk_far ?_ NB276_281.out _; (with_reducible repeat first | refine blk_drewN ?_ _ | refine blk_drew ?_ | refine blk_alloc ?_ _); exact B276.out)) : g276 ≠ g282)); have n8_ := Aside0.mk ((by rw [hg]; exact Nat.ne_of_gt (blk_lt (g := g276) (o := .cells #[.int .u64 0, .int .u64 0] 30 (0, 0)) (by (with_reducible repeat first | refine blk_drewN ?_ _ | refine blk_drew ?_ | refine blk_alloc ?_ _); refine blk_far ?_ NB276_281.out _; (with_reducible repeat first | refine blk_drewN ?_ _ | refine blk_drew ?_ | refine blk_alloc ?_ _); refine blk_far ?_ NB276_281.out _; (with_reducible repeat first | refine blk_drewN ?_ _ | refine blk_drew ?_ | refine blk_alloc ?_ _); refine blk_far ?_ NB276_281.out _; (with_reducible repeat first | refine blk_drewN ?_ _ | refine blk_drew ?_ | refine blk_alloc ?_ _); exact B276.out)) : g282 ≠ g276)); have n9_ := Aside0.mk ((by rw [hg]; exact Nat.ne_of_lt (blk_lt (g := g281) (o := .cells #[.int .u64 t278, .int .u64 t279, .bool t280] 45 (0, 0)) (by (with_reducible repeat first | refine blk_drewN ?_ _ | refine blk_drew ?_ | refine blk_alloc ?_ _); refine blk_put (cs := #[.int .u64 t278, .int .u64 t279, .bool false]) ?_ 2 _ rfl; (with_reducible repeat first | refine blk_drewN ?_ _ | refine blk_drew ?_ | refine blk_alloc ?_ _); refine blk_put (cs := #[.int .u64 t278, .int .u64 0, .bool false]) ?_ 1 _ rfl; (with_reducible repeat first | refine blk_drewN ?_ _ | refine blk_drew ?_ | refine blk_alloc ?_ _); refine blk_put (cs := #[.int .u64 0, .int .u64 0, .bool false]) ?_ 0 _ rfl; (with_reducible repeat first | refine blk_drewN ?_ _ | refine blk_drew ?_ | refine blk_alloc ?_ _); exact B281.out)) : g281 ≠ g282)); have n10_ := Aside0.mk ((by rw [hg]; exact Nat.ne_of_gt (blk_lt (g := g281) (o := .cells #[.int .u64 t278, .int .u64 t279, .bool t280] 45 (0, 0)) (by (with_reducible repeat first | refine blk_drewN ?_ _ | refine blk_drew ?_ | refine blk_alloc ?_ _); refine blk_put (cs := #[.int .u64 t278, .int .u64 t279, .bool false]) ?_ 2 _ rfl; (with_reducible repeat first | refine blk_drewN ?_ _ | refine blk_drew ?_ | refine blk_alloc ?_ _); refine blk_put (cs := #[.int .u64 t278, .int .u64 0, .bool false]) ?_ 1 _ rfl; (with_reducible repeat first | refine blk_drewN ?_ _ | refine blk_drew ?_ | refine blk_alloc ?_ _); refine blk_put (cs := #[.int .u64 0, .int .u64 0, .bool false]) ?_ 0 _ rfl; (with_reducible repeat first | refine blk_drewN ?_ _ | refine blk_drew ?_ | refine blk_alloc ?_ _); exact B281.out)) : g282 ≠ g281)); clear HO1; clear B276; clear B281; clear HB; have HO1 := n0_; have B276 := n1_; have B281 := n2_; have HB := n3_; have B282 := n4_; have GW282 := n5_; have GE282 := n6_; have NB276_282 := n7_; have NB282_276 := n8_; have NB281_282 := n9_; have NB282_281 := n10_; clear n0_ n1_ n2_ n3_ n4_ n5_ n6_ n7_ n8_ n9_ n10_; clear hb hbox hg; have hnb14 := NB282_276.out; have hnc14 := NB276_282.out; have hnb15 := NB282_281.out; have hnc15 := NB281_282.out; have hcz16_0 : w13.cell? ⟨g282, 0, none⟩ = some (.int .u64 0) := bq_ B282 0; have hcz16_1 : w13.cell? ⟨g282, 1, none⟩ = some (.int .u64 0) := bq_ B282 1; have hcz16_2 : w13.cell? ⟨g282, 2, none⟩ = some (.int .u64 0) := bq_ B282 2; have hcz16_3 : w13.cell? ⟨g282, 3, none⟩ = some (.int .u64 0) := bq_ B282 3; have hfz16_0 := blk_frozen B282.out 0; have hfz16_1 := blk_frozen B282.out 1; have hfz16_2 := blk_frozen B282.out 2; have hfz16_3 := blk_frozen B282.out 3))
   (try simp only [Act.put, sa_, sb_, sc_])
   go_cut [] (fun wc => ∃ (kq : Nat) (x283000_6 : Int) (x283001_6 : Int) (x283002_6 : Int) (x283003_6 : Int), Aside0 (sponge_Hash.j0 kq l1 t278 t279 t280 x283000_6 x283001_6 x283002_6 x283003_6 = some (r1, r2)) ∧ Aside0 (kq ≤ k) ∧ Aside0 (Kd.V (Kd.int .u64) 22 wc w.heap.size (fun k_ => (P1_ k_ ∨ w.heap.size ≤ k_) ∧ k_ ≠ g276 ∧ k_ ≠ g281 ∧ k_ ≠ g282) (.slice A1 l1.length c1) l1) ∧ Aside0 (wc.heap[g276]? = some (.cells #[.int .u64 0, .int .u64 0] 30 (0, 0))) ∧ Aside0 (wc.heap[g281]? = some (.cells #[.int .u64 t278, .int .u64 t279, .bool t280] 45 (0, 0))) ∧ Aside0 (wc.heap[g282]? = some (.cells #[.int .u64 x283000_6, .int .u64 x283001_6, .int .u64 x283002_6, .int .u64 x283003_6] 23 (0, 0))) ∧ Aside0 (Below w.heap.size w wc))
   case first =>
    have H := HC7.out
    clear HC7
    by_cases c17 : (l1.length : Int) = 0
    ·rw [if_pos c17] at H
     have c17b0 : ((l1.length : Int) == 0) = true := beq_iff_eq.mpr c17
     have c17b1 : ((l1.length : Int) != 0) = false := bne_eq_false_iff_eq.mpr c17
     clear c17
     (first | rw [c17b0] | (simp only [i64_w, i32_w]; rw [c17b0]) | skip)
     replace H := Option.bind_eq_some_iff.mp H
     obtain ⟨⟨t283, t284, t285, t286⟩, A180, H⟩ := H
     replace H : (sponge_Hash.j0 k l1 t278 t279 t280 t283 t284 t285 t286) = some (r1, r2) := H
     have A18 := Aside0.mk A180
     clear A180
     have H' := Aside0.mk H
     clear H
     have hnb19 := NB281_276.out
     have hnc19 := NB276_281.out
     have hnb20 := NB281_282.out
     have hnc20 := NB282_281.out
     have hcz21_0 : w13.cell? ⟨g281, 0, none⟩ = some (.int .u64 t278) := bq_ B281 0
     have hcz21_1 : w13.cell? ⟨g281, 1, none⟩ = some (.int .u64 t279) := bq_ B281 1
     have hcz21_2 : w13.cell? ⟨g281, 2, none⟩ = some (.bool t280) := bq_ B281 2
     have hfz21_0 := blk_frozen B281.out 0
     have hfz21_1 := blk_frozen B281.out 1
     have hfz21_2 := blk_frozen B281.out 2
     have hnb22 := NB282_276.out
     have hnc22 := NB276_282.out
     have hcz23_0 : w13.cell? ⟨g282, 0, none⟩ = some (.int .u64 0) := bq_ B282 0
     have hcz23_1 : w13.cell? ⟨g282, 1, none⟩ = some (.int .u64 0) := bq_ B282 1
     have hcz23_2 : w13.cell? ⟨g282, 2, none⟩ = some (.int .u64 0) := bq_ B282 2
     have hcz23_3 : w13.cell? ⟨g282, 3, none⟩ = some (.int .u64 0) := bq_ B282 3
     have hfz23_0 := blk_frozen B282.out 0
     have hfz23_1 := blk_frozen B282.out 1
     have hfz23_2 := blk_frozen B282.out 2
     have hfz23_3 := blk_frozen B282.out 3
     go_wp2_with (first | ((with_reducible refine gate_callee (f := 42) rfl ?_); refine goesL_ (some 28) rfl rfl Tryd.func42 (by kernel_rfl) rfl #[.agg #[.int .u64 t278, .int .u64 t279, .bool t280], .agg #[.int .u64 0, .int .u64 0, .int .u64 (Int.tmod (IntKind.u64.wrap ((l1.length : Int))) t278), .int .u64 0]] rfl (by (try simp only [List.map_toArray, List.map_cons, List.map_nil]); first | done | rfl) ?_; (with_reducible refine (sponge_mixer_perm.calls t278 t279 t280 0 0 (Int.tmod (IntKind.u64.wrap ((l1.length : Int))) t278) 0 t283 t284 t285 t286 _ A18.out).mono ?_); rintro e w24 ⟨rfl, hb⟩; refine ⟨_, rfl, ?_⟩; have n0_ := Aside0.mk (Kd.V_below (by (with_reducible repeat (first | apply Kd.V_alloc | apply Kd.V_drewN | apply Kd.V_drew)); exact (Kd.V_mono (Kd.V_far (p := ⟨g282, 3, none⟩) (Kd.V_far (p := ⟨g282, 2, none⟩) (Kd.V_far (p := ⟨g282, 1, none⟩) (Kd.V_far (p := ⟨g282, 0, none⟩) (Kd.V_mono HO1.out (fun k_ hk => (⟨hk, hk.2⟩ : _ ∧ k_ ≠ g282))) (fun _ hk => hk.2) (.int .u64 0)) (fun _ hk => hk.2) (.int .u64 0)) (fun _ hk => hk.2) (.int .u64 (Int.tmod (IntKind.u64.wrap ((l1.length : Int))) t278))) (fun _ hk => hk.2) (.int .u64 0)) (fun _ h_ => h_.1))) hb); have n1_ := Aside0.mk (blk_below (g := g276) (o := .cells #[.int .u64 0, .int .u64 0] 30 (0, 0)) (by (with_reducible repeat first | refine blk_drewN ?_ _ | refine blk_drew ?_ | refine blk_alloc ?_ _); refine blk_far ?_ NB276_282.out _; (with_reducible repeat first | refine blk_drewN ?_ _ | refine blk_drew ?_ | refine blk_alloc ?_ _); refine blk_far ?_ NB276_282.out _; (with_reducible repeat first | refine blk_drewN ?_ _ | refine blk_drew ?_ | refine blk_alloc ?_ _); refine blk_far ?_ NB276_282.out _; (with_reducible repeat first | refine blk_drewN ?_ _ | refine blk_drew ?_ | refine blk_alloc ?_ _); refine blk_far ?_ NB276_282.out _; (with_reducible repeat first | refine blk_drewN ?_ _ | refine blk_drew ?_ | refine blk_alloc ?_ _); exact B276.out) hb); have n2_ := Aside0.mk (blk_below (g := g281) (o := .cells #[.int .u64 t278, .int .u64 t279, .bool t280] 45 (0, 0)) (by (with_reducible repeat first | refine blk_drewN ?_ _ | refine blk_drew ?_ | refine blk_alloc ?_ _); refine blk_far ?_ NB281_282.out _; (with_reducible repeat first | refine blk_drewN ?_ _ | refine blk_drew ?_ | refine blk_alloc ?_ _); refine blk_far ?_ NB281_282.out _; (with_reducible repeat first | refine blk_drewN ?_ _ | refine blk_drew ?_ | refine blk_alloc ?_ _); refine blk_far ?_ NB281_282.out _; (with_reducible repeat first | refine blk_drewN ?_ _ | refine blk_drew ?_ | refine blk_alloc ?_ _); refine blk_far ?_ NB281_282.out _; (with_reducible repeat first | refine blk_drewN ?_ _ | refine blk_drew ?_ | refine blk_alloc ?_ _); exact B281.out) hb); have n3_ := Aside0.mk (blk_below (g := g282) (o := .cells #[.int .u64 0, .int .u64 0, .int .u64 (Int.tmod (IntKind.u64.wrap ((l1.length : Int))) t278), .int .u64 0] 23 (0, 0)) (by (with_reducible repeat first | refine blk_drewN ?_ _ | refine blk_drew ?_ | refine blk_alloc ?_ _); refine blk_put (cs := #[.int .u64 0, .int .u64 0, .int .u64 (Int.tmod (IntKind.u64.wrap ((l1.length : Int))) t278), .int .u64 0]) ?_ 3 _ rfl; (with_reducible repeat first | refine blk_drewN ?_ _ | refine blk_drew ?_ | refine blk_alloc ?_ _); refine blk_put (cs := #[.int .u64 0, .int .u64 0, .int .u64 0, .int .u64 0]) ?_ 2 _ rfl; (with_reducible repeat first | refine blk_drewN ?_ _ | refine blk_drew ?_ | refine blk_alloc ?_ _); refine blk_put (cs := #[.int .u64 0, .int .u64 0, .int .u64 0, .int .u64 0]) ?_ 1 _ rfl; (with_reducible repeat first | refine blk_drewN ?_ _ | refine blk_drew ?_ | refine blk_alloc ?_ _); refine blk_put (cs := #[.int .u64 0, .int .u64 0, .int .u64 0, .int .u64 0]) ?_ 0 _ rfl; (with_reducible repeat first | refine blk_drewN ?_ _ | refine blk_drew ?_ | refine blk_alloc ?_ _); exact B282.out) hb); have n4_ := Aside0.mk (below_step (by repeat (first | (with_reducible first | exact HB.out | apply below_alloc | apply pw_below_drewN | apply below_drew1 | refine below_set ?_ GE276.out | refine below_set ?_ GE281.out | refine below_set ?_ GE282.out) | exact HB.out)) hb); clear HO1; clear B276; clear B281; clear B282; clear HB; have HO1 := n0_; have B276 := n1_; have B281 := n2_; have B282 := n3_; have HB := n4_; clear n0_ n1_ n2_ n3_ n4_; (try clear hb); (try clear hb2); (try clear hk); (try clear hi); have hcz25_0 : w24.cell? ⟨g282, 0, none⟩ = some (.int .u64 0) := bq_ B282 0; have hcz25_1 : w24.cell? ⟨g282, 1, none⟩ = some (.int .u64 0) := bq_ B282 1; have hcz25_2 : w24.cell? ⟨g282, 2, none⟩ = some (.int .u64 (Int.tmod (IntKind.u64.wrap ((l1.length : Int))) t278)) := bq_ B282 2; have hcz25_3 : w24.cell? ⟨g282, 3, none⟩ = some (.int .u64 0) := bq_ B282 3; have hfz25_0 := blk_frozen B282.out 0; have hfz25_1 := blk_frozen B282.out 1; have hfz25_2 := blk_frozen B282.out 2; have hfz25_3 := blk_frozen B282.out 3))
     go_meet
     case rel => exact ⟨_, (t283), (t284), (t285), (t286), H', ⟨by first | omega | exact Nat.le_refl _⟩, ⟨by (with_reducible repeat (first | apply Kd.V_alloc | apply Kd.V_drewN | apply Kd.V_drew)); exact Kd.V_mono (Kd.V_far (p := ⟨g282, 3, none⟩) (Kd.V_far (p := ⟨g282, 2, none⟩) (Kd.V_far (p := ⟨g282, 1, none⟩) (Kd.V_far (p := ⟨g282, 0, none⟩) (Kd.V_mono HO1.out (fun k_ hk => (⟨hk, hk.2⟩ : _ ∧ k_ ≠ g282))) (fun _ hk => hk.2) (.int .u64 t283)) (fun _ hk => hk.2) (.int .u64 t284)) (fun _ hk => hk.2) (.int .u64 t285)) (fun _ hk => hk.2) (.int .u64 t286)) (fun _ hk => ⟨hk.1.1.1.1, ⟨hk.1.1.1.2, ⟨hk.1.1.2, hk.1.2⟩⟩⟩)⟩, ⟨by (with_reducible repeat first | refine blk_drewN ?_ _ | refine blk_drew ?_ | refine blk_alloc ?_ _); refine blk_far ?_ NB276_282.out _; (with_reducible repeat first | refine blk_drewN ?_ _ | refine blk_drew ?_ | refine blk_alloc ?_ _); refine blk_far ?_ NB276_282.out _; (with_reducible repeat first | refine blk_drewN ?_ _ | refine blk_drew ?_ | refine blk_alloc ?_ _); refine blk_far ?_ NB276_282.out _; (with_reducible repeat first | refine blk_drewN ?_ _ | refine blk_drew ?_ | refine blk_alloc ?_ _); refine blk_far ?_ NB276_282.out _; (with_reducible repeat first | refine blk_drewN ?_ _ | refine blk_drew ?_ | refine blk_alloc ?_ _); exact B276.out⟩, ⟨by (with_reducible repeat first | refine blk_drewN ?_ _ | refine blk_drew ?_ | refine blk_alloc ?_ _); refine blk_far ?_ NB281_282.out _; (with_reducible repeat first | refine blk_drewN ?_ _ | refine blk_drew ?_ | refine blk_alloc ?_ _); refine blk_far ?_ NB281_282.out _; (with_reducible repeat first | refine blk_drewN ?_ _ | refine blk_drew ?_ | refine blk_alloc ?_ _); refine blk_far ?_ NB281_282.out _; (with_reducible repeat first | refine blk_drewN ?_ _ | refine blk_drew ?_ | refine blk_alloc ?_ _); refine blk_far ?_ NB281_282.out _; (with_reducible repeat first | refine blk_drewN ?_ _ | refine blk_drew ?_ | refine blk_alloc ?_ _); exact B281.out⟩, ⟨by (with_reducible repeat first | refine blk_drewN ?_ _ | refine blk_drew ?_ | refine blk_alloc ?_ _); refine blk_put (cs := #[.int .u64 t283, .int .u64 t284, .int .u64 t285, .int .u64 0]) ?_ 3 _ rfl; (with_reducible repeat first | refine blk_drewN ?_ _ | refine blk_drew ?_ | refine blk_alloc ?_ _); refine blk_put (cs := #[.int .u64 t283, .int .u64 t284, .int .u64 (Int.tmod (IntKind.u64.wrap ((l1.length : Int))) t278), .int .u64 0]) ?_ 2 _ rfl; (with_reducible repeat first | refine blk_drewN ?_ _ | refine blk_drew ?_ | refine blk_alloc ?_ _); refine blk_put (cs := #[.int .u64 t283, .int .u64 0, .int .u64 (Int.tmod (IntKind.u64.wrap ((l1.length : Int))) t278), .int .u64 0]) ?_ 1 _ rfl; (with_reducible repeat first | refine blk_drewN ?_ _ | refine blk_drew ?_ | refine blk_alloc ?_ _); refine blk_put (cs := #[.int .u64 0, .int .u64 0, .int .u64 (Int.tmod (IntKind.u64.wrap ((l1.length : Int))) t278), .int .u64 0]) ?_ 0 _ rfl; (with_reducible repeat first | refine blk_drewN ?_ _ | refine blk_drew ?_ | refine blk_alloc ?_ _); exact B282.out⟩, ⟨by repeat (first | (with_reducible first | exact HB.out | apply below_alloc | apply pw_below_drewN | apply below_drew1 | refine below_set ?_ GE276.out | refine below_set ?_ GE281.out | refine below_set ?_ GE282.out) | exact HB.out)⟩⟩
    ·rw [if_neg c17] at H
     have c17b0 : ((l1.length : Int) == 0) = false := beq_eq_false_iff_ne.mpr c17
     have c17b1 : ((l1.length : Int) != 0) = true := bne_iff_ne.mpr c17
     have c17b2 : ¬ (l1 = []) := fun h_ => c17 (by rw [h_]; rfl)
     (first | rw [c17b0] | (simp only [i64_w, i32_w]; rw [c17b0]) | skip)
     have H' := Aside0.mk H
     clear H
     go_wp2
     go_meet
     case rel => exact ⟨_, (0), (0), (Int.tmod (IntKind.u64.wrap ((l1.length : Int))) t278), (0), H', ⟨by first | omega | exact Nat.le_refl _⟩, ⟨by (with_reducible repeat (first | apply Kd.V_alloc | apply Kd.V_drewN | apply Kd.V_drew)); exact Kd.V_mono (Kd.V_far (p := ⟨g282, 3, none⟩) (Kd.V_far (p := ⟨g282, 2, none⟩) (Kd.V_far (p := ⟨g282, 1, none⟩) (Kd.V_far (p := ⟨g282, 0, none⟩) (Kd.V_mono HO1.out (fun k_ hk => (⟨hk, hk.2⟩ : _ ∧ k_ ≠ g282))) (fun _ hk => hk.2) (.int .u64 0)) (fun _ hk => hk.2) (.int .u64 0)) (fun _ hk => hk.2) (.int .u64 (Int.tmod (IntKind.u64.wrap ((l1.length : Int))) t278))) (fun _ hk => hk.2) (.int .u64 0)) (fun _ hk => ⟨hk.1.1.1.1, ⟨hk.1.1.1.2, ⟨hk.1.1.2, hk.1.2⟩⟩⟩)⟩, ⟨by (with_reducible repeat first | refine blk_drewN ?_ _ | refine blk_drew ?_ | refine blk_alloc ?_ _); refine blk_far ?_ NB276_282.out _; (with_reducible repeat first | refine blk_drewN ?_ _ | refine blk_drew ?_ | refine blk_alloc ?_ _); refine blk_far ?_ NB276_282.out _; (with_reducible repeat first | refine blk_drewN ?_ _ | refine blk_drew ?_ | refine blk_alloc ?_ _); refine blk_far ?_ NB276_282.out _; (with_reducible repeat first | refine blk_drewN ?_ _ | refine blk_drew ?_ | refine blk_alloc ?_ _); refine blk_far ?_ NB276_282.out _; (with_reducible repeat first | refine blk_drewN ?_ _ | refine blk_drew ?_ | refine blk_alloc ?_ _); exact B276.out⟩, ⟨by (with_reducible repeat first | refine blk_drewN ?_ _ | refine blk_drew ?_ | refine blk_alloc ?_ _); refine blk_far ?_ NB281_282.out _; (with_reducible repeat first | refine blk_drewN ?_ _ | refine blk_drew ?_ | refine blk_alloc ?_ _); refine blk_far ?_ NB281_282.out _; (with_reducible repeat first | refine blk_drewN ?_ _ | refine blk_drew ?_ | refine blk_alloc ?_ _); refine blk_far ?_ NB281_282.out _; (with_reducible repeat first | refine blk_drewN ?_ _ | refine blk_drew ?_ | refine blk_alloc ?_ _); refine blk_far ?_ NB281_282.out _; (with_reducible repeat first | refine blk_drewN ?_ _ | refine blk_drew ?_ | refine blk_alloc ?_ _); exact B281.out⟩, ⟨by (with_reducible repeat first | refine blk_drewN ?_ _ | refine blk_drew ?_ | refine blk_alloc ?_ _); refine blk_put (cs := #[.int .u64 0, .int .u64 0, .int .u64 (Int.tmod (IntKind.u64.wrap ((l1.length : Int))) t278), .int .u64 0]) ?_ 3 _ rfl; (with_reducible repeat first | refine blk_drewN ?_ _ | refine blk_drew ?_ | refine blk_alloc ?_ _); refine blk_put (cs := #[.int .u64 0, .int .u64 0, .int .u64 0, .int .u64 0]) ?_ 2 _ rfl; (with_reducible repeat first | refine blk_drewN ?_ _ | refine blk_drew ?_ | refine blk_alloc ?_ _); refine blk_put (cs := #[.int .u64 0, .int .u64 0, .int .u64 0, .int .u64 0]) ?_ 1 _ rfl; (with_reducible repeat first | refine blk_drewN ?_ _ | refine blk_drew ?_ | refine blk_alloc ?_ _); refine blk_put (cs := #[.int .u64 0, .int .u64 0, .int .u64 0, .int .u64 0]) ?_ 0 _ rfl; (with_reducible repeat first | refine blk_drewN ?_ _ | refine blk_drew ?_ | refine blk_alloc ?_ _); exact B282.out⟩, ⟨by repeat (first | (with_reducible first | exact HB.out | apply below_alloc | apply pw_below_drewN | apply below_drew1 | refine below_set ?_ GE276.out | refine below_set ?_ GE281.out | refine below_set ?_ GE282.out) | exact HB.out)⟩⟩
   case rest =>
    clear HC7
    try clear c1
    try clear c2
    try clear p2
    try clear c3
    try clear c4
    try clear c6
    try clear c6b0
    try clear c6b1
    try clear c11
    try clear c14
    try clear c15
    try clear c17
    try clear c17b0
    try clear c17b1
    try clear c17b2
    try clear c19
    try clear c20
    try clear c22
    try clear hcz12_0
    try clear hcz12_1
    try clear hcz12_2
    try clear hcz16_0
    try clear hcz16_1
    try clear hcz16_2
    try clear hcz16_3
    try clear hcz21_0
    try clear hcz21_1
    try clear hcz21_2
    try clear hcz23_0
    try clear hcz23_1
    try clear hcz23_2
    try clear hcz23_3
    try clear hcz25_0
    try clear hcz25_1
    try clear hcz25_2
    try clear hcz25_3
    try clear hfz12_0
    try clear hfz12_1
    try clear hfz12_2
    try clear hfz16_0
    try clear hfz16_1
    try clear hfz16_2
    try clear hfz16_3
    try clear hfz21_0
    try clear hfz21_1
    try clear hfz21_2
    try clear hfz23_0
    try clear hfz23_1
    try clear hfz23_2
    try clear hfz23_3
    try clear hfz25_0
    try clear hfz25_1
    try clear hfz25_2
    try clear hfz25_3
    obtain ⟨kq, x283000_6, x283001_6, x283002_6, x283003_6, HA, HJ6, HO_1, B276, B281, B282, HB⟩ := hcut
    cases kq with
    | zero => exact absurd HA.out (by simp [sponge_Hash.j0])
    | succ kj6 =>
     have H := HA.out
     clear HA
     simp only [sponge_Hash.j0] at H
     have H' := Aside0.mk H
     clear H
     go_wp2
     go_loopg [1] kj6 (fun kq v1 w' => ∃ (x1_2 : List Int) (x283000_2 : Int) (x283001_2 : Int) (x283002_2 : Int) (x283003_2 : Int), Aside0 (sponge_Hash.l0 kq x1_2 t278 t279 t280 x283000_2 x283001_2 x283002_2 x283003_2 = some (r1, r2)) ∧ Aside0 (kq ≤ kj6) ∧ Aside0 (Kd.V (Kd.int .u64) 22 w' w.heap.size (fun k_ => (P1_ k_ ∨ w.heap.size ≤ k_) ∧ k_ ≠ g276 ∧ k_ ≠ g281 ∧ k_ ≠ g282) v1 x1_2) ∧ Aside0 (w'.heap[g276]? = some (.cells #[.int .u64 0, .int .u64 0] 30 (0, 0))) ∧ Aside0 (w'.heap[g281]? = some (.cells #[.int .u64 t278, .int .u64 t279, .bool t280] 45 (0, 0))) ∧ Aside0 (w'.heap[g282]? = some (.cells #[.int .u64 x283000_2, .int .u64 x283001_2, .int .u64 x283002_2, .int .u64 x283003_2] 23 (0, 0))) ∧ Aside0 (Below w.heap.size w w'))
     case atStart => exact ⟨(l1), (x283000_6), (x283001_6), (x283002_6), (x283003_6), H', ⟨Nat.le_refl _⟩, ⟨by (with_reducible repeat (first | apply Kd.V_alloc | apply Kd.V_drewN | apply Kd.V_drew)); exact HO_1.out⟩, ⟨by (with_reducible repeat first | refine blk_drewN ?_ _ | refine blk_drew ?_ | refine blk_alloc ?_ _); exact B276.out⟩, ⟨by (with_reducible repeat first | refine blk_drewN ?_ _ | refine blk_drew ?_ | refine blk_alloc ?_ _); exact B281.out⟩, ⟨by (with_reducible repeat first | refine blk_drewN ?_ _ | refine blk_drew ?_ | refine blk_alloc ?_ _); exact B282.out⟩, ⟨by repeat (first | (with_reducible first | exact HB.out | apply below_alloc | apply pw_below_drewN | apply below_drew1 | refine below_set ?_ GE276.out | refine below_set ?_ GE281.out | refine below_set ?_ GE282.out) | exact HB.out)⟩⟩
     case round =>
      clear H'
      try clear c1
      try clear c2
      try clear p2
      try clear c3
      try clear c4
      try clear c6
      try clear c6b0
      try clear c6b1
      try clear c11
      try clear c14
      try clear c15
      try clear c17
      try clear c17b0
      try clear c17b1
      try clear c17b2
      try clear c19
      try clear c20
      try clear c22
      try clear hcz12_0
      try clear hcz12_1
      try clear hcz12_2
      try clear hcz16_0
      try clear hcz16_1
      try clear hcz16_2
      try clear hcz16_3
      try clear hcz21_0
      try clear hcz21_1
      try clear hcz21_2
      try clear hcz23_0
      try clear hcz23_1
      try clear hcz23_2
      try clear hcz23_3
      try clear hcz25_0
      try clear hcz25_1
      try clear hcz25_2
      try clear hcz25_3
      try clear hfz12_0
      try clear hfz12_1
      try clear hfz12_2
      try clear hfz16_0
      try clear hfz16_1
      try clear hfz16_2
      try clear hfz16_3
      try clear hfz21_0
      try clear hfz21_1
      try clear hfz21_2
      try clear hfz23_0
      try clear hfz23_1
      try clear hfz23_2
      try clear hfz23_3
      try clear hfz25_0
      try clear hfz25_1
      try clear hfz25_2
      try clear hfz25_3
      try clear p2
      obtain ⟨x1_2, x283000_2, x283001_2, x283002_2, x283003_2, HA, HK2, HO_1, B276, B281, B282, HB⟩ := hrel
      cases gk with
      | zero => exact absurd HA.out (by simp [sponge_Hash.l0])
      | succ k2 =>
       have H := HA.out
       clear HA
       simp only [sponge_Hash.l0] at H
       by_cases c26 : (x1_2.length : Int) > 0
       ·rw [if_pos c26] at H
        have c26b0 : decide (0 < (x1_2.length : Int)) = true := decide_eq_true c26
        have c26b1 : decide (0 < x1_2.length) = true := decide_eq_true (by omega)
        clear c26
        obtain ⟨ji27, hji27⟩ : ∃ j_ : Int, (mn 2 (x1_2.length : Int)) = j_ := ⟨_, rfl⟩
        replace H : (if 0 ≤ (ji27) then (if (ji27) ≤ (x1_2.length : Int) then ((some (x1_2.take ((ji27) : Int).toNat : List Int)).bind fun y287 => (sponge_Hash.l1 k2 x1_2 ji27 y287 (y287.length : Int) 0 t278 t279 t280 x283000_2 x283001_2 x283002_2 x283003_2)) else (none)) else (none)) = some (r1, r2) := by first | (rw [hji27] at H; exact H) | (simp only [hji27] at H ⊢; exact H)
        have hji27_ : (if (x1_2.length : Int) < 2 then (x1_2.length : Int) else 2) = ji27 := hji27
        by_cases c28 : 0 ≤ (ji27)
        ·rw [if_pos c28] at H
         have c28b0 := eq_true c28
         have c28b1 : decide (0 ≤ (ji27)) = true := decide_eq_true c28
         clear c28
         by_cases c29 : (ji27) ≤ (x1_2.length : Int)
         ·rw [if_pos c29] at H
          have c29b0 := eq_true c29
          have c29b1 : decide ((ji27) ≤ (x1_2.length : Int)) = true := decide_eq_true c29
          clear c29
          obtain ⟨y287, hy287⟩ : ∃ y_ : List Int, y_ = (x1_2.take ((ji27) : Int).toNat) := ⟨_, rfl⟩
          replace H : (sponge_Hash.l1 k2 x1_2 ji27 y287 (y287.length : Int) 0 t278 t279 t280 x283000_2 x283001_2 x283002_2 x283003_2) = some (r1, r2) := by first | (rw [hy287]; with_reducible exact H) | (have H2_ := (Option.bind_some _ _).symm.trans H; rw [hy287]; with_reducible exact H2_) | (have H2_ := (Option.bind_some _ _).symm.trans H; with_reducible exact H2_) | with_reducible exact H | (rw [hy287]; exact H) | exact H
          have Ny287 := Aside0.mk hy287
          clear hy287
          have H' := Aside0.mk H
          clear H
          obtain ⟨Ao30, co30, eo30⟩ := Kd.V_slice HO_1.out
          subst eo30
          have q31 : ((ji27) : Int) ≤ ((x1_2.length : Int) : Int) := of_decide_eq_true (by first | (with_reducible assumption) | assumption)
          obtain ⟨i031, hi031, _, hsz31, _⟩ := info_parts info22
          have hroom31 : x1_2.length ≤ co30 := (Kd.V_reads' HO_1.out).2.1
          have hC31 : Kd.F (Kd.int .u64) _ _ Ao30 x1_2.length x1_2 := (Kd.V_at (base := w.heap.size) HO_1.out).2.2
          have hcut31 := cut_to (P := Tryd.prog) 28 22 .i64 Tryd.underlying28 hi031 Ao30 x1_2.length co30 (ji27) (of_decide_eq_true (by first | (with_reducible assumption) | assumption)) q31 hroom31
          have hr31 := Kd.F_take (m := ((ji27) : Int).toNat) hC31 (by omega)
          have hy31 : y287.length = ((ji27) : Int).toNat := (by rw [Ny287.out, List.length_take]; omega)
          rw [← Ny287.out] at hr31
          rw [← hy31] at hcut31
          have HO291 := Aside0.mk (show Kd.V (Kd.int .u64) 22 _ w.heap.size _ (.slice Ao30 y287.length co30) y287 from Kd.V_mk (by omega) hr31)
          have HC291 := Aside0.mk (show y287.length ≤ co30 from by omega)
          clear hr31 hC31 hroom31 hi031 hsz31
          have KY31 := Aside0.mk hy31
          clear hy31
          replace q31 := eq_true q31
          go_wp2
          go_loopg [39] k2 (fun kq v39 w' => ∃ (x39_3 : Int) (x283000_3 : Int) (x283001_3 : Int) (x283002_3 : Int) (x283003_3 : Int), v39 = .int .i64 x39_3 ∧ Aside0 (sponge_Hash.l1 kq x1_2 ji27 y287 (y287.length : Int) x39_3 t278 t279 t280 x283000_3 x283001_3 x283002_3 x283003_3 = some (r1, r2)) ∧ Aside0 (kq ≤ k2) ∧ Aside0 (Kd.V (Kd.int .u64) 22 w' w.heap.size (fun k_ => (P1_ k_ ∨ w.heap.size ≤ k_) ∧ k_ ≠ g276 ∧ k_ ≠ g281 ∧ k_ ≠ g282) (.slice Ao30 x1_2.length co30) x1_2) ∧ Aside0 (Kd.V (Kd.int .u64) 22 w' w.heap.size (fun k_ => (P1_ k_ ∨ w.heap.size ≤ k_) ∧ k_ ≠ g276 ∧ k_ ≠ g281 ∧ k_ ≠ g282) (.slice Ao30 y287.length co30) y287) ∧ Aside0 (w'.heap[g276]? = some (.cells #[.int .u64 0, .int .u64 0] 30 (0, 0))) ∧ Aside0 (w'.heap[g281]? = some (.cells #[.int .u64 t278, .int .u64 t279, .bool t280] 45 (0, 0))) ∧ Aside0 (w'.heap[g282]? = some (.cells #[.int .u64 x283000_3, .int .u64 x283001_3, .int .u64 x283002_3, .int .u64 x283003_3] 23 (0, 0))) ∧ Aside0 (Below w.heap.size w w'))
          case atStart => exact ⟨(0), (x283000_2), (x283001_2), (x283002_2), (x283003_2), (by first | rfl | (simp; done) | (simp [*]; done) | (simp; rfl) | (simp; decide +kernel)), H', ⟨Nat.le_refl _⟩, ⟨by (with_reducible repeat (first | apply Kd.V_alloc | apply Kd.V_drewN | apply Kd.V_drew)); exact HO_1.out⟩, ⟨by (with_reducible repeat (first | apply Kd.V_alloc | apply Kd.V_drewN | apply Kd.V_drew)); exact HO291.out⟩, ⟨by (with_reducible repeat first | refine blk_drewN ?_ _ | refine blk_drew ?_ | refine blk_alloc ?_ _); exact B276.out⟩, ⟨by (with_reducible repeat first | refine blk_drewN ?_ _ | refine blk_drew ?_ | refine blk_alloc ?_ _); exact B281.out⟩, ⟨by (with_reducible repeat first | refine blk_drewN ?_ _ | refine blk_drew ?_ | refine blk_alloc ?_ _); exact B282.out⟩, ⟨by repeat (first | (with_reducible first | exact HB.out | apply below_alloc | apply pw_below_drewN | apply below_drew1 | refine below_set ?_ GE276.out | refine below_set ?_ GE281.out | refine below_set ?_ GE282.out) | exact HB.out)⟩⟩
          case round =>
           clear H'
           try clear c1
           try clear c2
           try clear p2
           try clear c3
           try clear q3
           try clear c4
           try clear c6
           try clear c6b0
           try clear c6b1
           try clear c11
           try clear c14
           try clear c15
           try clear c17
           try clear c17b0
           try clear c17b1
           try clear c17b2
           try clear c19
           try clear c20
           try clear c22
           try clear c26
           try clear c26b0
           try clear c26b1
           try clear c28
           try clear c28b0
           try clear c28b1
           try clear c29
           try clear c29b0
           try clear c29b1
           try clear q31
           try clear hcz12_0
           try clear hcz12_1
           try clear hcz12_2
           try clear hcz16_0
           try clear hcz16_1
           try clear hcz16_2
           try clear hcz16_3
           try clear hcz21_0
           try clear hcz21_1
           try clear hcz21_2
           try clear hcz23_0
           try clear hcz23_1
           try clear hcz23_2
           try clear hcz23_3
           try clear hcz25_0
           try clear hcz25_1
           try clear hcz25_2
           try clear hcz25_3
           try clear hfz12_0
           try clear hfz12_1
           try clear hfz12_2
           try clear hfz16_0
           try clear hfz16_1
           try clear hfz16_2
           try clear hfz16_3
           try clear hfz21_0
           try clear hfz21_1
           try clear hfz21_2
           try clear hfz23_0
           try clear hfz23_1
           try clear hfz23_2
           try clear hfz23_3
           try clear hfz25_0
           try clear hfz25_1
           try clear hfz25_2
           try clear hfz25_3
           try clear p2
           try clear q31
           obtain ⟨x39_3, x283000_3, x283001_3, x283002_3, x283003_3, rfl, HA, HK3, HO_1, HO_37, B276, B281, B282, HB⟩ := hrel
           cases gk with
           | zero => exact absurd HA.out (by simp [sponge_Hash.l1])
           | succ k3 =>
            have H := HA.out
            clear HA
            simp only [sponge_Hash.l1] at H
            by_cases c32 : x39_3 < (y287.length : Int)
            ·rw [if_pos c32] at H
             have c32b0 : decide (x39_3 < (y287.length : Int)) = true := decide_eq_true c32
             clear c32
             by_cases c33 : 0 ≤ x39_3
             ·rw [if_pos c33] at H
              have c33b0 : decide (0 ≤ x39_3) = true := decide_eq_true c33
              clear c33
              by_cases c34 : x39_3 < (y287.length : Int)
              ·rw [if_pos c34] at H
               have c34b0 : decide (x39_3 < (y287.length : Int)) = true := decide_eq_true c34
               clear c34
               by_cases c35 : x39_3 = 0
               ·rw [if_pos c35] at H
                subst c35
                by_cases c36 : t278 = 0
                ·rw [if_pos c36] at H
                 exact absurd H (by simp)
                ·rw [if_neg c36] at H
                 have c36b0 : (t278 == 0) = false := beq_eq_false_iff_ne.mpr c36
                 have c36b1 : (t278 != 0) = true := bne_iff_ne.mpr c36
                 have H' := Aside0.mk H
                 clear H
                 have p292 : 0 ≤ (0 : Int) := (by omega)
                 have q292 : 0 < (y287.length : Int) := of_decide_eq_true (by first | (with_reducible assumption) | assumption)
                 obtain ⟨ad292, e292, hx292_0⟩ := Kd.at_int (Kd.V_reads' HO_37.out).2.2 0 p292 q292
                 cases e292
                 have qi292 : (0 < y287.length) = True := eq_true (by omega)
                 (try rw [show ((0 : Int)).toNat = 0 from rfl] at hx292_0)
                 (try rw [Addr.add_zero'] at hx292_0)
                 replace p292 := eq_true p292
                 replace q292 := eq_true q292
                 try go_wp2
                 have n0_ := Aside0.mk (Kd.V_drew HO_1.out)
                 have n1_ := Aside0.mk (Kd.V_drew HO_37.out)
                 have n2_ := Aside0.mk (blk_drew B276.out)
                 have n3_ := Aside0.mk (blk_drew B281.out)
                 have n4_ := Aside0.mk (blk_drew B282.out)
                 have n5_ := Aside0.mk (below_drew1 HB.out)
                 clear HO_1
                 clear HO_37
                 clear B276
                 clear B281
                 clear B282
                 clear HB
                 have HO_1 := n0_
                 have HO_37 := n1_
                 have B276 := n2_
                 have B281 := n3_
                 have B282 := n4_
                 have HB := n5_
                 clear n0_ n1_ n2_ n3_ n4_ n5_
                 refine start_ (n := 14) (S := fun w' => w'.cell? ⟨g282, 0, none⟩ = some (.int .u64 x283000_3) ∧ w'.cell? ⟨g282, 1, none⟩ = some (.int .u64 x283001_3) ∧ w'.cell? ⟨g282, 2, none⟩ = some (.int .u64 x283002_3) ∧ w'.cell? ⟨g282, 3, none⟩ = some (.int .u64 x283003_3) ∧ w'.cell? ⟨g281, 0, none⟩ = some (.int .u64 t278) ∧ w'.cell? ⟨g281, 1, none⟩ = some (.int .u64 t279) ∧ w'.cell? ⟨g281, 2, none⟩ = some (.bool t280)) (ds := [13]) z17_0_ (by kernel_rfl) rfl rfl ⟨bq_ B282 0, bq_ B282 1, bq_ B282 2, bq_ B282 3, bq_ B281 0, bq_ B281 1, bq_ B281 2⟩ (fun hL => ?_); refine with_tabW sponge_Hash.tab12 sponge_Hash.bits12 (fun T_ W_ => ?_)
                 generalize wr.drew = w37 at HO_1 HO_37 B276 B281 B282 HB hL ⊢
                 refine pure_ (i := 0) (N := some 44) (v := ?_) (a' := ?_) z17_1_ rfl rfl (any_of T_.out (by kernel_rfl)) (fun _ _ _ h => h) (Or.inl ⟨by rfl, ?_⟩) ?_ ?_
                 rotate_left; · intro w'; go_simp; with_reducible rfl
                 rotate_left; · simp only [Act.put, sa_, sb_, sc_, i64_w, i32_w]; rfl
                 refine pure_ (i := 1) (N := some 45) (v := ?_) (a' := ?_) z17_2_ rfl rfl (any_of T_.out (by kernel_rfl)) (fun _ _ _ h => h) (Or.inl ⟨by rfl, ?_⟩) ?_ ?_
                 rotate_left; · intro w'; go_simp; with_reducible rfl
                 rotate_left; · simp only [Act.put, sa_, sb_, sc_, i64_w, i32_w]; rfl
                 refine pure_ (i := 2) (N := some 46) (v := ?_) (a' := ?_) z17_3_ rfl rfl (any_of T_.out (by kernel_rfl)) (fun _ _ _ h => h) (Or.inl ⟨by rfl, ?_⟩) ?_ ?_
                 rotate_left; · intro w'; go_simp; with_reducible rfl
                 rotate_left; · simp only [Act.put, sa_, sb_, sc_, i64_w, i32_w]; rfl
                 refine pure_ (i := 4) (N := some 48) (v := ?_) (a' := ?_) z17_4_ rfl rfl (any_of T_.out (by kernel_rfl)) (fun _ _ _ h => h) (Or.inl ⟨by rfl, ?_⟩) ?_ ?_
                 rotate_left; · intro w'; go_simp; with_reducible rfl
                 rotate_left; · simp only [Act.put, sa_, sb_, sc_, i64_w, i32_w]; rfl
                 refine pure_ (i := 5) (N := some 49) (v := ?_) (a' := ?_) z17_5_ rfl rfl (any_of T_.out (by kernel_rfl)) (fun _ _ _ h => h) (Or.inl ⟨by rfl, ?_⟩) ?_ ?_
                 rotate_left; · intro w'; go_simp; with_reducible rfl
                 rotate_left; · simp only [Act.put, sa_, sb_, sc_, i64_w, i32_w]; rfl
                 refine pure_ (i := 9) (N := some 53) (v := ?_) (a' := ?_) z17_6_ rfl rfl (any_of T_.out (by kernel_rfl)) (fun _ _ _ h => h) (Or.inl ⟨by rfl, ?_⟩) ?_ ?_
                 rotate_left; · intro w'; go_simp; with_reducible rfl
                 rotate_left; · simp only [Act.put, sa_, sb_, sc_, i64_w, i32_w]; rfl
                 refine take_ (i := 3) (N := some 47) (v := ?_) (a' := ?_) z17_7_ rfl rfl (take_ofW T_.out W_.out (by kernel_rfl)) (fun _ _ _ h => h) (Or.inl ⟨by rfl, ?_⟩) hL ?_ ?_
                 rotate_left
                 ·rintro w' ⟨s0, s1, s2, s3, s4, s5, s6⟩
                  go_simp
                  with_reducible rfl
                 rotate_left
                 ·simp only [Act.put, sa_, sb_, sc_, i64_w, i32_w]
                  rfl
                 refine take_ (i := 6) (N := some 50) (v := ?_) (a' := ?_) z17_8_ rfl rfl (take_ofW T_.out W_.out (by kernel_rfl)) (fun _ _ _ h => h) (Or.inl ⟨by rfl, ?_⟩) hL ?_ ?_
                 rotate_left
                 ·rintro w' ⟨s0, s1, s2, s3, s4, s5, s6⟩
                  go_simp
                  with_reducible rfl
                 rotate_left
                 ·simp only [Act.put, sa_, sb_, sc_, i64_w, i32_w]
                  rfl
                 refine pure_ (i := 7) (N := some 51) (v := ?_) (a' := ?_) z17_9_ rfl rfl (any_of T_.out (by kernel_rfl)) (fun _ _ _ h => h) (Or.inl ⟨by rfl, ?_⟩) ?_ ?_
                 rotate_left; · intro w'; go_simp; with_reducible rfl
                 rotate_left; · simp only [Act.put, sa_, sb_, sc_, i64_w, i32_w]; rfl
                 refine pure_ (i := 8) (N := some 52) (v := ?_) (a' := ?_) z17_10_ rfl rfl (any_of T_.out (by kernel_rfl)) (fun _ _ _ h => h) (Or.inl ⟨by rfl, ?_⟩) ?_ ?_
                 rotate_left; · intro w'; go_simp; with_reducible rfl
                 rotate_left; · simp only [Act.put, sa_, sb_, sc_, i64_w, i32_w]; rfl
                 refine take_ (i := 10) (N := some 54) (v := ?_) (a' := ?_) z17_11_ rfl rfl (take_ofW T_.out W_.out (by kernel_rfl)) (fun _ _ _ h => h) (Or.inl ⟨by rfl, ?_⟩) hL ?_ ?_
                 rotate_left
                 ·rintro w' ⟨s0, s1, s2, s3, s4, s5, s6⟩
                  go_simp
                  with_reducible rfl
                 rotate_left
                 ·simp only [Act.put, sa_, sb_, sc_, i64_w, i32_w]
                  rfl
                 refine pure_ (i := 11) (N := some 55) (v := ?_) (a' := ?_) z17_12_ rfl rfl (any_of T_.out (by kernel_rfl)) (fun _ _ _ h => h) (Or.inl ⟨by rfl, ?_⟩) ?_ ?_
                 rotate_left; · intro w'; go_simp; with_reducible rfl
                 rotate_left; · simp only [Act.put, sa_, sb_, sc_, i64_w, i32_w]; rfl
                 refine pure_ (i := 12) (N := some 56) (v := ?_) (a' := ?_) z17_13_ rfl rfl (any_of T_.out (by kernel_rfl)) (fun _ _ _ h => h) (Or.inl ⟨by rfl, ?_⟩) ?_ ?_
                 rotate_left; · intro w'; go_simp; with_reducible rfl
                 rotate_left; · simp only [Act.put, sa_, sb_, sc_, i64_w, i32_w]; rfl
                 refine last_ (i := 13) (N := none) z17_14_ rfl rfl (one_of T_.out (by kernel_rfl)) (by decide) (fun K hK => ?_)
                 have hs38 : w37.cell? ⟨g282, 0, none⟩ = some (.int .u64 x283000_3) := bq_ B282 0
                 have hfs38 := blk_frozen B282.out 0
                 have hns38_0 := NB276_282.out
                 have hns38_1 := NB281_282.out
                 have hms38_0 := NB282_276.out
                 have hms38_1 := NB282_281.out
                 refine skip_ (w1 := ?_) (by rfl) rfl ?_ ?_
                 rotate_left
                 ·go_simp
                  rfl
                 refine hK.out _ _ ?_
                 clear hK K
                 refine done_ (done_of T_.out (by kernel_rfl)) ?_
                 try go_wp2
                 go_roundg k3
                 case measure => have := HJ6.out; have := HK2.out; have := HK3.out; omega
                 case rel => exact ⟨(wrap64 (0 + 1)), (Int.tmod (IntKind.u64.wrap (x283000_3 + (Int.tmod (rd y287 0) t278))) t278), (x283001_3), (x283002_3), (x283003_3), (by first | rfl | (simp; done) | (simp [*]; done) | (simp; rfl) | (simp; decide +kernel)), H', ⟨by have := HJ6.out; have := HK2.out; have := HK3.out; omega⟩, ⟨by (with_reducible repeat (first | apply Kd.V_alloc | apply Kd.V_drewN | apply Kd.V_drew)); exact Kd.V_mono (Kd.V_far (p := ⟨g282, 0, none⟩) (Kd.V_mono HO_1.out (fun k_ hk => (⟨hk, hk.2.2.2⟩ : _ ∧ k_ ≠ g282))) (fun _ hk => hk.2) (.int .u64 (Int.tmod (IntKind.u64.wrap (x283000_3 + (Int.tmod (rd y287 0) t278))) t278))) (fun _ hk => ⟨hk.1.1, ⟨hk.1.2.1, ⟨hk.1.2.2.1, hk.1.2.2.2⟩⟩⟩)⟩, ⟨by (with_reducible repeat (first | apply Kd.V_alloc | apply Kd.V_drewN | apply Kd.V_drew)); exact Kd.V_mono (Kd.V_far (p := ⟨g282, 0, none⟩) (Kd.V_mono HO_37.out (fun k_ hk => (⟨hk, hk.2.2.2⟩ : _ ∧ k_ ≠ g282))) (fun _ hk => hk.2) (.int .u64 (Int.tmod (IntKind.u64.wrap (x283000_3 + (Int.tmod (rd y287 0) t278))) t278))) (fun _ hk => ⟨hk.1.1, ⟨hk.1.2.1, ⟨hk.1.2.2.1, hk.1.2.2.2⟩⟩⟩)⟩, ⟨by (with_reducible repeat first | refine blk_drewN ?_ _ | refine blk_drew ?_ | refine blk_alloc ?_ _); refine blk_far ?_ NB276_282.out _; (with_reducible repeat first | refine blk_drewN ?_ _ | refine blk_drew ?_ | refine blk_alloc ?_ _); exact B276.out⟩, ⟨by (with_reducible repeat first | refine blk_drewN ?_ _ | refine blk_drew ?_ | refine blk_alloc ?_ _); refine blk_far ?_ NB281_282.out _; (with_reducible repeat first | refine blk_drewN ?_ _ | refine blk_drew ?_ | refine blk_alloc ?_ _); exact B281.out⟩, ⟨by (with_reducible repeat first | refine blk_drewN ?_ _ | refine blk_drew ?_ | refine blk_alloc ?_ _); refine blk_put (cs := #[.int .u64 x283000_3, .int .u64 x283001_3, .int .u64 x283002_3, .int .u64 x283003_3]) ?_ 0 _ rfl; (with_reducible repeat first | refine blk_drewN ?_ _ | refine blk_drew ?_ | refine blk_alloc ?_ _); exact B282.out⟩, ⟨by repeat (first | (with_reducible first | exact HB.out | apply below_alloc | apply pw_below_drewN | apply below_drew1 | refine below_set ?_ GE276.out | refine below_set ?_ GE281.out | refine below_set ?_ GE282.out) | exact HB.out)⟩⟩
               ·rw [if_neg c35] at H
                by_cases c39 : x39_3 = 1
                ·rw [if_pos c39] at H
                 subst c39
                 by_cases c40 : t278 = 0
                 ·rw [if_pos c40] at H
                  exact absurd H (by simp)
                 ·rw [if_neg c40] at H
                  have c40b0 : (t278 == 0) = false := beq_eq_false_iff_ne.mpr c40
                  have c40b1 : (t278 != 0) = true := bne_iff_ne.mpr c40
                  have H' := Aside0.mk H
                  clear H
                  have p292 : 0 ≤ (1 : Int) := (by omega)
                  have q292 : 1 < (y287.length : Int) := of_decide_eq_true (by first | (with_reducible assumption) | assumption)
                  obtain ⟨ad292, e292, hx292_0⟩ := Kd.at_int (Kd.V_reads' HO_37.out).2.2 1 p292 q292
                  cases e292
                  (try simp only [show (1 : Int).toNat = 1 from rfl, Nat.reduceMul, Nat.reduceEqDiff, Go.Addr.add, ↓reduceIte] at hx292_0)
                  have qi292 : (1 < y287.length) = True := eq_true (by omega)
                  (try rw [show ((1 : Int)).toNat = 1 from rfl] at hx292_0)
                  replace p292 := eq_true p292
                  replace q292 := eq_true q292
                  try go_wp2
                  have n0_ := Aside0.mk (Kd.V_drew HO_1.out)
                  have n1_ := Aside0.mk (Kd.V_drew HO_37.out)
                  have n2_ := Aside0.mk (blk_drew B276.out)
                  have n3_ := Aside0.mk (blk_drew B281.out)
                  have n4_ := Aside0.mk (blk_drew B282.out)
                  have n5_ := Aside0.mk (below_drew1 HB.out)
                  clear HO_1
                  clear HO_37
                  clear B276
                  clear B281
                  clear B282
                  clear HB
                  have HO_1 := n0_
                  have HO_37 := n1_
                  have B276 := n2_
                  have B281 := n3_
                  have B282 := n4_
                  have HB := n5_
                  clear n0_ n1_ n2_ n3_ n4_ n5_
                  refine start_ (n := 14) (S := fun w' => w'.cell? ⟨g282, 0, none⟩ = some (.int .u64 x283000_3) ∧ w'.cell? ⟨g282, 1, none⟩ = some (.int .u64 x283001_3) ∧ w'.cell? ⟨g282, 2, none⟩ = some (.int .u64 x283002_3) ∧ w'.cell? ⟨g282, 3, none⟩ = some (.int .u64 x283003_3) ∧ w'.cell? ⟨g281, 0, none⟩ = some (.int .u64 t278) ∧ w'.cell? ⟨g281, 1, none⟩ = some (.int .u64 t279) ∧ w'.cell? ⟨g281, 2, none⟩ = some (.bool t280)) (ds := [13]) z17_0_ (by kernel_rfl) rfl rfl ⟨bq_ B282 0, bq_ B282 1, bq_ B282 2, bq_ B282 3, bq_ B281 0, bq_ B281 1, bq_ B281 2⟩ (fun hL => ?_); refine with_tabW sponge_Hash.tab12 sponge_Hash.bits12 (fun T_ W_ => ?_)
                  generalize wr.drew = w41 at HO_1 HO_37 B276 B281 B282 HB hL ⊢
                  refine pure_ (i := 0) (N := some 44) (v := ?_) (a' := ?_) z17_1_ rfl rfl (any_of T_.out (by kernel_rfl)) (fun _ _ _ h => h) (Or.inl ⟨by rfl, ?_⟩) ?_ ?_
                  rotate_left; · intro w'; go_simp; with_reducible rfl
                  rotate_left; · simp only [Act.put, sa_, sb_, sc_, i64_w, i32_w]; rfl
                  refine pure_ (i := 1) (N := some 45) (v := ?_) (a' := ?_) z17_2_ rfl rfl (any_of T_.out (by kernel_rfl)) (fun _ _ _ h => h) (Or.inl ⟨by rfl, ?_⟩) ?_ ?_
                  rotate_left; · intro w'; go_simp; with_reducible rfl
                  rotate_left; · simp only [Act.put, sa_, sb_, sc_, i64_w, i32_w]; rfl
                  refine pure_ (i := 2) (N := some 46) (v := ?_) (a' := ?_) z17_3_ rfl rfl (any_of T_.out (by kernel_rfl)) (fun _ _ _ h => h) (Or.inl ⟨by rfl, ?_⟩) ?_ ?_
                  rotate_left; · intro w'; go_simp; with_reducible rfl
                  rotate_left; · simp only [Act.put, sa_, sb_, sc_, i64_w, i32_w]; rfl
                  refine pure_ (i := 4) (N := some 48) (v := ?_) (a' := ?_) z17_4_ rfl rfl (any_of T_.out (by kernel_rfl)) (fun _ _ _ h => h) (Or.inl ⟨by rfl, ?_⟩) ?_ ?_
                  rotate_left; · intro w'; go_simp; with_reducible rfl
                  rotate_left; · simp only [Act.put, sa_, sb_, sc_, i64_w, i32_w]; rfl
                  refine pure_ (i := 5) (N := some 49) (v := ?_) (a' := ?_) z17_5_ rfl rfl (any_of T_.out (by kernel_rfl)) (fun _ _ _ h => h) (Or.inl ⟨by rfl, ?_⟩) ?_ ?_
                  rotate_left; · intro w'; go_simp; with_reducible rfl
                  rotate_left; · simp only [Act.put, sa_, sb_, sc_, i64_w, i32_w]; rfl
                  refine pure_ (i := 9) (N := some 53) (v := ?_) (a' := ?_) z17_6_ rfl rfl (any_of T_.out (by kernel_rfl)) (fun _ _ _ h => h) (Or.inl ⟨by rfl, ?_⟩) ?_ ?_
                  rotate_left; · intro w'; go_simp; with_reducible rfl
                  rotate_left; · simp only [Act.put, sa_, sb_, sc_, i64_w, i32_w]; rfl
                  refine take_ (i := 3) (N := some 47) (v := ?_) (a' := ?_) z17_7_ rfl rfl (take_ofW T_.out W_.out (by kernel_rfl)) (fun _ _ _ h => h) (Or.inl ⟨by rfl, ?_⟩) hL ?_ ?_
                  rotate_left
                  ·rintro w' ⟨s0, s1, s2, s3, s4, s5, s6⟩
                   go_simp
                   with_reducible rfl
                  rotate_left
                  ·simp only [Act.put, sa_, sb_, sc_, i64_w, i32_w]
                   rfl
                  refine take_ (i := 6) (N := some 50) (v := ?_) (a' := ?_) z17_8_ rfl rfl (take_ofW T_.out W_.out (by kernel_rfl)) (fun _ _ _ h => h) (Or.inl ⟨by rfl, ?_⟩) hL ?_ ?_
                  rotate_left
                  ·rintro w' ⟨s0, s1, s2, s3, s4, s5, s6⟩
                   go_simp
                   with_reducible rfl
                  rotate_left
                  ·simp only [Act.put, sa_, sb_, sc_, i64_w, i32_w]
                   rfl
                  refine pure_ (i := 7) (N := some 51) (v := ?_) (a' := ?_) z17_9_ rfl rfl (any_of T_.out (by kernel_rfl)) (fun _ _ _ h => h) (Or.inl ⟨by rfl, ?_⟩) ?_ ?_
                  rotate_left; · intro w'; go_simp; with_reducible rfl
                  rotate_left; · simp only [Act.put, sa_, sb_, sc_, i64_w, i32_w]; rfl
                  refine pure_ (i := 8) (N := some 52) (v := ?_) (a' := ?_) z17_10_ rfl rfl (any_of T_.out (by kernel_rfl)) (fun _ _ _ h => h) (Or.inl ⟨by rfl, ?_⟩) ?_ ?_
                  rotate_left; · intro w'; go_simp; with_reducible rfl
                  rotate_left; · simp only [Act.put, sa_, sb_, sc_, i64_w, i32_w]; rfl
                  refine take_ (i := 10) (N := some 54) (v := ?_) (a' := ?_) z17_11_ rfl rfl (take_ofW T_.out W_.out (by kernel_rfl)) (fun _ _ _ h => h) (Or.inl ⟨by rfl, ?_⟩) hL ?_ ?_
                  rotate_left
                  ·rintro w' ⟨s0, s1, s2, s3, s4, s5, s6⟩
                   go_simp
                   with_reducible rfl
                  rotate_left
                  ·simp only [Act.put, sa_, sb_, sc_, i64_w, i32_w]
                   rfl
                  refine pure_ (i := 11) (N := some 55) (v := ?_) (a' := ?_) z17_12_ rfl rfl (any_of T_.out (by kernel_rfl)) (fun _ _ _ h => h) (Or.inl ⟨by rfl, ?_⟩) ?_ ?_
                  rotate_left; · intro w'; go_simp; with_reducible rfl
                  rotate_left; · simp only [Act.put, sa_, sb_, sc_, i64_w, i32_w]; rfl
                  refine pure_ (i := 12) (N := some 56) (v := ?_) (a' := ?_) z17_13_ rfl rfl (any_of T_.out (by kernel_rfl)) (fun _ _ _ h => h) (Or.inl ⟨by rfl, ?_⟩) ?_ ?_
                  rotate_left; · intro w'; go_simp; with_reducible rfl
                  rotate_left; · simp only [Act.put, sa_, sb_, sc_, i64_w, i32_w]; rfl
                  refine last_ (i := 13) (N := none) z17_14_ rfl rfl (one_of T_.out (by kernel_rfl)) (by decide) (fun K hK => ?_)
                  have hs42 : w41.cell? ⟨g282, 1, none⟩ = some (.int .u64 x283001_3) := bq_ B282 1
                  have hfs42 := blk_frozen B282.out 1
                  have hns42_0 := NB276_282.out
                  have hns42_1 := NB281_282.out
                  have hms42_0 := NB282_276.out
                  have hms42_1 := NB282_281.out
                  refine skip_ (w1 := ?_) (by rfl) rfl ?_ ?_
                  rotate_left
                  ·go_simp
                   rfl
                  refine hK.out _ _ ?_
                  clear hK K
                  refine done_ (done_of T_.out (by kernel_rfl)) ?_
                  try go_wp2
                  go_roundg k3
                  case measure => have := HJ6.out; have := HK2.out; have := HK3.out; omega
                  case rel => exact ⟨(wrap64 (1 + 1)), (x283000_3), (Int.tmod (IntKind.u64.wrap (x283001_3 + (Int.tmod (rd y287 1) t278))) t278), (x283002_3), (x283003_3), (by first | rfl | (simp; done) | (simp [*]; done) | (simp; rfl) | (simp; decide +kernel)), H', ⟨by have := HJ6.out; have := HK2.out; have := HK3.out; omega⟩, ⟨by (with_reducible repeat (first | apply Kd.V_alloc | apply Kd.V_drewN | apply Kd.V_drew)); exact Kd.V_mono (Kd.V_far (p := ⟨g282, 1, none⟩) (Kd.V_mono HO_1.out (fun k_ hk => (⟨hk, hk.2.2.2⟩ : _ ∧ k_ ≠ g282))) (fun _ hk => hk.2) (.int .u64 (Int.tmod (IntKind.u64.wrap (x283001_3 + (Int.tmod (rd y287 1) t278))) t278))) (fun _ hk => ⟨hk.1.1, ⟨hk.1.2.1, ⟨hk.1.2.2.1, hk.1.2.2.2⟩⟩⟩)⟩, ⟨by (with_reducible repeat (first | apply Kd.V_alloc | apply Kd.V_drewN | apply Kd.V_drew)); exact Kd.V_mono (Kd.V_far (p := ⟨g282, 1, none⟩) (Kd.V_mono HO_37.out (fun k_ hk => (⟨hk, hk.2.2.2⟩ : _ ∧ k_ ≠ g282))) (fun _ hk => hk.2) (.int .u64 (Int.tmod (IntKind.u64.wrap (x283001_3 + (Int.tmod (rd y287 1) t278))) t278))) (fun _ hk => ⟨hk.1.1, ⟨hk.1.2.1, ⟨hk.1.2.2.1, hk.1.2.2.2⟩⟩⟩)⟩, ⟨by (with_reducible repeat first | refine blk_drewN ?_ _ | refine blk_drew ?_ | refine blk_alloc ?_ _); refine blk_far ?_ NB276_282.out _; (with_reducible repeat first | refine blk_drewN ?_ _ | refine blk_drew ?_ | refine blk_alloc ?_ _); exact B276.out⟩, ⟨by (with_reducible repeat first | refine blk_drewN ?_ _ | refine blk_drew ?_ | refine blk_alloc ?_ _); refine blk_far ?_ NB281_282.out _; (with_reducible repeat first | refine blk_drewN ?_ _ | refine blk_drew ?_ | refine blk_alloc ?_ _); exact B281.out⟩, ⟨by (with_reducible repeat first | refine blk_drewN ?_ _ | refine blk_drew ?_ | refine blk_alloc ?_ _); refine blk_put (cs := #[.int .u64 x283000_3, .int .u64 x283001_3, .int .u64 x283002_3, .int .u64 x283003_3]) ?_ 1 _ rfl; (with_reducible repeat first | refine blk_drewN ?_ _ | refine blk_drew ?_ | refine blk_alloc ?_ _); exact B282.out⟩, ⟨by repeat (first | (with_reducible first | exact HB.out | apply below_alloc | apply pw_below_drewN | apply below_drew1 | refine below_set ?_ GE276.out | refine below_set ?_ GE281.out | refine below_set ?_ GE282.out) | exact HB.out)⟩⟩
                ·rw [if_neg c39] at H
                 by_cases c43 : x39_3 = 2
                 ·rw [if_pos c43] at H
                  subst c43
                  by_cases c44 : t278 = 0
                  ·rw [if_pos c44] at H
                   exact absurd H (by simp)
                  ·rw [if_neg c44] at H
                   have c44b0 : (t278 == 0) = false := beq_eq_false_iff_ne.mpr c44
                   have c44b1 : (t278 != 0) = true := bne_iff_ne.mpr c44
                   have H' := Aside0.mk H
                   clear H
                   have p292 : 0 ≤ (2 : Int) := (by omega)
                   have q292 : 2 < (y287.length : Int) := of_decide_eq_true (by first | (with_reducible assumption) | assumption)
                   obtain ⟨ad292, e292, hx292_0⟩ := Kd.at_int (Kd.V_reads' HO_37.out).2.2 2 p292 q292
                   cases e292
                   (try simp only [show (2 : Int).toNat = 2 from rfl, Nat.reduceMul, Nat.reduceEqDiff, Go.Addr.add, ↓reduceIte] at hx292_0)
                   have qi292 : (2 < y287.length) = True := eq_true (by omega)
                   (try rw [show ((2 : Int)).toNat = 2 from rfl] at hx292_0)
                   replace p292 := eq_true p292
                   replace q292 := eq_true q292
                   try go_wp2
                   have n0_ := Aside0.mk (Kd.V_drew HO_1.out)
                   have n1_ := Aside0.mk (Kd.V_drew HO_37.out)
                   have n2_ := Aside0.mk (blk_drew B276.out)
                   have n3_ := Aside0.mk (blk_drew B281.out)
                   have n4_ := Aside0.mk (blk_drew B282.out)
                   have n5_ := Aside0.mk (below_drew1 HB.out)
                   clear HO_1
                   clear HO_37
                   clear B276
                   clear B281
                   clear B282
                   clear HB
                   have HO_1 := n0_
                   have HO_37 := n1_
                   have B276 := n2_
                   have B281 := n3_
                   have B282 := n4_
                   have HB := n5_
                   clear n0_ n1_ n2_ n3_ n4_ n5_
                   refine start_ (n := 14) (S := fun w' => w'.cell? ⟨g282, 0, none⟩ = some (.int .u64 x283000_3) ∧ w'.cell? ⟨g282, 1, none⟩ = some (.int .u64 x283001_3) ∧ w'.cell? ⟨g282, 2, none⟩ = some (.int .u64 x283002_3) ∧ w'.cell? ⟨g282, 3, none⟩ = some (.int .u64 x283003_3) ∧ w'.cell? ⟨g281, 0, none⟩ = some (.int .u64 t278) ∧ w'.cell? ⟨g281, 1, none⟩ = some (.int .u64 t279) ∧ w'.cell? ⟨g281, 2, none⟩ = some (.bool t280)) (ds := [13]) z17_0_ (by kernel_rfl) rfl rfl ⟨bq_ B282 0, bq_ B282 1, bq_ B282 2, bq_ B282 3, bq_ B281 0, bq_ B281 1, bq_ B281 2⟩ (fun hL => ?_); refine with_tabW sponge_Hash.tab12 sponge_Hash.bits12 (fun T_ W_ => ?_)
                   generalize wr.drew = w45 at HO_1 HO_37 B276 B281 B282 HB hL ⊢
                   refine pure_ (i := 0) (N := some 44) (v := ?_) (a' := ?_) z17_1_ rfl rfl (any_of T_.out (by kernel_rfl)) (fun _ _ _ h => h) (Or.inl ⟨by rfl, ?_⟩) ?_ ?_
                   rotate_left; · intro w'; go_simp; with_reducible rfl
                   rotate_left; · simp only [Act.put, sa_, sb_, sc_, i64_w, i32_w]; rfl
                   refine pure_ (i := 1) (N := some 45) (v := ?_) (a' := ?_) z17_2_ rfl rfl (any_of T_.out (by kernel_rfl)) (fun _ _ _ h => h) (Or.inl ⟨by rfl, ?_⟩) ?_ ?_
                   rotate_left; · intro w'; go_simp; with_reducible rfl
                   rotate_left; · simp only [Act.put, sa_, sb_, sc_, i64_w, i32_w]; rfl
                   refine pure_ (i := 2) (N := some 46) (v := ?_) (a' := ?_) z17_3_ rfl rfl (any_of T_.out (by kernel_rfl)) (fun _ _ _ h => h) (Or.inl ⟨by rfl, ?_⟩) ?_ ?_
                   rotate_left; · intro w'; go_simp; with_reducible rfl
                   rotate_left; · simp only [Act.put, sa_, sb_, sc_, i64_w, i32_w]; rfl
                   refine pure_ (i := 4) (N := some 48) (v := ?_) (a' := ?_) z17_4_ rfl rfl (any_of T_.out (by kernel_rfl)) (fun _ _ _ h => h) (Or.inl ⟨by rfl, ?_⟩) ?_ ?_
                   rotate_left; · intro w'; go_simp; with_reducible rfl
                   rotate_left; · simp only [Act.put, sa_, sb_, sc_, i64_w, i32_w]; rfl
                   refine pure_ (i := 5) (N := some 49) (v := ?_) (a' := ?_) z17_5_ rfl rfl (any_of T_.out (by kernel_rfl)) (fun _ _ _ h => h) (Or.inl ⟨by rfl, ?_⟩) ?_ ?_
                   rotate_left; · intro w'; go_simp; with_reducible rfl
                   rotate_left; · simp only [Act.put, sa_, sb_, sc_, i64_w, i32_w]; rfl
                   refine pure_ (i := 9) (N := some 53) (v := ?_) (a' := ?_) z17_6_ rfl rfl (any_of T_.out (by kernel_rfl)) (fun _ _ _ h => h) (Or.inl ⟨by rfl, ?_⟩) ?_ ?_
                   rotate_left; · intro w'; go_simp; with_reducible rfl
                   rotate_left; · simp only [Act.put, sa_, sb_, sc_, i64_w, i32_w]; rfl
                   refine take_ (i := 3) (N := some 47) (v := ?_) (a' := ?_) z17_7_ rfl rfl (take_ofW T_.out W_.out (by kernel_rfl)) (fun _ _ _ h => h) (Or.inl ⟨by rfl, ?_⟩) hL ?_ ?_
                   rotate_left
                   ·rintro w' ⟨s0, s1, s2, s3, s4, s5, s6⟩
                    go_simp
                    with_reducible rfl
                   rotate_left
                   ·simp only [Act.put, sa_, sb_, sc_, i64_w, i32_w]
                    rfl
                   refine take_ (i := 6) (N := some 50) (v := ?_) (a' := ?_) z17_8_ rfl rfl (take_ofW T_.out W_.out (by kernel_rfl)) (fun _ _ _ h => h) (Or.inl ⟨by rfl, ?_⟩) hL ?_ ?_
                   rotate_left
                   ·rintro w' ⟨s0, s1, s2, s3, s4, s5, s6⟩
                    go_simp
                    with_reducible rfl
                   rotate_left
                   ·simp only [Act.put, sa_, sb_, sc_, i64_w, i32_w]
                    rfl
                   refine pure_ (i := 7) (N := some 51) (v := ?_) (a' := ?_) z17_9_ rfl rfl (any_of T_.out (by kernel_rfl)) (fun _ _ _ h => h) (Or.inl ⟨by rfl, ?_⟩) ?_ ?_
                   rotate_left; · intro w'; go_simp; with_reducible rfl
                   rotate_left; · simp only [Act.put, sa_, sb_, sc_, i64_w, i32_w]; rfl
                   refine pure_ (i := 8) (N := some 52) (v := ?_) (a' := ?_) z17_10_ rfl rfl (any_of T_.out (by kernel_rfl)) (fun _ _ _ h => h) (Or.inl ⟨by rfl, ?_⟩) ?_ ?_
                   rotate_left; · intro w'; go_simp; with_reducible rfl
                   rotate_left; · simp only [Act.put, sa_, sb_, sc_, i64_w, i32_w]; rfl
                   refine take_ (i := 10) (N := some 54) (v := ?_) (a' := ?_) z17_11_ rfl rfl (take_ofW T_.out W_.out (by kernel_rfl)) (fun _ _ _ h => h) (Or.inl ⟨by rfl, ?_⟩) hL ?_ ?_
                   rotate_left
                   ·rintro w' ⟨s0, s1, s2, s3, s4, s5, s6⟩
                    go_simp
                    with_reducible rfl
                   rotate_left
                   ·simp only [Act.put, sa_, sb_, sc_, i64_w, i32_w]
                    rfl
                   refine pure_ (i := 11) (N := some 55) (v := ?_) (a' := ?_) z17_12_ rfl rfl (any_of T_.out (by kernel_rfl)) (fun _ _ _ h => h) (Or.inl ⟨by rfl, ?_⟩) ?_ ?_
                   rotate_left; · intro w'; go_simp; with_reducible rfl
                   rotate_left; · simp only [Act.put, sa_, sb_, sc_, i64_w, i32_w]; rfl
                   refine pure_ (i := 12) (N := some 56) (v := ?_) (a' := ?_) z17_13_ rfl rfl (any_of T_.out (by kernel_rfl)) (fun _ _ _ h => h) (Or.inl ⟨by rfl, ?_⟩) ?_ ?_
                   rotate_left; · intro w'; go_simp; with_reducible rfl
                   rotate_left; · simp only [Act.put, sa_, sb_, sc_, i64_w, i32_w]; rfl
                   refine last_ (i := 13) (N := none) z17_14_ rfl rfl (one_of T_.out (by kernel_rfl)) (by decide) (fun K hK => ?_)
                   have hs46 : w45.cell? ⟨g282, 2, none⟩ = some (.int .u64 x283002_3) := bq_ B282 2
                   have hfs46 := blk_frozen B282.out 2
                   have hns46_0 := NB276_282.out
                   have hns46_1 := NB281_282.out
                   have hms46_0 := NB282_276.out
                   have hms46_1 := NB282_281.out
                   refine skip_ (w1 := ?_) (by rfl) rfl ?_ ?_
                   rotate_left
                   ·go_simp
                    rfl
                   refine hK.out _ _ ?_
                   clear hK K
                   refine done_ (done_of T_.out (by kernel_rfl)) ?_
                   try go_wp2
                   go_roundg k3
                   case measure => have := HJ6.out; have := HK2.out; have := HK3.out; omega
                   case rel => exact ⟨(wrap64 (2 + 1)), (x283000_3), (x283001_3), (Int.tmod (IntKind.u64.wrap (x283002_3 + (Int.tmod (rd y287 2) t278))) t278), (x283003_3), (by first | rfl | (simp; done) | (simp [*]; done) | (simp; rfl) | (simp; decide +kernel)), H', ⟨by have := HJ6.out; have := HK2.out; have := HK3.out; omega⟩, ⟨by (with_reducible repeat (first | apply Kd.V_alloc | apply Kd.V_drewN | apply Kd.V_drew)); exact Kd.V_mono (Kd.V_far (p := ⟨g282, 2, none⟩) (Kd.V_mono HO_1.out (fun k_ hk => (⟨hk, hk.2.2.2⟩ : _ ∧ k_ ≠ g282))) (fun _ hk => hk.2) (.int .u64 (Int.tmod (IntKind.u64.wrap (x283002_3 + (Int.tmod (rd y287 2) t278))) t278))) (fun _ hk => ⟨hk.1.1, ⟨hk.1.2.1, ⟨hk.1.2.2.1, hk.1.2.2.2⟩⟩⟩)⟩, ⟨by (with_reducible repeat (first | apply Kd.V_alloc | apply Kd.V_drewN | apply Kd.V_drew)); exact Kd.V_mono (Kd.V_far (p := ⟨g282, 2, none⟩) (Kd.V_mono HO_37.out (fun k_ hk => (⟨hk, hk.2.2.2⟩ : _ ∧ k_ ≠ g282))) (fun _ hk => hk.2) (.int .u64 (Int.tmod (IntKind.u64.wrap (x283002_3 + (Int.tmod (rd y287 2) t278))) t278))) (fun _ hk => ⟨hk.1.1, ⟨hk.1.2.1, ⟨hk.1.2.2.1, hk.1.2.2.2⟩⟩⟩)⟩, ⟨by (with_reducible repeat first | refine blk_drewN ?_ _ | refine blk_drew ?_ | refine blk_alloc ?_ _); refine blk_far ?_ NB276_282.out _; (with_reducible repeat first | refine blk_drewN ?_ _ | refine blk_drew ?_ | refine blk_alloc ?_ _); exact B276.out⟩, ⟨by (with_reducible repeat first | refine blk_drewN ?_ _ | refine blk_drew ?_ | refine blk_alloc ?_ _); refine blk_far ?_ NB281_282.out _; (with_reducible repeat first | refine blk_drewN ?_ _ | refine blk_drew ?_ | refine blk_alloc ?_ _); exact B281.out⟩, ⟨by (with_reducible repeat first | refine blk_drewN ?_ _ | refine blk_drew ?_ | refine blk_alloc ?_ _); refine blk_put (cs := #[.int .u64 x283000_3, .int .u64 x283001_3, .int .u64 x283002_3, .int .u64 x283003_3]) ?_ 2 _ rfl; (with_reducible repeat first | refine blk_drewN ?_ _ | refine blk_drew ?_ | refine blk_alloc ?_ _); exact B282.out⟩, ⟨by repeat (first | (with_reducible first | exact HB.out | apply below_alloc | apply pw_below_drewN | apply below_drew1 | refine below_set ?_ GE276.out | refine below_set ?_ GE281.out | refine below_set ?_ GE282.out) | exact HB.out)⟩⟩
                 ·rw [if_neg c43] at H
                  by_cases c47 : x39_3 = 3
                  ·rw [if_pos c47] at H
                   subst c47
                   by_cases c48 : t278 = 0
                   ·rw [if_pos c48] at H
                    exact absurd H (by simp)
                   ·rw [if_neg c48] at H
                    have c48b0 : (t278 == 0) = false := beq_eq_false_iff_ne.mpr c48
                    have c48b1 : (t278 != 0) = true := bne_iff_ne.mpr c48
                    have H' := Aside0.mk H
                    clear H
                    have p292 : 0 ≤ (3 : Int) := (by omega)
                    have q292 : 3 < (y287.length : Int) := of_decide_eq_true (by first | (with_reducible assumption) | assumption)
                    obtain ⟨ad292, e292, hx292_0⟩ := Kd.at_int (Kd.V_reads' HO_37.out).2.2 3 p292 q292
                    cases e292
                    (try simp only [show (3 : Int).toNat = 3 from rfl, Nat.reduceMul, Nat.reduceEqDiff, Go.Addr.add, ↓reduceIte] at hx292_0)
                    have qi292 : (3 < y287.length) = True := eq_true (by omega)
                    (try rw [show ((3 : Int)).toNat = 3 from rfl] at hx292_0)
                    replace p292 := eq_true p292
                    replace q292 := eq_true q292
                    try go_wp2
                    have n0_ := Aside0.mk (Kd.V_drew HO_1.out)
                    have n1_ := Aside0.mk (Kd.V_drew HO_37.out)
                    have n2_ := Aside0.mk (blk_drew B276.out)
                    have n3_ := Aside0.mk (blk_drew B281.out)
                    have n4_ := Aside0.mk (blk_drew B282.out)
                    have n5_ := Aside0.mk (below_drew1 HB.out)
                    clear HO_1
                    clear HO_37
                    clear B276
                    clear B281
                    clear B282
                    clear HB
                    have HO_1 := n0_
                    have HO_37 := n1_
                    have B276 := n2_
                    have B281 := n3_
                    have B282 := n4_
                    have HB := n5_
                    clear n0_ n1_ n2_ n3_ n4_ n5_
                    refine start_ (n := 14) (S := fun w' => w'.cell? ⟨g282, 0, none⟩ = some (.int .u64 x283000_3) ∧ w'.cell? ⟨g282, 1, none⟩ = some (.int .u64 x283001_3) ∧ w'.cell? ⟨g282, 2, none⟩ = some (.int .u64 x283002_3) ∧ w'.cell? ⟨g282, 3, none⟩ = some (.int .u64 x283003_3) ∧ w'.cell? ⟨g281, 0, none⟩ = some (.int .u64 t278) ∧ w'.cell? ⟨g281, 1, none⟩ = some (.int .u64 t279) ∧ w'.cell? ⟨g281, 2, none⟩ = some (.bool t280)) (ds := [13]) z17_0_ (by kernel_rfl) rfl rfl ⟨bq_ B282 0, bq_ B282 1, bq_ B282 2, bq_ B282 3, bq_ B281 0, bq_ B281 1, bq_ B281 2⟩ (fun hL => ?_); refine with_tabW sponge_Hash.tab12 sponge_Hash.bits12 (fun T_ W_ => ?_)
                    generalize wr.drew = w49 at HO_1 HO_37 B276 B281 B282 HB hL ⊢
                    refine pure_ (i := 0) (N := some 44) (v := ?_) (a' := ?_) z17_1_ rfl rfl (any_of T_.out (by kernel_rfl)) (fun _ _ _ h => h) (Or.inl ⟨by rfl, ?_⟩) ?_ ?_
                    rotate_left; · intro w'; go_simp; with_reducible rfl
                    rotate_left; · simp only [Act.put, sa_, sb_, sc_, i64_w, i32_w]; rfl
                    refine pure_ (i := 1) (N := some 45) (v := ?_) (a' := ?_) z17_2_ rfl rfl (any_of T_.out (by kernel_rfl)) (fun _ _ _ h => h) (Or.inl ⟨by rfl, ?_⟩) ?_ ?_
                    rotate_left; · intro w'; go_simp; with_reducible rfl
                    rotate_left; · simp only [Act.put, sa_, sb_, sc_, i64_w, i32_w]; rfl
                    refine pure_ (i := 2) (N := some 46) (v := ?_) (a' := ?_) z17_3_ rfl rfl (any_of T_.out (by kernel_rfl)) (fun _ _ _ h => h) (Or.inl ⟨by rfl, ?_⟩) ?_ ?_
                    rotate_left; · intro w'; go_simp; with_reducible rfl
                    rotate_left; · simp only [Act.put, sa_, sb_, sc_, i64_w, i32_w]; rfl
                    refine pure_ (i := 4) (N := some 48) (v := ?_) (a' := ?_) z17_4_ rfl rfl (any_of T_.out (by kernel_rfl)) (fun _ _ _ h => h) (Or.inl ⟨by rfl, ?_⟩) ?_ ?_
                    rotate_left; · intro w'; go_simp; with_reducible rfl
                    rotate_left; · simp only [Act.put, sa_, sb_, sc_, i64_w, i32_w]; rfl
                    refine pure_ (i := 5) (N := some 49) (v := ?_) (a' := ?_) z17_5_ rfl rfl (any_of T_.out (by kernel_rfl)) (fun _ _ _ h => h) (Or.inl ⟨by rfl, ?_⟩) ?_ ?_
                    rotate_left; · intro w'; go_simp; with_reducible rfl
                    rotate_left; · simp only [Act.put, sa_, sb_, sc_, i64_w, i32_w]; rfl
                    refine pure_ (i := 9) (N := some 53) (v := ?_) (a' := ?_) z17_6_ rfl rfl (any_of T_.out (by kernel_rfl)) (fun _ _ _ h => h) (Or.inl ⟨by rfl, ?_⟩) ?_ ?_
                    rotate_left; · intro w'; go_simp; with_reducible rfl
                    rotate_left; · simp only [Act.put, sa_, sb_, sc_, i64_w, i32_w]; rfl
                    refine take_ (i := 3) (N := some 47) (v := ?_) (a' := ?_) z17_7_ rfl rfl (take_ofW T_.out W_.out (by kernel_rfl)) (fun _ _ _ h => h) (Or.inl ⟨by rfl, ?_⟩) hL ?_ ?_
                    rotate_left
                    ·rintro w' ⟨s0, s1, s2, s3, s4, s5, s6⟩
                     go_simp
                     with_reducible rfl
                    rotate_left
                    ·simp only [Act.put, sa_, sb_, sc_, i64_w, i32_w]
                     rfl
                    refine take_ (i := 6) (N := some 50) (v := ?_) (a' := ?_) z17_8_ rfl rfl (take_ofW T_.out W_.out (by kernel_rfl)) (fun _ _ _ h => h) (Or.inl ⟨by rfl, ?_⟩) hL ?_ ?_
                    rotate_left
                    ·rintro w' ⟨s0, s1, s2, s3, s4, s5, s6⟩
                     go_simp
                     with_reducible rfl
                    rotate_left
                    ·simp only [Act.put, sa_, sb_, sc_, i64_w, i32_w]
                     rfl
                    refine pure_ (i := 7) (N := some 51) (v := ?_) (a' := ?_) z17_9_ rfl rfl (any_of T_.out (by kernel_rfl)) (fun _ _ _ h => h) (Or.inl ⟨by rfl, ?_⟩) ?_ ?_
                    rotate_left; · intro w'; go_simp; with_reducible rfl
                    rotate_left; · simp only [Act.put, sa_, sb_, sc_, i64_w, i32_w]; rfl
                    refine pure_ (i := 8) (N := some 52) (v := ?_) (a' := ?_) z17_10_ rfl rfl (any_of T_.out (by kernel_rfl)) (fun _ _ _ h => h) (Or.inl ⟨by rfl, ?_⟩) ?_ ?_
                    rotate_left; · intro w'; go_simp; with_reducible rfl
                    rotate_left; · simp only [Act.put, sa_, sb_, sc_, i64_w, i32_w]; rfl
                    refine take_ (i := 10) (N := some 54) (v := ?_) (a' := ?_) z17_11_ rfl rfl (take_ofW T_.out W_.out (by kernel_rfl)) (fun _ _ _ h => h) (Or.inl ⟨by rfl, ?_⟩) hL ?_ ?_
                    rotate_left
                    ·rintro w' ⟨s0, s1, s2, s3, s4, s5, s6⟩
                     go_simp
                     with_reducible rfl
                    rotate_left
                    ·simp only [Act.put, sa_, sb_, sc_, i64_w, i32_w]
                     rfl
                    refine pure_ (i := 11) (N := some 55) (v := ?_) (a' := ?_) z17_12_ rfl rfl (any_of T_.out (by kernel_rfl)) (fun _ _ _ h => h) (Or.inl ⟨by rfl, ?_⟩) ?_ ?_
                    rotate_left; · intro w'; go_simp; with_reducible rfl
                    rotate_left; · simp only [Act.put, sa_, sb_, sc_, i64_w, i32_w]; rfl
                    refine pure_ (i := 12) (N := some 56) (v := ?_) (a' := ?_) z17_13_ rfl rfl (any_of T_.out (by kernel_rfl)) (fun _ _ _ h => h) (Or.inl ⟨by rfl, ?_⟩) ?_ ?_
                    rotate_left; · intro w'; go_simp; with_reducible rfl
                    rotate_left; · simp only [Act.put, sa_, sb_, sc_, i64_w, i32_w]; rfl
                    refine last_ (i := 13) (N := none) z17_14_ rfl rfl (one_of T_.out (by kernel_rfl)) (by decide) (fun K hK => ?_)
                    have hs50 : w49.cell? ⟨g282, 3, none⟩ = some (.int .u64 x283003_3) := bq_ B282 3
                    have hfs50 := blk_frozen B282.out 3
                    have hns50_0 := NB276_282.out
                    have hns50_1 := NB281_282.out
                    have hms50_0 := NB282_276.out
                    have hms50_1 := NB282_281.out
                    refine skip_ (w1 := ?_) (by rfl) rfl ?_ ?_
                    rotate_left
                    ·go_simp
                     rfl
                    refine hK.out _ _ ?_
                    clear hK K
                    refine done_ (done_of T_.out (by kernel_rfl)) ?_
                    try go_wp2
                    go_roundg k3
                    case measure => have := HJ6.out; have := HK2.out; have := HK3.out; omega
                    case rel => exact ⟨(wrap64 (3 + 1)), (x283000_3), (x283001_3), (x283002_3), (Int.tmod (IntKind.u64.wrap (x283003_3 + (Int.tmod (rd y287 3) t278))) t278), (by first | rfl | (simp; done) | (simp [*]; done) | (simp; rfl) | (simp; decide +kernel)), H', ⟨by have := HJ6.out; have := HK2.out; have := HK3.out; omega⟩, ⟨by (with_reducible repeat (first | apply Kd.V_alloc | apply Kd.V_drewN | apply Kd.V_drew)); exact Kd.V_mono (Kd.V_far (p := ⟨g282, 3, none⟩) (Kd.V_mono HO_1.out (fun k_ hk => (⟨hk, hk.2.2.2⟩ : _ ∧ k_ ≠ g282))) (fun _ hk => hk.2) (.int .u64 (Int.tmod (IntKind.u64.wrap (x283003_3 + (Int.tmod (rd y287 3) t278))) t278))) (fun _ hk => ⟨hk.1.1, ⟨hk.1.2.1, ⟨hk.1.2.2.1, hk.1.2.2.2⟩⟩⟩)⟩, ⟨by (with_reducible repeat (first | apply Kd.V_alloc | apply Kd.V_drewN | apply Kd.V_drew)); exact Kd.V_mono (Kd.V_far (p := ⟨g282, 3, none⟩) (Kd.V_mono HO_37.out (fun k_ hk => (⟨hk, hk.2.2.2⟩ : _ ∧ k_ ≠ g282))) (fun _ hk => hk.2) (.int .u64 (Int.tmod (IntKind.u64.wrap (x283003_3 + (Int.tmod (rd y287 3) t278))) t278))) (fun _ hk => ⟨hk.1.1, ⟨hk.1.2.1, ⟨hk.1.2.2.1, hk.1.2.2.2⟩⟩⟩)⟩, ⟨by (with_reducible repeat first | refine blk_drewN ?_ _ | refine blk_drew ?_ | refine blk_alloc ?_ _); refine blk_far ?_ NB276_282.out _; (with_reducible repeat first | refine blk_drewN ?_ _ | refine blk_drew ?_ | refine blk_alloc ?_ _); exact B276.out⟩, ⟨by (with_reducible repeat first | refine blk_drewN ?_ _ | refine blk_drew ?_ | refine blk_alloc ?_ _); refine blk_far ?_ NB281_282.out _; (with_reducible repeat first | refine blk_drewN ?_ _ | refine blk_drew ?_ | refine blk_alloc ?_ _); exact B281.out⟩, ⟨by (with_reducible repeat first | refine blk_drewN ?_ _ | refine blk_drew ?_ | refine blk_alloc ?_ _); refine blk_put (cs := #[.int .u64 x283000_3, .int .u64 x283001_3, .int .u64 x283002_3, .int .u64 x283003_3]) ?_ 3 _ rfl; (with_reducible repeat first | refine blk_drewN ?_ _ | refine blk_drew ?_ | refine blk_alloc ?_ _); exact B282.out⟩, ⟨by repeat (first | (with_reducible first | exact HB.out | apply below_alloc | apply pw_below_drewN | apply below_drew1 | refine below_set ?_ GE276.out | refine below_set ?_ GE281.out | refine below_set ?_ GE282.out) | exact HB.out)⟩⟩
                  ·rw [if_neg c47] at H
                   exact absurd H (by simp)
              ·rw [if_neg c34] at H
               exact absurd H (by simp)
             ·rw [if_neg c33] at H
              exact absurd H (by simp)
            ·rw [if_neg c32] at H
             have c32b0 : decide (x39_3 < (y287.length : Int)) = false := decide_eq_false c32
             clear c32
             replace H := Option.bind_eq_some_iff.mp H
             obtain ⟨⟨t293, t294, t295, t296⟩, A510, H⟩ := H
             replace H : (if 0 ≤ ji27 then (if ji27 ≤ (x1_2.length : Int) then (sponge_Hash.l0 k3 (x1_2.drop (ji27 : Int).toNat) t278 t279 t280 t293 t294 t295 t296) else (none)) else (none)) = some (r1, r2) := H
             have A51 := Aside0.mk A510
             clear A510
             by_cases c52 : 0 ≤ ji27
             ·rw [if_pos c52] at H
              have c52b0 := eq_true c52
              have c52b1 : decide (0 ≤ ji27) = true := decide_eq_true c52
              clear c52
              by_cases c53 : ji27 ≤ (x1_2.length : Int)
              ·rw [if_pos c53] at H
               have c53b0 := eq_true c53
               have c53b1 : decide (ji27 ≤ (x1_2.length : Int)) = true := decide_eq_true c53
               clear c53
               obtain ⟨y297, hy297⟩ : ∃ y_ : List Int, y_ = (x1_2.drop (ji27 : Int).toNat) := ⟨_, rfl⟩
               replace H : (sponge_Hash.l0 k3 y297 t278 t279 t280 t293 t294 t295 t296) = some (r1, r2) := by first | (rw [hy297]; with_reducible exact H) | (have H2_ := (Option.bind_some _ _).symm.trans H; rw [hy297]; with_reducible exact H2_) | (have H2_ := (Option.bind_some _ _).symm.trans H; with_reducible exact H2_) | with_reducible exact H | (rw [hy297]; exact H) | exact H
               have Ny297 := Aside0.mk hy297
               clear hy297
               have H' := Aside0.mk H
               clear H
               have hnb54 := NB281_276.out
               have hnc54 := NB276_281.out
               have hnb55 := NB281_282.out
               have hnc55 := NB282_281.out
               have hcz56_0 : wr.cell? ⟨g281, 0, none⟩ = some (.int .u64 t278) := bq_ B281 0
               have hcz56_1 : wr.cell? ⟨g281, 1, none⟩ = some (.int .u64 t279) := bq_ B281 1
               have hcz56_2 : wr.cell? ⟨g281, 2, none⟩ = some (.bool t280) := bq_ B281 2
               have hfz56_0 := blk_frozen B281.out 0
               have hfz56_1 := blk_frozen B281.out 1
               have hfz56_2 := blk_frozen B281.out 2
               have hnb57 := NB282_276.out
               have hnc57 := NB276_282.out
               have hcz58_0 : wr.cell? ⟨g282, 0, none⟩ = some (.int .u64 x283000_3) := bq_ B282 0
               have hcz58_1 : wr.cell? ⟨g282, 1, none⟩ = some (.int .u64 x283001_3) := bq_ B282 1
               have hcz58_2 : wr.cell? ⟨g282, 2, none⟩ = some (.int .u64 x283002_3) := bq_ B282 2
               have hcz58_3 : wr.cell? ⟨g282, 3, none⟩ = some (.int .u64 x283003_3) := bq_ B282 3
               have hfz58_0 := blk_frozen B282.out 0
               have hfz58_1 := blk_frozen B282.out 1
               have hfz58_2 := blk_frozen B282.out 2
               have hfz58_3 := blk_frozen B282.out 3
               go_wp2_with (first | ((with_reducible refine gate_callee (f := 42) rfl ?_); refine goesL_ (some 60) rfl rfl Tryd.func42 (by kernel_rfl) rfl #[.agg #[.int .u64 t278, .int .u64 t279, .bool t280], .agg #[.int .u64 x283000_3, .int .u64 x283001_3, .int .u64 x283002_3, .int .u64 x283003_3]] rfl (by (try simp only [List.map_toArray, List.map_cons, List.map_nil]); first | done | rfl) ?_; (with_reducible refine (sponge_mixer_perm.calls t278 t279 t280 x283000_3 x283001_3 x283002_3 x283003_3 t293 t294 t295 t296 _ A51.out).mono ?_); rintro e w59 ⟨rfl, hb⟩; refine ⟨_, rfl, ?_⟩; have n0_ := Aside0.mk (Kd.V_below (by (with_reducible repeat (first | apply Kd.V_alloc | apply Kd.V_drewN | apply Kd.V_drew)); exact HO_1.out) hb); have n1_ := Aside0.mk (Kd.V_below (by (with_reducible repeat (first | apply Kd.V_alloc | apply Kd.V_drewN | apply Kd.V_drew)); exact HO_37.out) hb); have n2_ := Aside0.mk (blk_below (g := g276) (o := .cells #[.int .u64 0, .int .u64 0] 30 (0, 0)) (by (with_reducible repeat first | refine blk_drewN ?_ _ | refine blk_drew ?_ | refine blk_alloc ?_ _); exact B276.out) hb); have n3_ := Aside0.mk (blk_below (g := g281) (o := .cells #[.int .u64 t278, .int .u64 t279, .bool t280] 45 (0, 0)) (by (with_reducible repeat first | refine blk_drewN ?_ _ | refine blk_drew ?_ | refine blk_alloc ?_ _); exact B281.out) hb); have n4_ := Aside0.mk (blk_below (g := g282) (o := .cells #[.int .u64 x283000_3, .int .u64 x283001_3, .int .u64 x283002_3, .int .u64 x283003_3] 23 (0, 0)) (by (with_reducible repeat first | refine blk_drewN ?_ _ | refine blk_drew ?_ | refine blk_alloc ?_ _); exact B282.out) hb); have n5_ := Aside0.mk (below_step (by repeat (first | (with_reducible first | exact HB.out | apply below_alloc | apply pw_below_drewN | apply below_drew1 | refine below_set ?_ GE276.out | refine below_set ?_ GE281.out | refine below_set ?_ GE282.out) | exact HB.out)) hb); clear HO_1; clear HO_37; clear B276; clear B281; clear B282; clear HB; have HO_1 := n0_; have HO_37 := n1_; have B276 := n2_; have B281 := n3_; have B282 := n4_; have HB := n5_; clear n0_ n1_ n2_ n3_ n4_ n5_; (try clear hb); (try clear hb2); (try clear hk); (try clear hi); have hcz60_0 : w59.cell? ⟨g282, 0, none⟩ = some (.int .u64 x283000_3) := bq_ B282 0; have hcz60_1 : w59.cell? ⟨g282, 1, none⟩ = some (.int .u64 x283001_3) := bq_ B282 1; have hcz60_2 : w59.cell? ⟨g282, 2, none⟩ = some (.int .u64 x283002_3) := bq_ B282 2; have hcz60_3 : w59.cell? ⟨g282, 3, none⟩ = some (.int .u64 x283003_3) := bq_ B282 3; have hfz60_0 := blk_frozen B282.out 0; have hfz60_1 := blk_frozen B282.out 1; have hfz60_2 := blk_frozen B282.out 2; have hfz60_3 := blk_frozen B282.out 3) | ((with_reducible refine gate_store (t := 23) (p := 6) rfl ?_); refine store_event (t := 23) (p := 6) (v := ?vo_w61) (w1 := ((((w59.setCell ⟨g282, 0, none⟩ (.int .u64 t293)).setCell ⟨g282, 1, none⟩ (.int .u64 t294)).setCell ⟨g282, 2, none⟩ (.int .u64 t295)).setCell ⟨g282, 3, none⟩ (.int .u64 t296))) ?hg ?ho ?hn ?hr ?_; (case ho => rfl); (case hg => rfl); (case hn => rfl); (case hr => first | (go_simp; done) | (go_simp; rfl)); intro w61 hw; have n0_ : Aside0 (Kd.V (Kd.int .u64) 22 w61 w.heap.size (fun k_ => (P1_ k_ ∨ w.heap.size ≤ k_) ∧ k_ ≠ g276 ∧ k_ ≠ g281 ∧ k_ ≠ g282) (.slice Ao30 x1_2.length co30) x1_2) := ⟨(by rw [hw]; exact (by (with_reducible repeat (first | apply Kd.V_alloc | apply Kd.V_drewN | apply Kd.V_drew)); exact Kd.V_mono (Kd.V_far (p := ⟨g282, 3, none⟩) (Kd.V_far (p := ⟨g282, 2, none⟩) (Kd.V_far (p := ⟨g282, 1, none⟩) (Kd.V_far (p := ⟨g282, 0, none⟩) (Kd.V_mono HO_1.out (fun k_ hk => (⟨hk, hk.2.2.2⟩ : _ ∧ k_ ≠ g282))) (fun _ hk => hk.2) (.int .u64 t293)) (fun _ hk => hk.2) (.int .u64 t294)) (fun _ hk => hk.2) (.int .u64 t295)) (fun _ hk => hk.2) (.int .u64 t296)) (fun _ hk => ⟨hk.1.1, ⟨hk.1.2.1, ⟨hk.1.2.2.1, hk.1.2.2.2⟩⟩⟩)))⟩; have n1_ : Aside0 (Kd.V (Kd.int .u64) 22 w61 w.heap.size (fun k_ => (P1_ k_ ∨ w.heap.size ≤ k_) ∧ k_ ≠ g276 ∧ k_ ≠ g281 ∧ k_ ≠ g282) (.slice Ao30 y287.length co30) y287) := ⟨(by rw [hw]; exact (by (with_reducible repeat (first | apply Kd.V_alloc | apply Kd.V_drewN | apply Kd.V_drew)); exact Kd.V_mono (Kd.V_far (p := ⟨g282, 3, none⟩) (Kd.V_far (p := ⟨g282, 2, none⟩) (Kd.V_far (p := ⟨g282, 1, none⟩) (Kd.V_far (p := ⟨g282, 0, none⟩) (Kd.V_mono HO_37.out (fun k_ hk => (⟨hk, hk.2.2.2⟩ : _ ∧ k_ ≠ g282))) (fun _ hk => hk.2) (.int .u64 t293)) (fun _ hk => hk.2) (.int .u64 t294)) (fun _ hk => hk.2) (.int .u64 t295)) (fun _ hk => hk.2) (.int .u64 t296)) (fun _ hk => ⟨hk.1.1, ⟨hk.1.2.1, ⟨hk.1.2.2.1, hk.1.2.2.2⟩⟩⟩)))⟩; have n2_ : Aside0 (w61.heap[g276]? = some (.cells #[.int .u64 0, .int .u64 0] 30 (0, 0))) := ⟨(by rw [hw]; exact (by (with_reducible repeat first | refine blk_drewN ?_ _ | refine blk_drew ?_ | refine blk_alloc ?_ _); refine blk_far ?_ NB276_282.out _; (with_reducible repeat first | refine blk_drewN ?_ _ | refine blk_drew ?_ | refine blk_alloc ?_ _); refine blk_far ?_ NB276_282.out _; (with_reducible repeat first | refine blk_drewN ?_ _ | refine blk_drew ?_ | refine blk_alloc ?_ _); refine blk_far ?_ NB276_282.out _; (with_reducible repeat first | refine blk_drewN ?_ _ | refine blk_drew ?_ | refine blk_alloc ?_ _); refine blk_far ?_ NB276_282.out _; (with_reducible repeat first | refine blk_drewN ?_ _ | refine blk_drew ?_ | refine blk_alloc ?_ _); exact B276.out))⟩; have n3_ : Aside0 (w61.heap[g281]? = some (.cells #[.int .u64 t278, .int .u64 t279, .bool t280] 45 (0, 0))) := ⟨(by rw [hw]; exact (by (with_reducible repeat first | refine blk_drewN ?_ _ | refine blk_drew ?_ | refine blk_alloc ?_ _); refine blk_far ?_ NB281_282.out _; (with_reducible repeat first | refine blk_drewN ?_ _ | refine blk_drew ?_ | refine blk_alloc ?_ _); refine blk_far ?_ NB281_282.out _; (with_reducible repeat first | refine blk_drewN ?_ _ | refine blk_drew ?_ | refine blk_alloc ?_ _); refine blk_far ?_ NB281_282.out _; (with_reducible repeat first | refine blk_drewN ?_ _ | refine blk_drew ?_ | refine blk_alloc ?_ _); refine blk_far ?_ NB281_282.out _; (with_reducible repeat first | refine blk_drewN ?_ _ | refine blk_drew ?_ | refine blk_alloc ?_ _); exact B281.out))⟩; have n4_ : Aside0 (w61.heap[g282]? = some (.cells #[.int .u64 t293, .int .u64 t294, .int .u64 t295, .int .u64 t296] 23 (0, 0))) := ⟨(by rw [hw]; exact (by (with_reducible repeat first | refine blk_drewN ?_ _ | refine blk_drew ?_ | refine blk_alloc ?_ _); refine blk_put (cs := #[.int .u64 t293, .int .u64 t294, .int .u64 t295, .int .u64 x283003_3]) ?_ 3 _ rfl; (with_reducible repeat first | refine blk_drewN ?_ _ | refine blk_drew ?_ | refine blk_alloc ?_ _); refine blk_put (cs := #[.int .u64 t293, .int .u64 t294, .int .u64 x283002_3, .int .u64 x283003_3]) ?_ 2 _ rfl; (with_reducible repeat first | refine blk_drewN ?_ _ | refine blk_drew ?_ | refine blk_alloc ?_ _); refine blk_put (cs := #[.int .u64 t293, .int .u64 x283001_3, .int .u64 x283002_3, .int .u64 x283003_3]) ?_ 1 _ rfl; (with_reducible repeat first | refine blk_drewN ?_ _ | refine blk_drew ?_ | refine blk_alloc ?_ _); refine blk_put (cs := #[.int .u64 x283000_3, .int .u64 x283001_3, .int .u64 x283002_3, .int .u64 x283003_3]) ?_ 0 _ rfl; (with_reducible repeat first | refine blk_drewN ?_ _ | refine blk_drew ?_ | refine blk_alloc ?_ _); exact B282.out))⟩; have n5_ : Aside0 (Below w.heap.size w w61) := ⟨(by rw [hw]; exact (by repeat (first | (with_reducible first | exact HB.out | apply below_alloc | apply pw_below_drewN | apply below_drew1 | refine below_set ?_ GE276.out | refine below_set ?_ GE281.out | refine below_set ?_ GE282.out) | exact HB.out)))⟩; clear hw; clear HO_1; clear HO_37; clear B276; clear B281; clear B282; clear HB; have HO_1 := n0_; have HO_37 := n1_; have B276 := n2_; have B281 := n3_; have B282 := n4_; have HB := n5_; clear n0_ n1_ n2_ n3_ n4_ n5_; have q62 : (ji27 : Int) ≤ ((x1_2.length : Int) : Int) := of_decide_eq_true (by first | (with_reducible assumption) | assumption); obtain ⟨i062, hi062, _, hsz62, _⟩ := info_parts info22; have hroom62 : x1_2.length ≤ co30 := (Kd.V_reads' HO_1.out).2.1; have hC62 : Kd.F (Kd.int .u64) _ _ Ao30 x1_2.length x1_2 := (Kd.V_at (base := w.heap.size) HO_1.out).2.2; have q062 : (0 : Int) ≤ (ji27 : Int) := of_decide_eq_true (by first | (with_reducible assumption) | assumption); have hcut62 := cut_from (P := Tryd.prog) 28 22 .i64 Tryd.underlying28 hi062 1 hsz62 Ao30 x1_2.length co30 ji27 q062 q62; have hr62 := Kd.F_cut (m := (ji27 : Int).toNat) (c := co30) hC62 (by omega) hroom62; obtain ⟨A62, hA62⟩ : ∃ A1, A1 = (if co30 = (ji27 : Int).toNat then Ao30 else (Ao30 : Option Addr).map (·.add ((ji27 : Int).toNat * 1))) := ⟨_, rfl⟩; obtain ⟨c62, hc62⟩ : ∃ c1, c1 = co30 - (ji27 : Int).toNat := ⟨_, rfl⟩; have hy62 : y297.length = x1_2.length - (ji27 : Int).toNat := (by rw [Ny297.out, List.length_drop] <;> omega); rw [show (x1_2).drop (ji27 : Int).toNat = y297 from Ny297.out.symm] at hr62; replace hr62 : Kd.F (Kd.int .u64) _ _ A62 y297.length y297 := (by rw [hA62]; exact hr62); rw [← hy62, ← hA62, ← hc62] at hcut62; have HO301 := Aside0.mk (show Kd.V (Kd.int .u64) 22 _ w.heap.size _ (.slice A62 y297.length c62) y297 from Kd.V_mk (by rw [hy62, hc62]; exact Nat.sub_le_sub_right hroom62 _) hr62); have HC301 := Aside0.mk (show y297.length ≤ c62 from by rw [hy62, hc62]; exact Nat.sub_le_sub_right hroom62 _); clear hr62 hC62 hroom62 hi062 hsz62 hc62; have KY62 := Aside0.mk hy62; have KA62 := Aside0.mk hA62; clear hy62 hA62; replace q62 := eq_true q62))
               go_roundg k3
               case measure => have := HJ6.out; have := HK2.out; have := HK3.out; omega
               case rel => exact ⟨(y297), (t293), (t294), (t295), (t296), H', ⟨by have := HJ6.out; have := HK2.out; have := HK3.out; omega⟩, ⟨by (with_reducible repeat (first | apply Kd.V_alloc | apply Kd.V_drewN | apply Kd.V_drew)); exact HO301.out⟩, ⟨by (with_reducible repeat first | refine blk_drewN ?_ _ | refine blk_drew ?_ | refine blk_alloc ?_ _); exact B276.out⟩, ⟨by (with_reducible repeat first | refine blk_drewN ?_ _ | refine blk_drew ?_ | refine blk_alloc ?_ _); exact B281.out⟩, ⟨by (with_reducible repeat first | refine blk_drewN ?_ _ | refine blk_drew ?_ | refine blk_alloc ?_ _); exact B282.out⟩, ⟨by repeat (first | (with_reducible first | exact HB.out | apply below_alloc | apply pw_below_drewN | apply below_drew1 | refine below_set ?_ GE276.out | refine below_set ?_ GE281.out | refine below_set ?_ GE282.out) | exact HB.out)⟩⟩
              ·rw [if_neg c53] at H
               exact absurd H (by simp)
             ·rw [if_neg c52] at H
              exact absurd H (by simp)
         ·rw [if_neg c29] at H
          exact absurd H (by simp)
        ·rw [if_neg c28] at H
         exact absurd H (by simp)
       ·rw [if_neg c26] at H
        have c26b0 : decide (0 < (x1_2.length : Int)) = false := decide_eq_false c26
        have c26b1 : decide (0 < x1_2.length) = false := decide_eq_false (by omega)
        clear c26
        simp only [Option.some.injEq, Prod.mk.injEq] at H
        obtain ⟨rfl, rfl⟩ := H
        obtain ⟨Ao63, co63, eo63⟩ := Kd.V_slice HO_1.out
        subst eo63
        have hnb64 := NB282_276.out
        have hnc64 := NB276_282.out
        have hnb65 := NB282_281.out
        have hnc65 := NB281_282.out
        have hcz66_0 : wr.cell? ⟨g282, 0, none⟩ = some (.int .u64 x283000_2) := bq_ B282 0
        have hcz66_1 : wr.cell? ⟨g282, 1, none⟩ = some (.int .u64 x283001_2) := bq_ B282 1
        have hcz66_2 : wr.cell? ⟨g282, 2, none⟩ = some (.int .u64 x283002_2) := bq_ B282 2
        have hcz66_3 : wr.cell? ⟨g282, 3, none⟩ = some (.int .u64 x283003_2) := bq_ B282 3
        have hfz66_0 := blk_frozen B282.out 0
        have hfz66_1 := blk_frozen B282.out 1
        have hfz66_2 := blk_frozen B282.out 2
        have hfz66_3 := blk_frozen B282.out 3
        have hnb67 := NB276_281.out
        have hnc67 := NB281_276.out
        have hcz68_0 : wr.cell? ⟨g276, 0, none⟩ = some (.int .u64 0) := bq_ B276 0
        have hcz68_1 : wr.cell? ⟨g276, 1, none⟩ = some (.int .u64 0) := bq_ B276 1
        have hfz68_0 := blk_frozen B276.out 0
        have hfz68_1 := blk_frozen B276.out 1
        go_wp2
        refine bodyPost_ret (results_cell_row rfl _ _ g276 30 #[.int .u64 x283000_2, .int .u64 x283001_2] (0, 0) _ rfl (by (with_reducible repeat first | refine blk_drewN ?_ _ | refine blk_drew ?_ | refine blk_alloc ?_ _); refine blk_put (cs := #[.int .u64 x283000_2, .int .u64 0]) ?_ 1 _ rfl; (with_reducible repeat first | refine blk_drewN ?_ _ | refine blk_drew ?_ | refine blk_alloc ?_ _); refine blk_put (cs := #[.int .u64 0, .int .u64 0]) ?_ 0 _ rfl; (with_reducible repeat first | refine blk_drewN ?_ _ | refine blk_drew ?_ | refine blk_alloc ?_ _); exact B276.out) Tryd.underlying30 rfl (by kernel_rfl)) rfl ?_
        exact ⟨by first | rfl | (simp [errW_none, errW_some] <;> rfl) | (simp [*, errW_none, errW_some] <;> rfl), by repeat (first | (with_reducible first | exact HB.out | apply below_alloc | apply pw_below_drewN | apply below_drew1 | refine below_set ?_ GE276.out | refine below_set ?_ GE281.out | refine below_set ?_ GE282.out) | exact HB.out)⟩
 ·replace c4 := Bool.eq_false_iff.mpr c4
  subst c4
  have H1 : (some (0, 0)) = some (r1, r2) := by rw [if_neg (show ¬ (false = true) by decide)] at H; exact H
  clear H
  have H := H1
  clear H1
  simp only [Option.some.injEq, Prod.mk.injEq] at H
  obtain ⟨rfl, rfl⟩ := H
  go_enter Tryd.func17, Tryd.ntmps17
  go_wp2_with (first | ((with_reducible refine gate_dst (N := 4) rfl ?_); refine box_event ?hg (N := 4) ?hd (cs := #[.int .u64 0, .int .u64 0]) (t := 30) ?hr ?_; (case hd => rfl); (case hg => rfl); (case hr => first | (go_simp; done) | (go_simp; rfl)); intro g276 hg w69 hbox hb; have n0_ := Aside0.mk (Kd.V_below (Kd.V_elderB (by (with_reducible repeat (first | apply Kd.V_alloc | apply Kd.V_drewN | apply Kd.V_drew)); exact HO1.out) g276 (Nat.le_of_eq hg.symm)) hb); have n1_ := Aside0.mk (below_step (by repeat (first | (with_reducible first | exact HB.out | apply below_alloc | apply pw_below_drewN | apply below_drew1) | exact HB.out)) hb); have n2_ := Aside0.mk (hbox); have n3_ := Aside0.mk ((by rw [hg]; exact (below_size (by repeat (first | (with_reducible first | exact HB.out | apply below_alloc | apply pw_below_drewN | apply below_drew1) | exact HB.out))) : w.heap.size ≤ g276)); have n4_ := Aside0.mk ((by rw [hg]; exact (below_size (by repeat (first | (with_reducible first | exact HB.out | apply below_alloc | apply pw_below_drewN | apply below_drew1) | exact HB.out))) : w.heap.size ≤ g276)); clear HO1; clear HB; have HO1 := n0_; have HB := n1_; have B276 := n2_; have GW276 := n3_; have GE276 := n4_; clear n0_ n1_ n2_ n3_ n4_; clear hb hbox hg) | ((with_reducible refine gate_callee (f := 41) rfl ?_); refine goesL_ (some 11) rfl rfl Tryd.func41 (by kernel_rfl) rfl #[.int .i64 a0] rfl (by (try simp only [List.map_toArray, List.map_cons, List.map_nil]); first | done | rfl) ?_; (with_reducible refine (field_Valid.calls a0 false _ A3.out).mono ?_); rintro e w' ⟨rfl, ⟨nd, rfl⟩⟩; refine ⟨_, rfl, ?_⟩; (try (rw [drewN_self w69]; generalize q_ : World.drewN w69 _ = w69; have n0_ : Aside0 (Kd.V (Kd.int .u64) 22 w69 w.heap.size (fun k_ => (P1_ k_ ∨ w.heap.size ≤ k_) ∧ k_ ≠ g276) (.slice A1 l1.length c1) l1) := ⟨by rw [← q_]; exact (by (with_reducible repeat (first | apply Kd.V_alloc | apply Kd.V_drewN | apply Kd.V_drew)); exact HO1.out)⟩; have n1_ : Aside0 (w69.heap[g276]? = some (.cells #[.int .u64 0, .int .u64 0] 30 (0, 0))) := ⟨by rw [← q_]; exact (by (with_reducible repeat first | refine blk_drewN ?_ _ | refine blk_drew ?_ | refine blk_alloc ?_ _); exact B276.out)⟩; have n2_ : Aside0 (Below w.heap.size w w69) := ⟨by rw [← q_]; exact (by repeat (first | (with_reducible first | exact HB.out | apply below_alloc | apply pw_below_drewN | apply below_drew1 | refine below_set ?_ GE276.out) | exact HB.out))⟩; clear HO1 B276 HB q_; have HO1 := n0_; have B276 := n1_; have HB := n2_; clear n0_ n1_ n2_)); have hcz70_0 : w69.cell? ⟨g276, 0, none⟩ = some (.int .u64 0) := bq_ B276 0; have hcz70_1 : w69.cell? ⟨g276, 1, none⟩ = some (.int .u64 0) := bq_ B276 1; have hfz70_0 := blk_frozen B276.out 0; have hfz70_1 := blk_frozen B276.out 1))
  refine bodyPost_ret (results_cell_row rfl _ _ g276 30 #[.int .u64 0, .int .u64 0] (0, 0) _ rfl (by (with_reducible repeat first | refine blk_drewN ?_ _ | refine blk_drew ?_ | refine blk_alloc ?_ _); refine blk_put (cs := #[.int .u64 0, .int .u64 0]) ?_ 1 _ rfl; (with_reducible repeat first | refine blk_drewN ?_ _ | refine blk_drew ?_ | refine blk_alloc ?_ _); refine blk_put (cs := #[.int .u64 0, .int .u64 0]) ?_ 0 _ rfl; (with_reducible repeat first | refine blk_drewN ?_ _ | refine blk_drew ?_ | refine blk_alloc ?_ _); exact B276.out) Tryd.underlying30 rfl (by kernel_rfl)) rfl ?_
  exact ⟨by first | rfl | (simp [errW_none, errW_some] <;> rfl) | (simp [*, errW_none, errW_some] <;> rfl), by repeat (first | (with_reducible first | exact HB.out | apply below_alloc | apply pw_below_drewN | apply below_drew1 | refine below_set ?_ GE276.out) | exact HB.out)⟩

end Go.Proofs.YtjfekjblnoagkaaDoor.Q
end
section
namespace Go.Proofs.YtjfekjblnoagkaaDoor.Q
open Go.RowKit Go.Proofs.YtjfekjblnoagkaaDoorW.PrintWords Go.Proofs.YtjfekjblnoagkaaDoorW.PrintLast Go.Proofs.YtjfekjblnoagkaaDoorW.PrintMore
attribute [local go_sem] max2_int min2_int max_two min_two max_three min_three max_four min_four   -- for this text's walks alone
set_option linter.unusedVariables false
set_option linter.unusedSimpArgs false

attribute [local go_sem high] eqA23 eqA30
/-! ### attestorlaw06_lives: function 16 -/
def attestorlaw06_lives.f (k : Nat)  : Option (Bool) := (sponge_Constant.f k 0 0 0).bind fun t317 => (if t317 = 12 then ((sponge_Constant.f k 0 7 3).bind fun t318 => (if t318 = 42 then ((sponge_Round.f k 0 0 0 0 0 0).bind fun bt319 => (if (bt319.1 == 59 && (bt319.2.1 == 59 && (bt319.2.2.1 == 94 && (bt319.2.2.2 == 40)))) = true then ((sponge_Perm.f 0 0 0 0 0).bind fun bt323 => (if (bt323.1 == 19 && (bt323.2.1 == 58 && (bt323.2.2.1 == 95 && (bt323.2.2.2 == 16)))) = true then ((sponge_Hash.f k 0 ([] : List Int)).bind fun bt327 => (some (bt327.1 == 19 && (bt327.2 == 58)))) else (some false))) else (some false))) else (some false))) else (some false))
theorem attestorlaw06_lives.mono : ∀ k, LeO (attestorlaw06_lives.f k ) (attestorlaw06_lives.f (k + 1) ) := by
  intro  k
  unfold attestorlaw06_lives.f
  repeat' first
      | (with_reducible exact sponge_Constant.mono _ _ _ _)
      | (with_reducible exact sponge_Hash.mono _ _ _)
      | (with_reducible exact sponge_Round.mono _ _ _ _ _ _ _)
      | (with_reducible exact LeO.refl _)
      | (with_reducible exact LeO.none _)
      | (with_reducible refine LeO.ite ?_ ?_)
      | (with_reducible refine LeO.bind ?_ (fun _ => ?_))
      | exact sponge_Constant.mono _ _ _ _
      | exact sponge_Hash.mono _ _ _
      | exact sponge_Round.mono _ _ _ _ _ _ _
      | exact LeO.none _
      | refine LeO.ite ?_ ?_
      | refine LeO.bind ?_ (fun _ => ?_)
set_option maxHeartbeats 8000000 in
set_option maxRecDepth 100000 in
theorem attestorlaw06_lives.calls (k : Nat)  (r : Bool) (w : World) (hrG : GL w) (h : attestorlaw06_lives.f k  = some r) :
    Calls Tryd.prog 16 #[] w fun e w' => e = .returned (.bool r) ∧ Below w.heap.size w w' := by
  have hu23 := Tryd.underlying23
  have hu30 := Tryd.underlying30
  have HRG := Aside0.mk hrG
  clear hrG
  have HB := Aside0.mk (Below.refl w.heap.size w)
  have H : ((sponge_Constant.f k 0 0 0).bind fun t317 => (if t317 = 12 then ((sponge_Constant.f k 0 7 3).bind fun t318 => (if t318 = 42 then ((sponge_Round.f k 0 0 0 0 0 0).bind fun bt319 => (if (bt319.1 == 59 && (bt319.2.1 == 59 && (bt319.2.2.1 == 94 && (bt319.2.2.2 == 40)))) = true then ((sponge_Perm.f 0 0 0 0 0).bind fun bt323 => (if (bt323.1 == 19 && (bt323.2.1 == 58 && (bt323.2.2.1 == 95 && (bt323.2.2.2 == 16)))) = true then ((sponge_Hash.f k 0 ([] : List Int)).bind fun bt327 => (some (bt327.1 == 19 && (bt327.2 == 58)))) else (some false))) else (some false))) else (some false))) else (some false))) = some r := h
  clear h
  replace H := Option.bind_eq_some_iff.mp H
  obtain ⟨t317, A10, H⟩ := H
  replace H : (if t317 = 12 then ((sponge_Constant.f k 0 7 3).bind fun t318 => (if t318 = 42 then ((sponge_Round.f k 0 0 0 0 0 0).bind fun bt319 => (if (bt319.1 == 59 && (bt319.2.1 == 59 && (bt319.2.2.1 == 94 && (bt319.2.2.2 == 40)))) = true then ((sponge_Perm.f 0 0 0 0 0).bind fun bt323 => (if (bt323.1 == 19 && (bt323.2.1 == 58 && (bt323.2.2.1 == 95 && (bt323.2.2.2 == 16)))) = true then ((sponge_Hash.f k 0 ([] : List Int)).bind fun bt327 => (some (bt327.1 == 19 && (bt327.2 == 58)))) else (some false))) else (some false))) else (some false))) else (some false)) = some r := H
  have A1 := Aside0.mk A10
  clear A10
  by_cases c2 : t317 = 12
  · rw [if_pos c2] at H
    have c2b0 : (t317 == 12) = true := beq_iff_eq.mpr c2
    have c2b1 : (t317 != 12) = false := bne_eq_false_iff_eq.mpr c2
    clear c2
    replace H := Option.bind_eq_some_iff.mp H
    obtain ⟨t318, A30, H⟩ := H
    replace H : (if t318 = 42 then ((sponge_Round.f k 0 0 0 0 0 0).bind fun bt319 => (if (bt319.1 == 59 && (bt319.2.1 == 59 && (bt319.2.2.1 == 94 && (bt319.2.2.2 == 40)))) = true then ((sponge_Perm.f 0 0 0 0 0).bind fun bt323 => (if (bt323.1 == 19 && (bt323.2.1 == 58 && (bt323.2.2.1 == 95 && (bt323.2.2.2 == 16)))) = true then ((sponge_Hash.f k 0 ([] : List Int)).bind fun bt327 => (some (bt327.1 == 19 && (bt327.2 == 58)))) else (some false))) else (some false))) else (some false)) = some r := H
    have A3 := Aside0.mk A30
    clear A30
    by_cases c4 : t318 = 42
    · rw [if_pos c4] at H
      have c4b0 : (t318 == 42) = true := beq_iff_eq.mpr c4
      have c4b1 : (t318 != 42) = false := bne_eq_false_iff_eq.mpr c4
      clear c4
      replace H := Option.bind_eq_some_iff.mp H
      obtain ⟨⟨t319, t320, t321, t322⟩, A50, H⟩ := H
      replace H : (if (t319 == 59 && (t320 == 59 && (t321 == 94 && (t322 == 40)))) = true then ((sponge_Perm.f 0 0 0 0 0).bind fun bt323 => (if (bt323.1 == 19 && (bt323.2.1 == 58 && (bt323.2.2.1 == 95 && (bt323.2.2.2 == 16)))) = true then ((sponge_Hash.f k 0 ([] : List Int)).bind fun bt327 => (some (bt327.1 == 19 && (bt327.2 == 58)))) else (some false))) else (some false)) = some r := H
      have A5 := Aside0.mk A50
      clear A50
      by_cases c6 : (t319 == 59 && (t320 == 59 && (t321 == 94 && (t322 == 40)))) = true
      · rw [if_pos c6] at H
        have c6b0 : (t319 == 59 && (t320 == 59 && (t321 == 94 && (t322 == 40)))) = true := c6
        (try (have c6b1 : decide (t319 = 59 && (t320 == 59 && (t321 == 94 && (t322 == 40)))) = true := by simpa using c6))
        (try (have c6b2 : (t319 == 59 && (t320 == 59 && (t321 == 94 && (t322 == 40)))) = true := by simpa using c6))
        clear c6
        replace H := Option.bind_eq_some_iff.mp H
        obtain ⟨⟨t323, t324, t325, t326⟩, A70, H⟩ := H
        replace H : (if (t323 == 19 && (t324 == 58 && (t325 == 95 && (t326 == 16)))) = true then ((sponge_Hash.f k 0 ([] : List Int)).bind fun bt327 => (some (bt327.1 == 19 && (bt327.2 == 58)))) else (some false)) = some r := H
        have A7 := Aside0.mk A70
        clear A70
        by_cases c8 : (t323 == 19 && (t324 == 58 && (t325 == 95 && (t326 == 16)))) = true
        · rw [if_pos c8] at H
          have c8b0 : (t323 == 19 && (t324 == 58 && (t325 == 95 && (t326 == 16)))) = true := c8
          (try (have c8b1 : decide (t323 = 19 && (t324 == 58 && (t325 == 95 && (t326 == 16)))) = true := by simpa using c8))
          (try (have c8b2 : (t323 == 19 && (t324 == 58 && (t325 == 95 && (t326 == 16)))) = true := by simpa using c8))
          clear c8
          replace H := Option.bind_eq_some_iff.mp H
          obtain ⟨⟨t327, t328⟩, A90, H⟩ := H
          replace H : (some (t327 == 19 && (t328 == 58))) = some r := H
          have A9 := Aside0.mk A90
          clear A90
          obtain rfl := Option.some.inj H
          go_enter Tryd.func16, Tryd.ntmps16
          go_wp2_with (first | ((with_reducible refine gate_callee (f := 12) rfl ?_); refine goesL_ (some 1) rfl rfl Tryd.func12 (by kernel_rfl) rfl #[.int .i64 0, .int .i64 0, .int .i64 0] rfl (by (try simp only [List.map_toArray, List.map_cons, List.map_nil]); first | done | rfl | (simp only [List.length_drop, List.length_take]; rfl) | (go_simp; done) | (go_simp; rw [Int.tmod_eq_emod_of_nonneg (by omega)]; omega)) ?_; (with_reducible refine (sponge_Constant.calls k 0 0 0 t317 _ ?side1 A1.out).mono ?_); (case side1 => repeat (first | exact HRG.out | (with_reducible refine GL.alloc ?_ _) | (with_reducible refine GL.drewN ?_ _) | (with_reducible refine GL.drew ?_))); rintro e w10 ⟨rfl, hb⟩; refine ⟨_, rfl, ?_⟩; have n0_ := Aside0.mk (below_step (by repeat (first | (with_reducible first | exact HB.out | apply below_alloc | apply pw_below_drewN | apply below_drew1) | exact HB.out)) hb); clear HB; have HB := n0_; clear n0_; (try clear hb); (try clear hb2); (try clear hk); (try clear hi)) | (go_at_call 12; (with_reducible refine (sponge_Constant.calls k 0 7 3 t318 _ ?side1 A3.out).mono ?_); (case side1 => repeat (first | exact (GL.below HRG.out HB.out) | (with_reducible refine GL.alloc ?_ _) | (with_reducible refine GL.drewN ?_ _) | (with_reducible refine GL.drew ?_))); rintro e w11 ⟨rfl, hb⟩; have n0_ := Aside0.mk (below_step (by repeat (first | (with_reducible first | exact HB.out | apply below_alloc | apply pw_below_drewN | apply below_drew1) | exact HB.out)) hb); clear HB; have HB := n0_; clear n0_; (try clear hb); (try clear hb2); (try clear hk); (try clear hi)) | (go_at_call 14; (with_reducible refine (sponge_Round.calls k 0 0 0 0 0 0 t319 t320 t321 t322 _ ?side1 A5.out).mono ?_); (case side1 => repeat (first | exact (GL.below HRG.out HB.out) | (with_reducible refine GL.alloc ?_ _) | (with_reducible refine GL.drewN ?_ _) | (with_reducible refine GL.drew ?_))); rintro e w12 ⟨rfl, hb⟩; have n0_ := Aside0.mk (below_step (by repeat (first | (with_reducible first | exact HB.out | apply below_alloc | apply pw_below_drewN | apply below_drew1) | exact HB.out)) hb); clear HB; have HB := n0_; clear n0_; (try clear hb); (try clear hb2); (try clear hk); (try clear hi)) | (go_at_call 19; (with_reducible refine (sponge_Perm.calls 0 0 0 0 0 t323 t324 t325 t326 _ ?side1 A7.out).mono ?_); (case side1 => repeat (first | exact (GL.below HRG.out HB.out) | (with_reducible refine GL.alloc ?_ _) | (with_reducible refine GL.drewN ?_ _) | (with_reducible refine GL.drew ?_))); rintro e w13 ⟨rfl, hb⟩; have n0_ := Aside0.mk (below_step (by repeat (first | (with_reducible first | exact HB.out | apply below_alloc | apply pw_below_drewN | apply below_drew1) | exact HB.out)) hb); clear HB; have HB := n0_; clear n0_; (try clear hb); (try clear hb2); (try clear hk); (try clear hi)) | (go_at_call 17; (refine (sponge_Hash.calls k 0 (fun k_ => False) _ _ ([] : List Int) t327 t328 _ ?side1 ?side2 A9.out).mono ?_); (case side1 => exact Kd.V_nil _ _ _ _ _); (case side2 => repeat (first | exact (GL.below HRG.out HB.out) | (with_reducible refine GL.alloc ?_ _) | (with_reducible refine GL.drewN ?_ _) | (with_reducible refine GL.drew ?_))); rintro e w14 ⟨rfl, hb⟩; have n0_ := Aside0.mk (below_step (by repeat (first | (with_reducible first | exact HB.out | apply below_alloc | apply pw_below_drewN | apply below_drew1) | exact HB.out)) hb); clear HB; have HB := n0_; clear n0_; (try clear hb); (try clear hb2); (try clear hk); (try clear hi)))
          go_ret
          exact ⟨by first | rfl | (simp [errW_none, errW_some] <;> rfl) | (simp [*, errW_none, errW_some] <;> rfl), by repeat (first | (with_reducible first | exact HB.out | apply below_alloc | apply pw_below_drewN | apply below_drew1) | exact HB.out)⟩
        · rw [if_neg c8] at H
          have c8b0 : (t323 == 19 && (t324 == 58 && (t325 == 95 && (t326 == 16)))) = false := by simpa using c8
          (try (have c8b1 : decide (t323 = 19 && (t324 == 58 && (t325 == 95 && (t326 == 16)))) = false := by simpa using c8))
          (try (have c8b2 : (t323 == 19 && (t324 == 58 && (t325 == 95 && (t326 == 16)))) = false := by simpa using c8))
          (try (have c8b3 : ¬ (t323 = 19 && (t324 == 58 && (t325 == 95 && (t326 == 16)))) := by simpa using c8))
          clear c8
          obtain rfl := Option.some.inj H
          go_enter Tryd.func16, Tryd.ntmps16
          go_wp2_with (first | ((with_reducible refine gate_callee (f := 12) rfl ?_); refine goesL_ (some 1) rfl rfl Tryd.func12 (by kernel_rfl) rfl #[.int .i64 0, .int .i64 0, .int .i64 0] rfl (by (try simp only [List.map_toArray, List.map_cons, List.map_nil]); first | done | rfl | (simp only [List.length_drop, List.length_take]; rfl) | (go_simp; done) | (go_simp; rw [Int.tmod_eq_emod_of_nonneg (by omega)]; omega)) ?_; (with_reducible refine (sponge_Constant.calls k 0 0 0 t317 _ ?side1 A1.out).mono ?_); (case side1 => repeat (first | exact HRG.out | (with_reducible refine GL.alloc ?_ _) | (with_reducible refine GL.drewN ?_ _) | (with_reducible refine GL.drew ?_))); rintro e w15 ⟨rfl, hb⟩; refine ⟨_, rfl, ?_⟩; have n0_ := Aside0.mk (below_step (by repeat (first | (with_reducible first | exact HB.out | apply below_alloc | apply pw_below_drewN | apply below_drew1) | exact HB.out)) hb); clear HB; have HB := n0_; clear n0_; (try clear hb); (try clear hb2); (try clear hk); (try clear hi)) | (go_at_call 12; (with_reducible refine (sponge_Constant.calls k 0 7 3 t318 _ ?side1 A3.out).mono ?_); (case side1 => repeat (first | exact (GL.below HRG.out HB.out) | (with_reducible refine GL.alloc ?_ _) | (with_reducible refine GL.drewN ?_ _) | (with_reducible refine GL.drew ?_))); rintro e w16 ⟨rfl, hb⟩; have n0_ := Aside0.mk (below_step (by repeat (first | (with_reducible first | exact HB.out | apply below_alloc | apply pw_below_drewN | apply below_drew1) | exact HB.out)) hb); clear HB; have HB := n0_; clear n0_; (try clear hb); (try clear hb2); (try clear hk); (try clear hi)) | (go_at_call 14; (with_reducible refine (sponge_Round.calls k 0 0 0 0 0 0 t319 t320 t321 t322 _ ?side1 A5.out).mono ?_); (case side1 => repeat (first | exact (GL.below HRG.out HB.out) | (with_reducible refine GL.alloc ?_ _) | (with_reducible refine GL.drewN ?_ _) | (with_reducible refine GL.drew ?_))); rintro e w17 ⟨rfl, hb⟩; have n0_ := Aside0.mk (below_step (by repeat (first | (with_reducible first | exact HB.out | apply below_alloc | apply pw_below_drewN | apply below_drew1) | exact HB.out)) hb); clear HB; have HB := n0_; clear n0_; (try clear hb); (try clear hb2); (try clear hk); (try clear hi)) | (go_at_call 19; (with_reducible refine (sponge_Perm.calls 0 0 0 0 0 t323 t324 t325 t326 _ ?side1 A7.out).mono ?_); (case side1 => repeat (first | exact (GL.below HRG.out HB.out) | (with_reducible refine GL.alloc ?_ _) | (with_reducible refine GL.drewN ?_ _) | (with_reducible refine GL.drew ?_))); rintro e w18 ⟨rfl, hb⟩; have n0_ := Aside0.mk (below_step (by repeat (first | (with_reducible first | exact HB.out | apply below_alloc | apply pw_below_drewN | apply below_drew1) | exact HB.out)) hb); clear HB; have HB := n0_; clear n0_; (try clear hb); (try clear hb2); (try clear hk); (try clear hi)))
          go_ret
          exact ⟨by first | rfl | (simp [errW_none, errW_some] <;> rfl) | (simp [*, errW_none, errW_some] <;> rfl), by repeat (first | (with_reducible first | exact HB.out | apply below_alloc | apply pw_below_drewN | apply below_drew1) | exact HB.out)⟩
      · rw [if_neg c6] at H
        have c6b0 : (t319 == 59 && (t320 == 59 && (t321 == 94 && (t322 == 40)))) = false := by simpa using c6
        (try (have c6b1 : decide (t319 = 59 && (t320 == 59 && (t321 == 94 && (t322 == 40)))) = false := by simpa using c6))
        (try (have c6b2 : (t319 == 59 && (t320 == 59 && (t321 == 94 && (t322 == 40)))) = false := by simpa using c6))
        (try (have c6b3 : ¬ (t319 = 59 && (t320 == 59 && (t321 == 94 && (t322 == 40)))) := by simpa using c6))
        clear c6
        obtain rfl := Option.some.inj H
        go_enter Tryd.func16, Tryd.ntmps16
        go_wp2_with (first | ((with_reducible refine gate_callee (f := 12) rfl ?_); refine goesL_ (some 1) rfl rfl Tryd.func12 (by kernel_rfl) rfl #[.int .i64 0, .int .i64 0, .int .i64 0] rfl (by (try simp only [List.map_toArray, List.map_cons, List.map_nil]); first | done | rfl | (simp only [List.length_drop, List.length_take]; rfl) | (go_simp; done) | (go_simp; rw [Int.tmod_eq_emod_of_nonneg (by omega)]; omega)) ?_; (with_reducible refine (sponge_Constant.calls k 0 0 0 t317 _ ?side1 A1.out).mono ?_); (case side1 => repeat (first | exact HRG.out | (with_reducible refine GL.alloc ?_ _) | (with_reducible refine GL.drewN ?_ _) | (with_reducible refine GL.drew ?_))); rintro e w19 ⟨rfl, hb⟩; refine ⟨_, rfl, ?_⟩; have n0_ := Aside0.mk (below_step (by repeat (first | (with_reducible first | exact HB.out | apply below_alloc | apply pw_below_drewN | apply below_drew1) | exact HB.out)) hb); clear HB; have HB := n0_; clear n0_; (try clear hb); (try clear hb2); (try clear hk); (try clear hi)) | (go_at_call 12; (with_reducible refine (sponge_Constant.calls k 0 7 3 t318 _ ?side1 A3.out).mono ?_); (case side1 => repeat (first | exact (GL.below HRG.out HB.out) | (with_reducible refine GL.alloc ?_ _) | (with_reducible refine GL.drewN ?_ _) | (with_reducible refine GL.drew ?_))); rintro e w20 ⟨rfl, hb⟩; have n0_ := Aside0.mk (below_step (by repeat (first | (with_reducible first | exact HB.out | apply below_alloc | apply pw_below_drewN | apply below_drew1) | exact HB.out)) hb); clear HB; have HB := n0_; clear n0_; (try clear hb); (try clear hb2); (try clear hk); (try clear hi)) | (go_at_call 14; (with_reducible refine (sponge_Round.calls k 0 0 0 0 0 0 t319 t320 t321 t322 _ ?side1 A5.out).mono ?_); (case side1 => repeat (first | exact (GL.below HRG.out HB.out) | (with_reducible refine GL.alloc ?_ _) | (with_reducible refine GL.drewN ?_ _) | (with_reducible refine GL.drew ?_))); rintro e w21 ⟨rfl, hb⟩; have n0_ := Aside0.mk (below_step (by repeat (first | (with_reducible first | exact HB.out | apply below_alloc | apply pw_below_drewN | apply below_drew1) | exact HB.out)) hb); clear HB; have HB := n0_; clear n0_; (try clear hb); (try clear hb2); (try clear hk); (try clear hi)))
        go_ret
        exact ⟨by first | rfl | (simp [errW_none, errW_some] <;> rfl) | (simp [*, errW_none, errW_some] <;> rfl), by repeat (first | (with_reducible first | exact HB.out | apply below_alloc | apply pw_below_drewN | apply below_drew1) | exact HB.out)⟩
    · rw [if_neg c4] at H
      have c4b0 : (t318 == 42) = false := beq_eq_false_iff_ne.mpr c4
      have c4b1 : (t318 != 42) = true := bne_iff_ne.mpr c4
      obtain rfl := Option.some.inj H
      go_enter Tryd.func16, Tryd.ntmps16
      go_wp2_with (first | ((with_reducible refine gate_callee (f := 12) rfl ?_); refine goesL_ (some 1) rfl rfl Tryd.func12 (by kernel_rfl) rfl #[.int .i64 0, .int .i64 0, .int .i64 0] rfl (by (try simp only [List.map_toArray, List.map_cons, List.map_nil]); first | done | rfl | (simp only [List.length_drop, List.length_take]; rfl) | (go_simp; done) | (go_simp; rw [Int.tmod_eq_emod_of_nonneg (by omega)]; omega)) ?_; (with_reducible refine (sponge_Constant.calls k 0 0 0 t317 _ ?side1 A1.out).mono ?_); (case side1 => repeat (first | exact HRG.out | (with_reducible refine GL.alloc ?_ _) | (with_reducible refine GL.drewN ?_ _) | (with_reducible refine GL.drew ?_))); rintro e w22 ⟨rfl, hb⟩; refine ⟨_, rfl, ?_⟩; have n0_ := Aside0.mk (below_step (by repeat (first | (with_reducible first | exact HB.out | apply below_alloc | apply pw_below_drewN | apply below_drew1) | exact HB.out)) hb); clear HB; have HB := n0_; clear n0_; (try clear hb); (try clear hb2); (try clear hk); (try clear hi)) | (go_at_call 12; (with_reducible refine (sponge_Constant.calls k 0 7 3 t318 _ ?side1 A3.out).mono ?_); (case side1 => repeat (first | exact (GL.below HRG.out HB.out) | (with_reducible refine GL.alloc ?_ _) | (with_reducible refine GL.drewN ?_ _) | (with_reducible refine GL.drew ?_))); rintro e w23 ⟨rfl, hb⟩; have n0_ := Aside0.mk (below_step (by repeat (first | (with_reducible first | exact HB.out | apply below_alloc | apply pw_below_drewN | apply below_drew1) | exact HB.out)) hb); clear HB; have HB := n0_; clear n0_; (try clear hb); (try clear hb2); (try clear hk); (try clear hi)))
      go_ret
      exact ⟨by first | rfl | (simp [errW_none, errW_some] <;> rfl) | (simp [*, errW_none, errW_some] <;> rfl), by repeat (first | (with_reducible first | exact HB.out | apply below_alloc | apply pw_below_drewN | apply below_drew1) | exact HB.out)⟩
  · rw [if_neg c2] at H
    have c2b0 : (t317 == 12) = false := beq_eq_false_iff_ne.mpr c2
    have c2b1 : (t317 != 12) = true := bne_iff_ne.mpr c2
    obtain rfl := Option.some.inj H
    go_enter Tryd.func16, Tryd.ntmps16
    go_wp2_with (first | ((with_reducible refine gate_callee (f := 12) rfl ?_); refine goesL_ (some 1) rfl rfl Tryd.func12 (by kernel_rfl) rfl #[.int .i64 0, .int .i64 0, .int .i64 0] rfl (by (try simp only [List.map_toArray, List.map_cons, List.map_nil]); first | done | rfl | (simp only [List.length_drop, List.length_take]; rfl) | (go_simp; done) | (go_simp; rw [Int.tmod_eq_emod_of_nonneg (by omega)]; omega)) ?_; (with_reducible refine (sponge_Constant.calls k 0 0 0 t317 _ ?side1 A1.out).mono ?_); (case side1 => repeat (first | exact HRG.out | (with_reducible refine GL.alloc ?_ _) | (with_reducible refine GL.drewN ?_ _) | (with_reducible refine GL.drew ?_))); rintro e w24 ⟨rfl, hb⟩; refine ⟨_, rfl, ?_⟩; have n0_ := Aside0.mk (below_step (by repeat (first | (with_reducible first | exact HB.out | apply below_alloc | apply pw_below_drewN | apply below_drew1) | exact HB.out)) hb); clear HB; have HB := n0_; clear n0_; (try clear hb); (try clear hb2); (try clear hk); (try clear hi)))
    go_ret
    exact ⟨by first | rfl | (simp [errW_none, errW_some] <;> rfl) | (simp [*, errW_none, errW_some] <;> rfl), by repeat (first | (with_reducible first | exact HB.out | apply below_alloc | apply pw_below_drewN | apply below_drew1) | exact HB.out)⟩

end Go.Proofs.YtjfekjblnoagkaaDoor.Q
end
section
namespace Go.Proofs.YtjfekjblnoagkaaDoor.Q
open Go.RowKit Go.Proofs.YtjfekjblnoagkaaDoorW.PrintWords Go.Proofs.YtjfekjblnoagkaaDoorW.PrintLast Go.Proofs.YtjfekjblnoagkaaDoorW.PrintMore
open Go.Proofs.YtjfekjblnoagkaaDoor.Num
set_option linter.unusedVariables false
set_option linter.unusedSimpArgs false

theorem lives_true (k : Nat) (hk : 200 ≤ k) : attestorlaw06_lives.f k = some true := by
  have h : attestorlaw06_lives.f 200 = some true := by decide +kernel
  exact at_rounds (g := fun k => attestorlaw06_lives.f k) attestorlaw06_lives.mono hk h
theorem nat4 {a b c d : Int} (ha : 0 ≤ a) (hb : 0 ≤ b) (hc : 0 ≤ c) (hd : 0 ≤ d) : ∃ s : S4, a = (s.a : Int) ∧ b = (s.b : Int) ∧ c = (s.c : Int) ∧ d = (s.d : Int) := by
  obtain ⟨a, rfl⟩ := Int.eq_ofNat_of_zero_le ha
  obtain ⟨b, rfl⟩ := Int.eq_ofNat_of_zero_le hb
  obtain ⟨c, rfl⟩ := Int.eq_ofNat_of_zero_le hc
  obtain ⟨d, rfl⟩ := Int.eq_ofNat_of_zero_le hd
  exact ⟨⟨a, b, c, d⟩, rfl, rfl, rfl, rfl⟩
/-- The field that the number 'which' names. -/
theorem which_f (a : Int) (ha : 0 ≤ a ∧ a < 256) : 0 ≤ wrap64 (Int.tmod a 4) ∧ wrap64 (Int.tmod a 4) < 4 := by
  rw [Int.tmod_eq_emod_of_nonneg ha.1, wrapS (by omega) (by omega)]
  omega
end Go.Proofs.YtjfekjblnoagkaaDoor.Q
end
section
namespace Go.Proofs.YtjfekjblnoagkaaDoor.Q
open Go.RowKit Go.Proofs.YtjfekjblnoagkaaDoorW.PrintWords Go.Proofs.YtjfekjblnoagkaaDoorW.PrintLast Go.Proofs.YtjfekjblnoagkaaDoorW.PrintMore
open Go.Proofs.YtjfekjblnoagkaaDoor.Num
set_option linter.unusedVariables false
set_option linter.unusedSimpArgs false

/-- A list of natural numbers as whole numbers. -/
def I (l : List Nat) : List Int := l.map (fun (n : Nat) => (n : Int))
theorem I_cons (x : Nat) (l : List Nat) : I (x :: l) = (x : Int) :: I l := rfl
theorem I_len (l : List Nat) : (I l).length = l.length := by simp [I]
theorem I_take (l : List Nat) (n : Nat) : (I l).take n = I (l.take n) := by simp [I, List.map_take]
theorem I_rd (l : List Nat) (i : Nat) (h : i < l.length) : rd (I l) (i : Int) = ((l[i] : Nat) : Int) := by simp [rd, I, h]
theorem ints_nat : ∀ l : List Int, (∀ x ∈ l, 0 ≤ x) → ∃ L : List Nat, l = I L
  | [], _ => ⟨[], rfl⟩
  | x :: l, h => by
    obtain ⟨L, hL⟩ := ints_nat l (fun y hy => h y (List.mem_cons_of_mem _ hy))
    obtain ⟨n, rfl⟩ := Int.eq_ofNat_of_zero_le (h x (List.mem_cons_self ..))
    exact ⟨n :: L, by rw [hL]; rfl⟩
/-- Two numbers of the list at a time are added to the state, then it is permuted. -/
def hsh (p g e : Nat) : List Nat → S4 → S4
  | [], s => s
  | [x], s => prm p g e 8 ⟨(s.a + x) % p, s.b, s.c, s.d⟩
  | x :: y :: l, s => hsh p g e l (prm p g e 8 ⟨(s.a + x) % p, (s.b + y) % p, s.c, s.d⟩)
theorem absb {f : Int} {p g e : Nat} (D : Fd f p g e) (s x : Nat) (hs : s < p) : Int.tmod (IntKind.u64.wrap ((s : Int) + Int.tmod (x : Int) (p : Int))) (p : Int) = (((s + x) % p : Nat) : Int) := by
  have h1 := D.F.md x
  have hb := D.F.big
  rw [tmodN, castA, wrapU (by omega), tmodN, Nat.add_mod_mod]
theorem mn2_one : mn 2 (1 : Int) = 1 := by decide
theorem w01 : wrap64 (0 + 1) = 1 := by decide +kernel
theorem w11 : wrap64 (1 + 1) = 2 := by decide +kernel
theorem hash_nil (k : Nat) (p g : Int) (b : Bool) (a0 a1 a2 a3 : Int) : sponge_Hash.l0 (k + 1) (I []) p g b a0 a1 a2 a3 = some (a0, a1) := by
  rw [sponge_Hash.l0, if_neg (by decide)]
theorem hash_one {f : Int} {p g e : Nat} (D : Fd f p g e) (k x : Nat) (s : S4) (hs : s.lt p) :
    sponge_Hash.l0 (k + 1 + 1 + 1 + 1) (I [x]) p g ((e : Int) == 5) s.a s.b s.c s.d = some (((hsh p g e [x] s).a : Int), ((hsh p g e [x] s).b : Int)) := by
  have l1 : (((I [x]).length : Nat) : Int) = 1 := by simp [I]
  rw [sponge_Hash.l0, l1, if_pos (by decide), mn2_one, if_pos (by decide), if_pos (by decide)]
  refine bnd rfl ?_
  rw [show (I [x]).take (1 : Int).toNat = [(x : Int)] from rfl]
  rw [sponge_Hash.l1, if_pos (by simp), if_pos (by decide), if_pos (by simp), if_pos rfl, if_neg D.F.ne, w01, show rd [(x : Int)] 0 = (x : Int) from rfl, absb D s.a x hs.1]
  rw [sponge_Hash.l1, if_neg (by simp)]
  refine bnd (perm_f D ⟨(s.a + x) % p, s.b, s.c, s.d⟩ ⟨D.F.md _, hs.2.1, hs.2.2.1, hs.2.2.2⟩) ?_
  rw [if_pos (by decide), if_pos (by rw [l1]; decide), show (I [x]).drop (1 : Int).toNat = I [] from rfl, hash_nil]
  rfl
theorem hash_two {f : Int} {p g e : Nat} (D : Fd f p g e) (k x y : Nat) (l : List Nat) (s : S4) (hs : s.lt p) (hl : l.length < 1000000) :
    sponge_Hash.l0 (k + 1 + 1 + 1 + 1) (I (x :: y :: l)) p g ((e : Int) == 5) s.a s.b s.c s.d = sponge_Hash.l0 k (I l) p g ((e : Int) == 5) (prm p g e 8 ⟨(s.a + x) % p, (s.b + y) % p, s.c, s.d⟩).a (prm p g e 8 ⟨(s.a + x) % p, (s.b + y) % p, s.c, s.d⟩).b (prm p g e 8 ⟨(s.a + x) % p, (s.b + y) % p, s.c, s.d⟩).c (prm p g e 8 ⟨(s.a + x) % p, (s.b + y) % p, s.c, s.d⟩).d := by
  have l1 : (((I (x :: y :: l)).length : Nat) : Int) = ((l.length : Nat) : Int) + 1 + 1 := by simp [I]
  have hm : mn 2 (((l.length : Nat) : Int) + 1 + 1) = 2 := by
    unfold mn
    rw [if_neg (by omega)]
  rw [sponge_Hash.l0, l1, if_pos (by omega), hm, if_pos (by decide), if_pos (by omega)]
  refine bnd rfl ?_
  rw [show (I (x :: y :: l)).take (2 : Int).toNat = [(x : Int), (y : Int)] from rfl]
  rw [sponge_Hash.l1, if_pos (by simp), if_pos (by decide), if_pos (by simp), if_pos rfl, if_neg D.F.ne, w01, show rd [(x : Int), (y : Int)] 0 = (x : Int) from rfl, absb D s.a x hs.1]
  rw [sponge_Hash.l1, if_pos (by simp), if_pos (by decide), if_pos (by simp), if_neg (by decide), if_pos rfl, if_neg D.F.ne, w11, show rd [(x : Int), (y : Int)] 1 = (y : Int) from rfl, absb D s.b y hs.2.1]
  rw [sponge_Hash.l1, if_neg (by simp)]
  refine bnd (perm_f D ⟨(s.a + x) % p, (s.b + y) % p, s.c, s.d⟩ ⟨D.F.md _, D.F.md _, hs.2.2.1, hs.2.2.2⟩) ?_
  rw [if_pos (by decide), if_pos (by rw [l1]; omega), show (I (x :: y :: l)).drop (2 : Int).toNat = I l from rfl]
  simp only [S4.o]
theorem hash_l0 {f : Int} {p g e : Nat} (D : Fd f p g e) : ∀ (n : Nat) (l : List Nat) (s : S4) (k : Nat), l.length ≤ n → n < 1000000 → s.lt p → 4 * n + 4 ≤ k →
    sponge_Hash.l0 k (I l) p g ((e : Int) == 5) s.a s.b s.c s.d = some (((hsh p g e l s).a : Int), ((hsh p g e l s).b : Int)) := by
  intro n
  induction n with
  | zero =>
    intro l s k hl hn hs hk
    obtain ⟨k, rfl⟩ : ∃ j, k = j + 1 := ⟨k - 1, by omega⟩
    obtain rfl := List.length_eq_zero_iff.mp (Nat.le_zero.mp hl)
    rw [hash_nil]
    rfl
  | succ n ih =>
    intro l s k hl hn hs hk
    obtain ⟨k, rfl⟩ : ∃ j, k = j + 1 + 1 + 1 + 1 := ⟨k - 4, by omega⟩
    match l, hl with
    | [], _ =>
      rw [hash_nil]
      rfl
    | [x], _ => exact hash_one D k x s hs
    | x :: y :: l, hl =>
      simp only [List.length_cons] at hl
      have hq : (S4.mk ((s.a + x) % p) ((s.b + y) % p) s.c s.d).lt p := ⟨D.F.md _, D.F.md _, hs.2.2.1, hs.2.2.2⟩
      rw [hash_two D k x y l s hs (by omega), ih l (prm p g e 8 ⟨(s.a + x) % p, (s.b + y) % p, s.c, s.d⟩) k (by omega) (by omega) (prm_lt D.pos g e _ hq 8) (by omega)]
      rfl
/-- The state that a list begins with. -/
def beg (p n : Nat) : S4 := ⟨0, 0, n % p, 0⟩
theorem beg_lt {p : Nat} (hp : 0 < p) (n : Nat) : (beg p n).lt p := ⟨hp, hp, Nat.mod_lt _ hp, hp⟩
/-- The state behind a list. -/
def fst4 (p g e : Nat) (l : List Nat) : S4 := if l.length = 0 then prm p g e 8 (beg p l.length) else hsh p g e l (beg p l.length)
theorem Hash_f {f : Int} {p g e : Nat} (D : Fd f p g e) (l : List Nat) (hl : l.length < 1000000) (k : Nat) (hk : 4 * l.length + 8 ≤ k) :
    sponge_Hash.f k f (I l) = some (((fst4 p g e l).a : Int), ((fst4 p g e l).b : Int)) := by
  obtain ⟨k, rfl⟩ : ∃ j, k = j + 1 := ⟨k - 1, by omega⟩
  unfold sponge_Hash.f
  refine bnd (valid_yes D.F) ?_
  rw [if_pos rfl]
  refine bnd (in_f D) ?_
  rw [if_neg D.F.ne, I_len, wrapU (by omega), tmodN]
  by_cases h : l.length = 0
  · rw [if_pos (by omega)]
    refine bnd (perm_f D (beg p l.length) (beg_lt D.pos _)) ?_
    obtain rfl := List.length_eq_zero_iff.mp h
    rw [sponge_Hash.j0]
    obtain ⟨k, rfl⟩ : ∃ j, k = j + 1 := ⟨k - 1, by omega⟩
    rw [hash_nil]
    rfl
  · rw [if_neg (by omega), sponge_Hash.j0]
    have := hash_l0 D l.length l (beg p l.length) k (Nat.le_refl _) hl (beg_lt D.pos _) (by omega)
    rw [fst4, if_neg h]
    exact this
theorem Hash_no {f : Int} (h : ¬ (0 ≤ f ∧ f < 4)) (k : Nat) (l : List Int) : sponge_Hash.f k f l = some (0, 0) := by
  unfold sponge_Hash.f
  rw [valid_no h]
  rfl
end Go.Proofs.YtjfekjblnoagkaaDoor.Q
end
section
namespace Go.Proofs.YtjfekjblnoagkaaDoor.Q
open Go.RowKit Go.Proofs.YtjfekjblnoagkaaDoorW.PrintWords Go.Proofs.YtjfekjblnoagkaaDoorW.PrintLast Go.Proofs.YtjfekjblnoagkaaDoorW.PrintMore
attribute [local go_sem] max2_int min2_int max_two min_two max_three min_three max_four min_four   -- for this text's walks alone
set_option linter.unusedVariables false
set_option linter.unusedSimpArgs false

/-! ### sponge_Node: function 21 -/
def sponge_Node.f (a0 : Int) (a1_0 : Int) (a1_1 : Int) (a2_0 : Int) (a2_1 : Int) : Option (Int × Int) := (field_Valid.f a0).bind fun t441 => (if t441 = true then ((sponge_in.f a0).bind fun bt442 => ((sponge_mixer_reduced.f bt442.1 bt442.2.1 bt442.2.2 a1_0 a1_1 a2_0 a2_1).bind fun bt446 => ((sponge_mixer_perm.f bt442.1 bt442.2.1 bt442.2.2 bt446.1 bt446.2.1 bt446.2.2.1 bt446.2.2.2).bind fun bt451 => (if bt442.1 = 0 then (none) else (some (Int.tmod (IntKind.u64.wrap (bt451.1 + bt446.1)) bt442.1, Int.tmod (IntKind.u64.wrap (bt451.2.1 + bt446.2.1)) bt442.1)))))) else (some (0, 0)))
def sponge_Node.T6 : Bool × List (List Nat × List Nat) := (true, [([], []), ([0], [0]), ([], []), ([2], [2]), ([1, 3], [1, 3]), ([], []), ([5], [5]), ([4, 6], [4, 6]), ([], []), ([8], [8]), ([], []), ([10], [10]), ([9, 11], [9, 11]), ([], []), ([13], [13]), ([12, 14], [12, 14]), ([7, 15], [7, 15]), ([16, 0, 1, 2, 3, 4, 5, 6, 7, 8, 9, 10, 11, 12, 13, 14, 15, 16], [16])])
def sponge_Node.B6 : List Nat := [0, 1, 0, 4, 15, 0, 32, 127, 0, 256, 0, 1024, 3840, 0, 8192, 32512, 65535, 131071]
theorem sponge_Node.tab6 : rtab .any (opsOf Tryd.f21 6) = sponge_Node.T6 := by kernel_rfl
theorem sponge_Node.bits6 : waitsOk sponge_Node.T6.2 sponge_Node.B6 = true := by kernel_rfl
set_option maxHeartbeats 8000000 in
set_option maxRecDepth 100000 in
theorem sponge_Node.calls (a0 : Int) (a1_0 : Int) (a1_1 : Int) (a2_0 : Int) (a2_1 : Int) (r1 : Int) (r2 : Int) (w : World) (hrG : GL w) (h : sponge_Node.f a0 a1_0 a1_1 a2_0 a2_1 = some (r1, r2)) :
    Calls Tryd.prog 21 #[.int .i64 a0, .agg #[.int .u64 a1_0, .int .u64 a1_1], .agg #[.int .u64 a2_0, .int .u64 a2_1]] w fun e w' => e = .returned (.agg #[.int .u64 r1, .int .u64 r2]) ∧ Below w.heap.size w w' := by
  have hu30 := Tryd.underlying30
  have hu45 := Tryd.underlying45
  have hu23 := Tryd.underlying23
  have HRG := Aside0.mk hrG
  clear hrG
  have HB := Aside0.mk (Below.refl w.heap.size w)
  have H : ((field_Valid.f a0).bind fun t441 => (if t441 = true then ((sponge_in.f a0).bind fun bt442 => ((sponge_mixer_reduced.f bt442.1 bt442.2.1 bt442.2.2 a1_0 a1_1 a2_0 a2_1).bind fun bt446 => ((sponge_mixer_perm.f bt442.1 bt442.2.1 bt442.2.2 bt446.1 bt446.2.1 bt446.2.2.1 bt446.2.2.2).bind fun bt451 => (if bt442.1 = 0 then (none) else (some (Int.tmod (IntKind.u64.wrap (bt451.1 + bt446.1)) bt442.1, Int.tmod (IntKind.u64.wrap (bt451.2.1 + bt446.2.1)) bt442.1)))))) else (some (0, 0)))) = some (r1, r2) := h
  clear h
  replace H := Option.bind_eq_some_iff.mp H
  obtain ⟨t441, A40, H⟩ := H
  replace H : (if t441 = true then ((sponge_in.f a0).bind fun bt442 => ((sponge_mixer_reduced.f bt442.1 bt442.2.1 bt442.2.2 a1_0 a1_1 a2_0 a2_1).bind fun bt446 => ((sponge_mixer_perm.f bt442.1 bt442.2.1 bt442.2.2 bt446.1 bt446.2.1 bt446.2.2.1 bt446.2.2.2).bind fun bt451 => (if bt442.1 = 0 then (none) else (some (Int.tmod (IntKind.u64.wrap (bt451.1 + bt446.1)) bt442.1, Int.tmod (IntKind.u64.wrap (bt451.2.1 + bt446.2.1)) bt442.1)))))) else (some (0, 0))) = some (r1, r2) := H
  have A4 := Aside0.mk A40
  clear A40
  by_cases c5 : t441 = true
  · subst c5
    have H1 : ((sponge_in.f a0).bind fun bt442 => ((sponge_mixer_reduced.f bt442.1 bt442.2.1 bt442.2.2 a1_0 a1_1 a2_0 a2_1).bind fun bt446 => ((sponge_mixer_perm.f bt442.1 bt442.2.1 bt442.2.2 bt446.1 bt446.2.1 bt446.2.2.1 bt446.2.2.2).bind fun bt451 => (if bt442.1 = 0 then (none) else (some (Int.tmod (IntKind.u64.wrap (bt451.1 + bt446.1)) bt442.1, Int.tmod (IntKind.u64.wrap (bt451.2.1 + bt446.2.1)) bt442.1)))))) = some (r1, r2) := by rw [if_pos rfl] at H; exact H
    clear H
    have H := H1
    clear H1
    replace H := Option.bind_eq_some_iff.mp H
    obtain ⟨⟨t442, t443, t444⟩, A60, H⟩ := H
    replace H : ((sponge_mixer_reduced.f t442 t443 t444 a1_0 a1_1 a2_0 a2_1).bind fun bt446 => ((sponge_mixer_perm.f t442 t443 t444 bt446.1 bt446.2.1 bt446.2.2.1 bt446.2.2.2).bind fun bt451 => (if t442 = 0 then (none) else (some (Int.tmod (IntKind.u64.wrap (bt451.1 + bt446.1)) t442, Int.tmod (IntKind.u64.wrap (bt451.2.1 + bt446.2.1)) t442))))) = some (r1, r2) := H
    have A6 := Aside0.mk A60
    clear A60
    replace H := Option.bind_eq_some_iff.mp H
    obtain ⟨⟨t446, t447, t448, t449⟩, A70, H⟩ := H
    replace H : ((sponge_mixer_perm.f t442 t443 t444 t446 t447 t448 t449).bind fun bt451 => (if t442 = 0 then (none) else (some (Int.tmod (IntKind.u64.wrap (bt451.1 + t446)) t442, Int.tmod (IntKind.u64.wrap (bt451.2.1 + t447)) t442)))) = some (r1, r2) := H
    have A7 := Aside0.mk A70
    clear A70
    replace H := Option.bind_eq_some_iff.mp H
    obtain ⟨⟨t451, t452, t453, t454⟩, A80, H⟩ := H
    replace H : (if t442 = 0 then (none) else (some (Int.tmod (IntKind.u64.wrap (t451 + t446)) t442, Int.tmod (IntKind.u64.wrap (t452 + t447)) t442))) = some (r1, r2) := H
    have A8 := Aside0.mk A80
    clear A80
    by_cases c9 : t442 = 0
    · rw [if_pos c9] at H
      exact absurd H (by simp)
    · rw [if_neg c9] at H
      have c9b0 : (t442 == 0) = false := beq_eq_false_iff_ne.mpr c9
      have c9b1 : (t442 != 0) = true := bne_iff_ne.mpr c9
      simp only [Option.some.injEq, Prod.mk.injEq] at H
      obtain ⟨rfl, rfl⟩ := H
      go_enter Tryd.func21, Tryd.ntmps21
      try go_wp2_with (first | ((with_reducible refine gate_dst (N := 4) rfl ?_); refine box_event ?hg (N := 4) ?hd (cs := #[.int .u64 a1_0, .int .u64 a1_1]) (t := 30) ?hr ?_; (case hd => rfl); (case hg => rfl); (case hr => first | (go_simp; done) | (go_simp; rfl)); intro gb438 hg w10 hbox hb; have n0_ := Aside0.mk (below_step (by repeat (first | (with_reducible first | exact HB.out | apply below_alloc | apply pw_below_drewN | apply below_drew1) | exact HB.out)) hb); have n1_ := Aside0.mk (hbox); have n2_ := Aside0.mk ((by rw [hg]; exact (below_size (by repeat (first | (with_reducible first | exact HB.out | apply below_alloc | apply pw_below_drewN | apply below_drew1) | exact HB.out))) : w.heap.size ≤ gb438)); have n3_ := Aside0.mk ((by rw [hg]; exact (below_size (by repeat (first | (with_reducible first | exact HB.out | apply below_alloc | apply pw_below_drewN | apply below_drew1) | exact HB.out))) : w.heap.size ≤ gb438)); clear HB; have HB := n0_; have BK438 := n1_; have GW438 := n2_; have GE438 := n3_; clear n0_ n1_ n2_ n3_; clear hb hbox hg) | ((with_reducible refine gate_dst (N := 5) rfl ?_); refine box_event ?hg (N := 5) ?hd (cs := #[.int .u64 a2_0, .int .u64 a2_1]) (t := 30) ?hr ?_; (case hd => rfl); (case hg => rfl); (case hr => first | (go_simp; done) | (go_simp; rfl)); intro gb439 hg w11 hbox hb; have n0_ := Aside0.mk (blk_below (g := gb438) (o := .cells #[.int .u64 a1_0, .int .u64 a1_1] 30 (0, 0)) (by (with_reducible repeat (first | refine blk_drewN ?_ _ | refine blk_drew ?_ | refine blk_alloc ?_ _)); exact BK438.out) hb); have n1_ := Aside0.mk (below_step (by repeat (first | (with_reducible first | exact HB.out | apply below_alloc | apply pw_below_drewN | apply below_drew1 | refine below_set ?_ GE438.out) | exact HB.out)) hb); have n2_ := Aside0.mk (hbox); have n3_ := Aside0.mk ((by rw [hg]; exact (below_size (by repeat (first | (with_reducible first | exact HB.out | apply below_alloc | apply pw_below_drewN | apply below_drew1 | refine below_set ?_ GE438.out) | exact HB.out))) : w.heap.size ≤ gb439)); have n4_ := Aside0.mk ((by rw [hg]; exact (below_size (by repeat (first | (with_reducible first | exact HB.out | apply below_alloc | apply pw_below_drewN | apply below_drew1 | refine below_set ?_ GE438.out) | exact HB.out))) : w.heap.size ≤ gb439)); have n5_ := Aside0.mk ((by rw [hg]; exact Nat.ne_of_lt (blk_lt (g := gb438) (o := .cells #[.int .u64 a1_0, .int .u64 a1_1] 30 (0, 0)) (by (with_reducible repeat (first | refine blk_drewN ?_ _ | refine blk_drew ?_ | refine blk_alloc ?_ _)); exact BK438.out)) : gb438 ≠ gb439)); have n6_ := Aside0.mk ((by rw [hg]; exact Nat.ne_of_gt (blk_lt (g := gb438) (o := .cells #[.int .u64 a1_0, .int .u64 a1_1] 30 (0, 0)) (by (with_reducible repeat (first | refine blk_drewN ?_ _ | refine blk_drew ?_ | refine blk_alloc ?_ _)); exact BK438.out)) : gb439 ≠ gb438)); clear BK438; clear HB; have BK438 := n0_; have HB := n1_; have BK439 := n2_; have GW439 := n3_; have GE439 := n4_; have NB438_439 := n5_; have NB439_438 := n6_; clear n0_ n1_ n2_ n3_ n4_ n5_ n6_; clear hb hbox hg) | ((with_reducible refine gate_dst (N := 6) rfl ?_); refine box_event ?hg (N := 6) ?hd (cs := #[.int .u64 0, .int .u64 0]) (t := 30) ?hr ?_; (case hd => rfl); (case hg => rfl); (case hr => first | (go_simp; done) | (go_simp; rfl)); intro gb440 hg w12 hbox hb; have n0_ := Aside0.mk (blk_below (g := gb438) (o := .cells #[.int .u64 a1_0, .int .u64 a1_1] 30 (0, 0)) (by (with_reducible repeat (first | refine blk_drewN ?_ _ | refine blk_drew ?_ | refine blk_alloc ?_ _)); exact BK438.out) hb); have n1_ := Aside0.mk (blk_below (g := gb439) (o := .cells #[.int .u64 a2_0, .int .u64 a2_1] 30 (0, 0)) (by (with_reducible repeat (first | refine blk_drewN ?_ _ | refine blk_drew ?_ | refine blk_alloc ?_ _)); exact BK439.out) hb); have n2_ := Aside0.mk (below_step (by repeat (first | (with_reducible first | exact HB.out | apply below_alloc | apply pw_below_drewN | apply below_drew1 | refine below_set ?_ GE438.out | refine below_set ?_ GE439.out) | exact HB.out)) hb); have n3_ := Aside0.mk (hbox); have n4_ := Aside0.mk ((by rw [hg]; exact (below_size (by repeat (first | (with_reducible first | exact HB.out | apply below_alloc | apply pw_below_drewN | apply below_drew1 | refine below_set ?_ GE438.out | refine below_set ?_ GE439.out) | exact HB.out))) : w.heap.size ≤ gb440)); have n5_ := Aside0.mk ((by rw [hg]; exact (below_size (by repeat (first | (with_reducible first | exact HB.out | apply below_alloc | apply pw_below_drewN | apply below_drew1 | refine below_set ?_ GE438.out | refine below_set ?_ GE439.out) | exact HB.out))) : w.heap.size ≤ gb440)); have n6_ := Aside0.mk ((by rw [hg]; exact Nat.ne_of_lt (blk_lt (g := gb438) (o := .cells #[.int .u64 a1_0, .int .u64 a1_1] 30 (0, 0)) (by (with_reducible repeat (first | refine blk_drewN ?_ _ | refine blk_drew ?_ | refine blk_alloc ?_ _)); exact BK438.out)) : gb438 ≠ gb440)); have n7_ := Aside0.mk ((by rw [hg]; exact Nat.ne_of_gt (blk_lt (g := gb438) (o := .cells #[.int .u64 a1_0, .int .u64 a1_1] 30 (0, 0)) (by (with_reducible repeat (first | refine blk_drewN ?_ _ | refine blk_drew ?_ | refine blk_alloc ?_ _)); exact BK438.out)) : gb440 ≠ gb438)); have n8_ := Aside0.mk ((by rw [hg]; exact Nat.ne_of_lt (blk_lt (g := gb439) (o := .cells #[.int .u64 a2_0, .int .u64 a2_1] 30 (0, 0)) (by (with_reducible repeat (first | refine blk_drewN ?_ _ | refine blk_drew ?_ | refine blk_alloc ?_ _)); exact BK439.out)) : gb439 ≠ gb440)); have n9_ := Aside0.mk ((by rw [hg]; exact Nat.ne_of_gt (blk_lt (g := gb439) (o := .cells #[.int .u64 a2_0, .int .u64 a2_1] 30 (0, 0)) (by (with_reducible repeat (first | refine blk_drewN ?_ _ | refine blk_drew ?_ | refine blk_alloc ?_ _)); exact BK439.out)) : gb440 ≠ gb439)); clear BK438; clear BK439; clear HB; have BK438 := n0_; have BK439 := n1_; have HB := n2_; have BK440 := n3_; have GW440 := n4_; have GE440 := n5_; have NB438_440 := n6_; have NB440_438 := n7_; have NB439_440 := n8_; have NB440_439 := n9_; clear n0_ n1_ n2_ n3_ n4_ n5_ n6_ n7_ n8_ n9_; clear hb hbox hg) | ((with_reducible refine gate_callee (f := 41) rfl ?_); refine goesL_ (some 11) rfl rfl Tryd.func41 (by kernel_rfl) rfl #[.int .i64 a0] rfl (by (try simp only [List.map_toArray, List.map_cons, List.map_nil]); first | done | rfl | (simp only [List.length_drop, List.length_take]; rfl) | (go_simp; done) | (go_simp; rw [Int.tmod_eq_emod_of_nonneg (by omega)]; omega)) ?_; (with_reducible refine (field_Valid.calls a0 true _ A4.out).mono ?_); rintro e w' ⟨rfl, ⟨nd, rfl⟩⟩; refine ⟨_, rfl, ?_⟩; (try (rw [drewN_self w12]; generalize hq_ : World.drewN w12 _ = w12; have n0_ : Aside0 (w12.heap[gb438]? = some (.cells #[.int .u64 a1_0, .int .u64 a1_1] 30 (0, 0))) := ⟨by rw [← hq_]; exact (by (with_reducible repeat (first | refine blk_drewN ?_ _ | refine blk_drew ?_ | refine blk_alloc ?_ _)); exact BK438.out)⟩; have n1_ : Aside0 (w12.heap[gb439]? = some (.cells #[.int .u64 a2_0, .int .u64 a2_1] 30 (0, 0))) := ⟨by rw [← hq_]; exact (by (with_reducible repeat (first | refine blk_drewN ?_ _ | refine blk_drew ?_ | refine blk_alloc ?_ _)); exact BK439.out)⟩; have n2_ : Aside0 (w12.heap[gb440]? = some (.cells #[.int .u64 0, .int .u64 0] 30 (0, 0))) := ⟨by rw [← hq_]; exact (by (with_reducible repeat (first | refine blk_drewN ?_ _ | refine blk_drew ?_ | refine blk_alloc ?_ _)); exact BK440.out)⟩; have n3_ : Aside0 (Below w.heap.size w w12) := ⟨by rw [← hq_]; exact (by repeat (first | (with_reducible first | exact HB.out | apply below_alloc | apply pw_below_drewN | apply below_drew1 | refine below_set ?_ GE438.out | refine below_set ?_ GE439.out | refine below_set ?_ GE440.out) | exact HB.out))⟩; clear BK438 BK439 BK440 HB hq_; have BK438 := n0_; have BK439 := n1_; have BK440 := n2_; have HB := n3_; clear n0_ n1_ n2_ n3_))) | ((with_reducible refine gate_callee (f := 35) rfl ?_); refine goesL_ (some 15) rfl rfl Tryd.func35 (by kernel_rfl) rfl #[.int .i64 a0] rfl (by (try simp only [List.map_toArray, List.map_cons, List.map_nil]); first | done | rfl | (simp only [List.length_drop, List.length_take]; rfl) | (go_simp; done) | (go_simp; rw [Int.tmod_eq_emod_of_nonneg (by omega)]; omega)) ?_; (with_reducible refine (sponge_in.calls a0 t442 t443 t444 _ ?side1 A6.out).mono ?_); (case side1 => repeat (first | exact (GL.below HRG.out HB.out) | (with_reducible refine GL.alloc ?_ _) | (with_reducible refine GL.drewN ?_ _) | (with_reducible refine GL.drew ?_))); rintro e w13 ⟨rfl, hb⟩; refine ⟨_, rfl, ?_⟩; have n0_ := Aside0.mk (blk_below (g := gb438) (o := .cells #[.int .u64 a1_0, .int .u64 a1_1] 30 (0, 0)) (by (with_reducible repeat (first | refine blk_drewN ?_ _ | refine blk_drew ?_ | refine blk_alloc ?_ _)); exact BK438.out) hb); have n1_ := Aside0.mk (blk_below (g := gb439) (o := .cells #[.int .u64 a2_0, .int .u64 a2_1] 30 (0, 0)) (by (with_reducible repeat (first | refine blk_drewN ?_ _ | refine blk_drew ?_ | refine blk_alloc ?_ _)); exact BK439.out) hb); have n2_ := Aside0.mk (blk_below (g := gb440) (o := .cells #[.int .u64 0, .int .u64 0] 30 (0, 0)) (by (with_reducible repeat (first | refine blk_drewN ?_ _ | refine blk_drew ?_ | refine blk_alloc ?_ _)); exact BK440.out) hb); have n3_ := Aside0.mk (below_step (by repeat (first | (with_reducible first | exact HB.out | apply below_alloc | apply pw_below_drewN | apply below_drew1 | refine below_set ?_ GE438.out | refine below_set ?_ GE439.out | refine below_set ?_ GE440.out) | exact HB.out)) hb); clear BK438; clear BK439; clear BK440; clear HB; have BK438 := n0_; have BK439 := n1_; have BK440 := n2_; have HB := n3_; clear n0_ n1_ n2_ n3_; (try clear hb); (try clear hb2); (try clear hk); (try clear hi)) | ((with_reducible refine gate_dst (N := 7) rfl ?_); refine box_event ?hg (N := 7) ?hd (cs := #[.int .u64 0, .int .u64 0, .bool false]) (t := 45) ?hr ?_; (case hd => rfl); (case hg => rfl); (case hr => first | (go_simp; done) | (go_simp; rfl)); intro gb445 hg w14 hbox hb; have n0_ := Aside0.mk (blk_below (g := gb438) (o := .cells #[.int .u64 a1_0, .int .u64 a1_1] 30 (0, 0)) (by (with_reducible repeat (first | refine blk_drewN ?_ _ | refine blk_drew ?_ | refine blk_alloc ?_ _)); exact BK438.out) hb); have n1_ := Aside0.mk (blk_below (g := gb439) (o := .cells #[.int .u64 a2_0, .int .u64 a2_1] 30 (0, 0)) (by (with_reducible repeat (first | refine blk_drewN ?_ _ | refine blk_drew ?_ | refine blk_alloc ?_ _)); exact BK439.out) hb); have n2_ := Aside0.mk (blk_below (g := gb440) (o := .cells #[.int .u64 0, .int .u64 0] 30 (0, 0)) (by (with_reducible repeat (first | refine blk_drewN ?_ _ | refine blk_drew ?_ | refine blk_alloc ?_ _)); exact BK440.out) hb); have n3_ := Aside0.mk (below_step (by repeat (first | (with_reducible first | exact HB.out | apply below_alloc | apply pw_below_drewN | apply below_drew1 | refine below_set ?_ GE438.out | refine below_set ?_ GE439.out | refine below_set ?_ GE440.out) | exact HB.out)) hb); have n4_ := Aside0.mk (hbox); have n5_ := Aside0.mk ((by rw [hg]; exact (below_size (by repeat (first | (with_reducible first | exact HB.out | apply below_alloc | apply pw_below_drewN | apply below_drew1 | refine below_set ?_ GE438.out | refine below_set ?_ GE439.out | refine below_set ?_ GE440.out) | exact HB.out))) : w.heap.size ≤ gb445)); have n6_ := Aside0.mk ((by rw [hg]; exact (below_size (by repeat (first | (with_reducible first | exact HB.out | apply below_alloc | apply pw_below_drewN | apply below_drew1 | refine below_set ?_ GE438.out | refine below_set ?_ GE439.out | refine below_set ?_ GE440.out) | exact HB.out))) : w.heap.size ≤ gb445)); have n7_ := Aside0.mk ((by rw [hg]; exact Nat.ne_of_lt (blk_lt (g := gb438) (o := .cells #[.int .u64 a1_0, .int .u64 a1_1] 30 (0, 0)) (by (with_reducible repeat (first | refine blk_drewN ?_ _ | refine blk_drew ?_ | refine blk_alloc ?_ _)); exact BK438.out)) : gb438 ≠ gb445)); have n8_ := Aside0.mk ((by rw [hg]; exact Nat.ne_of_gt (blk_lt (g := gb438) (o := .cells #[.int .u64 a1_0, .int .u64 a1_1] 30 (0, 0)) (by (with_reducible repeat (first | refine blk_drewN ?_ _ | refine blk_drew ?_ | refine blk_alloc ?_ _)); exact BK438.out)) : gb445 ≠ gb438)); have n9_ := Aside0.mk ((by rw [hg]; exact Nat.ne_of_lt (blk_lt (g := gb439) (o := .cells #[.int .u64 a2_0, .int .u64 a2_1] 30 (0, 0)) (by (with_reducible repeat (first | refine blk_drewN ?_ _ | refine blk_drew ?_ | refine blk_alloc ?_ _)); exact BK439.out)) : gb439 ≠ gb445)); have n10_ := Aside0.mk ((by rw [hg]; exact Nat.ne_of_gt (blk_lt (g := gb439) (o := .cells #[.int .u64 a2_0, .int .u64 a2_1] 30 (0, 0)) (by (with_reducible repeat (first | refine blk_drewN ?_ _ | refine blk_drew ?_ | refine blk_alloc ?_ _)); exact BK439.out)) : gb445 ≠ gb439)); have n11_ := Aside0.mk ((by rw [hg]; exact Nat.ne_of_lt (blk_lt (g := gb440) (o := .cells #[.int .u64 0, .int .u64 0] 30 (0, 0)) (by (with_reducible repeat (first | refine blk_drewN ?_ _ | refine blk_drew ?_ | refine blk_alloc ?_ _)); exact BK440.out)) : gb440 ≠ gb445)); have n12_ := Aside0.mk ((by rw [hg]; exact Nat.ne_of_gt (blk_lt (g := gb440) (o := .cells #[.int .u64 0, .int .u64 0] 30 (0, 0)) (by (with_reducible repeat (first | refine blk_drewN ?_ _ | refine blk_drew ?_ | refine blk_alloc ?_ _)); exact BK440.out)) : gb445 ≠ gb440)); clear BK438; clear BK439; clear BK440; clear HB; have BK438 := n0_; have BK439 := n1_; have BK440 := n2_; have HB := n3_; have BK445 := n4_; have GW445 := n5_; have GE445 := n6_; have NB438_445 := n7_; have NB445_438 := n8_; have NB439_445 := n9_; have NB445_439 := n10_; have NB440_445 := n11_; have NB445_440 := n12_; clear n0_ n1_ n2_ n3_ n4_ n5_ n6_ n7_ n8_ n9_ n10_ n11_ n12_; clear hb hbox hg; have hnb15 := NB445_438.out; have hnc15 := NB438_445.out; have hnb16 := NB445_439.out; have hnc16 := NB439_445.out; have hnb17 := NB445_440.out; have hnc17 := NB440_445.out; have hcz18_0 : w14.cell? ⟨gb445, 0, none⟩ = some (.int .u64 0) := (blk_cell BK445.out 0).trans rfl; have hcz18_1 : w14.cell? ⟨gb445, 1, none⟩ = some (.int .u64 0) := (blk_cell BK445.out 1).trans rfl; have hcz18_2 : w14.cell? ⟨gb445, 2, none⟩ = some (.bool false) := (blk_cell BK445.out 2).trans rfl; have hfz18_0 := blk_frozen BK445.out 0; have hfz18_1 := blk_frozen BK445.out 1; have hfz18_2 := blk_frozen BK445.out 2; have hnb19 := NB438_439.out; have hnc19 := NB439_438.out; have hnb20 := NB438_440.out; have hnc20 := NB440_438.out; have hcz21_0 : w14.cell? ⟨gb438, 0, none⟩ = some (.int .u64 a1_0) := (blk_cell BK438.out 0).trans rfl; have hcz21_1 : w14.cell? ⟨gb438, 1, none⟩ = some (.int .u64 a1_1) := (blk_cell BK438.out 1).trans rfl; have hfz21_0 := blk_frozen BK438.out 0; have hfz21_1 := blk_frozen BK438.out 1; have hnb22 := NB439_440.out; have hnc22 := NB440_439.out; have hcz23_0 : w14.cell? ⟨gb439, 0, none⟩ = some (.int .u64 a2_0) := (blk_cell BK439.out 0).trans rfl; have hcz23_1 : w14.cell? ⟨gb439, 1, none⟩ = some (.int .u64 a2_1) := (blk_cell BK439.out 1).trans rfl; have hfz23_0 := blk_frozen BK439.out 0; have hfz23_1 := blk_frozen BK439.out 1) | ((with_reducible refine gate_callee (f := 37) rfl ?_); refine goesL_ (some 26) rfl rfl Tryd.func37 (by kernel_rfl) rfl #[.agg #[.int .u64 t442, .int .u64 t443, .bool t444], .agg #[.int .u64 a1_0, .int .u64 a1_1, .int .u64 a2_0, .int .u64 a2_1]] rfl (by (try simp only [List.map_toArray, List.map_cons, List.map_nil]); first | done | rfl | (simp only [List.length_drop, List.length_take]; rfl) | (go_simp; done) | (go_simp; rw [Int.tmod_eq_emod_of_nonneg (by omega)]; omega)) ?_; (with_reducible refine (sponge_mixer_reduced.calls t442 t443 t444 a1_0 a1_1 a2_0 a2_1 t446 t447 t448 t449 _ A7.out).mono ?_); rintro e w24 ⟨rfl, hb⟩; refine ⟨_, rfl, ?_⟩; have n0_ := Aside0.mk (blk_below (g := gb438) (o := .cells #[.int .u64 a1_0, .int .u64 a1_1] 30 (0, 0)) (by (with_reducible repeat (first | refine blk_drewN ?_ _ | refine blk_drew ?_ | refine blk_alloc ?_ _)); refine blk_far ?_ NB438_445.out _; (with_reducible repeat (first | refine blk_drewN ?_ _ | refine blk_drew ?_ | refine blk_alloc ?_ _)); refine blk_far ?_ NB438_445.out _; (with_reducible repeat (first | refine blk_drewN ?_ _ | refine blk_drew ?_ | refine blk_alloc ?_ _)); refine blk_far ?_ NB438_445.out _; (with_reducible repeat (first | refine blk_drewN ?_ _ | refine blk_drew ?_ | refine blk_alloc ?_ _)); exact BK438.out) hb); have n1_ := Aside0.mk (blk_below (g := gb439) (o := .cells #[.int .u64 a2_0, .int .u64 a2_1] 30 (0, 0)) (by (with_reducible repeat (first | refine blk_drewN ?_ _ | refine blk_drew ?_ | refine blk_alloc ?_ _)); refine blk_far ?_ NB439_445.out _; (with_reducible repeat (first | refine blk_drewN ?_ _ | refine blk_drew ?_ | refine blk_alloc ?_ _)); refine blk_far ?_ NB439_445.out _; (with_reducible repeat (first | refine blk_drewN ?_ _ | refine blk_drew ?_ | refine blk_alloc ?_ _)); refine blk_far ?_ NB439_445.out _; (with_reducible repeat (first | refine blk_drewN ?_ _ | refine blk_drew ?_ | refine blk_alloc ?_ _)); exact BK439.out) hb); have n2_ := Aside0.mk (blk_below (g := gb440) (o := .cells #[.int .u64 0, .int .u64 0] 30 (0, 0)) (by (with_reducible repeat (first | refine blk_drewN ?_ _ | refine blk_drew ?_ | refine blk_alloc ?_ _)); refine blk_far ?_ NB440_445.out _; (with_reducible repeat (first | refine blk_drewN ?_ _ | refine blk_drew ?_ | refine blk_alloc ?_ _)); refine blk_far ?_ NB440_445.out _; (with_reducible repeat (first | refine blk_drewN ?_ _ | refine blk_drew ?_ | refine blk_alloc ?_ _)); refine blk_far ?_ NB440_445.out _; (with_reducible repeat (first | refine blk_drewN ?_ _ | refine blk_drew ?_ | refine blk_alloc ?_ _)); exact BK440.out) hb); have n3_ := Aside0.mk (blk_below (g := gb445) (o := .cells #[.int .u64 t442, .int .u64 t443, .bool t444] 45 (0, 0)) (by (with_reducible repeat (first | refine blk_drewN ?_ _ | refine blk_drew ?_ | refine blk_alloc ?_ _)); refine blk_put (cs := #[.int .u64 t442, .int .u64 t443, .bool false]) ?_ 2 _ rfl; (with_reducible repeat (first | refine blk_drewN ?_ _ | refine blk_drew ?_ | refine blk_alloc ?_ _)); refine blk_put (cs := #[.int .u64 t442, .int .u64 0, .bool false]) ?_ 1 _ rfl; (with_reducible repeat (first | refine blk_drewN ?_ _ | refine blk_drew ?_ | refine blk_alloc ?_ _)); refine blk_put (cs := #[.int .u64 0, .int .u64 0, .bool false]) ?_ 0 _ rfl; (with_reducible repeat (first | refine blk_drewN ?_ _ | refine blk_drew ?_ | refine blk_alloc ?_ _)); exact BK445.out) hb); have n4_ := Aside0.mk (below_step (by repeat (first | (with_reducible first | exact HB.out | apply below_alloc | apply pw_below_drewN | apply below_drew1 | refine below_set ?_ GE438.out | refine below_set ?_ GE439.out | refine below_set ?_ GE440.out | refine below_set ?_ GE445.out) | exact HB.out)) hb); clear BK438; clear BK439; clear BK440; clear BK445; clear HB; have BK438 := n0_; have BK439 := n1_; have BK440 := n2_; have BK445 := n3_; have HB := n4_; clear n0_ n1_ n2_ n3_ n4_; (try clear hb); (try clear hb2); (try clear hk); (try clear hi)) | ((with_reducible refine gate_dst (N := 8) rfl ?_); refine box_event ?hg (N := 8) ?hd (cs := #[.int .u64 0, .int .u64 0, .int .u64 0, .int .u64 0]) (t := 23) ?hr ?_; (case hd => rfl); (case hg => rfl); (case hr => first | (go_simp; done) | (go_simp; rfl)); intro gb450 hg w25 hbox hb; have n0_ := Aside0.mk (blk_below (g := gb438) (o := .cells #[.int .u64 a1_0, .int .u64 a1_1] 30 (0, 0)) (by (with_reducible repeat (first | refine blk_drewN ?_ _ | refine blk_drew ?_ | refine blk_alloc ?_ _)); exact BK438.out) hb); have n1_ := Aside0.mk (blk_below (g := gb439) (o := .cells #[.int .u64 a2_0, .int .u64 a2_1] 30 (0, 0)) (by (with_reducible repeat (first | refine blk_drewN ?_ _ | refine blk_drew ?_ | refine blk_alloc ?_ _)); exact BK439.out) hb); have n2_ := Aside0.mk (blk_below (g := gb440) (o := .cells #[.int .u64 0, .int .u64 0] 30 (0, 0)) (by (with_reducible repeat (first | refine blk_drewN ?_ _ | refine blk_drew ?_ | refine blk_alloc ?_ _)); exact BK440.out) hb); have n3_ := Aside0.mk (blk_below (g := gb445) (o := .cells #[.int .u64 t442, .int .u64 t443, .bool t444] 45 (0, 0)) (by (with_reducible repeat (first | refine blk_drewN ?_ _ | refine blk_drew ?_ | refine blk_alloc ?_ _)); exact BK445.out) hb); have n4_ := Aside0.mk (below_step (by repeat (first | (with_reducible first | exact HB.out | apply below_alloc | apply pw_below_drewN | apply below_drew1 | refine below_set ?_ GE438.out | refine below_set ?_ GE439.out | refine below_set ?_ GE440.out | refine below_set ?_ GE445.out) | exact HB.out)) hb); have n5_ := Aside0.mk (hbox); have n6_ := Aside0.mk ((by rw [hg]; exact (below_size (by repeat (first | (with_reducible first | exact HB.out | apply below_alloc | apply pw_below_drewN | apply below_drew1 | refine below_set ?_ GE438.out | refine below_set ?_ GE439.out | refine below_set ?_ GE440.out | refine below_set ?_ GE445.out) | exact HB.out))) : w.heap.size ≤ gb450)); have n7_ := Aside0.mk ((by rw [hg]; exact (below_size (by repeat (first | (with_reducible first | exact HB.out | apply below_alloc | apply pw_below_drewN | apply below_drew1 | refine below_set ?_ GE438.out | refine below_set ?_ GE439.out | refine below_set ?_ GE440.out | refine below_set ?_ GE445.out) | exact HB.out))) : w.heap.size ≤ gb450)); have n8_ := Aside0.mk ((by rw [hg]; exact Nat.ne_of_lt (blk_lt (g := gb438) (o := .cells #[.int .u64 a1_0, .int .u64 a1_1] 30 (0, 0)) (by (with_reducible repeat (first | refine blk_drewN ?_ _ | refine blk_drew ?_ | refine blk_alloc ?_ _)); exact BK438.out)) : gb438 ≠ gb450)); have n9_ := Aside0.mk ((by rw [hg]; exact Nat.ne_of_gt (blk_lt (g := gb438) (o := .cells #[.int .u64 a1_0, .int .u64 a1_1] 30 (0, 0)) (by (with_reducible repeat (first | refine blk_drewN ?_ _ | refine blk_drew ?_ | refine blk_alloc ?_ _)); exact BK438.out)) : gb450 ≠ gb438)); have n10_ := Aside0.mk ((by rw [hg]; exact Nat.ne_of_lt (blk_lt (g := gb439) (o := .cells #[.int .u64 a2_0, .int .u64 a2_1] 30 (0, 0)) (by (with_reducible repeat (first | refine blk_drewN ?_ _ | refine blk_drew ?_ | refine blk_alloc ?_ _)); exact BK439.out)) : gb439 ≠ gb450)); have n11_ := Aside0.mk ((by rw [hg]; exact Nat.ne_of_gt (blk_lt (g := gb439) (o := .cells #[.int .u64 a2_0, .int .u64 a2_1] 30 (0, 0)) (by (with_reducible repeat (first | refine blk_drewN ?_ _ | refine blk_drew ?_ | refine blk_alloc ?_ _)); exact BK439.out)) : gb450 ≠ gb439)); have n12_ := Aside0.mk ((by rw [hg]; exact Nat.ne_of_lt (blk_lt (g := gb440) (o := .cells #[.int .u64 0, .int .u64 0] 30 (0, 0)) (by (with_reducible repeat (first | refine blk_drewN ?_ _ | refine blk_drew ?_ | refine blk_alloc ?_ _)); exact BK440.out)) : gb440 ≠ gb450)); have n13_ := Aside0.mk ((by rw [hg]; exact Nat.ne_of_gt (blk_lt (g := gb440) (o := .cells #[.int .u64 0, .int .u64 0] 30 (0, 0)) (by (with_reducible repeat (first | refine blk_drewN ?_ _ | refine blk_drew ?_ | refine blk_alloc ?_ _)); exact BK440.out)) : gb450 ≠ gb440)); have n14_ := Aside0.mk ((by rw [hg]; exact Nat.ne_of_lt (blk_lt (g := gb445) (o := .cells #[.int .u64 t442, .int .u64 t443, .bool t444] 45 (0, 0)) (by (with_reducible repeat (first | refine blk_drewN ?_ _ | refine blk_drew ?_ | refine blk_alloc ?_ _)); exact BK445.out)) : gb445 ≠ gb450)); have n15_ := Aside0.mk ((by rw [hg]; exact Nat.ne_of_gt (blk_lt (g := gb445) (o := .cells #[.int .u64 t442, .int .u64 t443, .bool t444] 45 (0, 0)) (by (with_reducible repeat (first | refine blk_drewN ?_ _ | refine blk_drew ?_ | refine blk_alloc ?_ _)); exact BK445.out)) : gb450 ≠ gb445)); clear BK438; clear BK439; clear BK440; clear BK445; clear HB; have BK438 := n0_; have BK439 := n1_; have BK440 := n2_; have BK445 := n3_; have HB := n4_; have BK450 := n5_; have GW450 := n6_; have GE450 := n7_; have NB438_450 := n8_; have NB450_438 := n9_; have NB439_450 := n10_; have NB450_439 := n11_; have NB440_450 := n12_; have NB450_440 := n13_; have NB445_450 := n14_; have NB450_445 := n15_; clear n0_ n1_ n2_ n3_ n4_ n5_ n6_ n7_ n8_ n9_ n10_ n11_ n12_ n13_ n14_ n15_; clear hb hbox hg; have hnb26 := NB450_438.out; have hnc26 := NB438_450.out; have hnb27 := NB450_439.out; have hnc27 := NB439_450.out; have hnb28 := NB450_440.out; have hnc28 := NB440_450.out; have hnb29 := NB450_445.out; have hnc29 := NB445_450.out; have hcz30_0 : w25.cell? ⟨gb450, 0, none⟩ = some (.int .u64 0) := (blk_cell BK450.out 0).trans rfl; have hcz30_1 : w25.cell? ⟨gb450, 1, none⟩ = some (.int .u64 0) := (blk_cell BK450.out 1).trans rfl; have hcz30_2 : w25.cell? ⟨gb450, 2, none⟩ = some (.int .u64 0) := (blk_cell BK450.out 2).trans rfl; have hcz30_3 : w25.cell? ⟨gb450, 3, none⟩ = some (.int .u64 0) := (blk_cell BK450.out 3).trans rfl; have hfz30_0 := blk_frozen BK450.out 0; have hfz30_1 := blk_frozen BK450.out 1; have hfz30_2 := blk_frozen BK450.out 2; have hfz30_3 := blk_frozen BK450.out 3; have hcz31_0 : w25.cell? ⟨gb445, 0, none⟩ = some (.int .u64 t442) := (blk_cell BK445.out 0).trans rfl; have hcz31_1 : w25.cell? ⟨gb445, 1, none⟩ = some (.int .u64 t443) := (blk_cell BK445.out 1).trans rfl; have hcz31_2 : w25.cell? ⟨gb445, 2, none⟩ = some (.bool t444) := (blk_cell BK445.out 2).trans rfl; have hfz31_0 := blk_frozen BK445.out 0; have hfz31_1 := blk_frozen BK445.out 1; have hfz31_2 := blk_frozen BK445.out 2) | ((with_reducible refine gate_callee (f := 42) rfl ?_); refine goesL_ (some 29) rfl rfl Tryd.func42 (by kernel_rfl) rfl #[.agg #[.int .u64 t442, .int .u64 t443, .bool t444], .agg #[.int .u64 t446, .int .u64 t447, .int .u64 t448, .int .u64 t449]] rfl (by (try simp only [List.map_toArray, List.map_cons, List.map_nil]); first | done | rfl | (simp only [List.length_drop, List.length_take]; rfl) | (go_simp; done) | (go_simp; rw [Int.tmod_eq_emod_of_nonneg (by omega)]; omega)) ?_; (with_reducible refine (sponge_mixer_perm.calls t442 t443 t444 t446 t447 t448 t449 t451 t452 t453 t454 _ A8.out).mono ?_); rintro e w32 ⟨rfl, hb⟩; refine ⟨_, rfl, ?_⟩; have n0_ := Aside0.mk (blk_below (g := gb438) (o := .cells #[.int .u64 a1_0, .int .u64 a1_1] 30 (0, 0)) (by (with_reducible repeat (first | refine blk_drewN ?_ _ | refine blk_drew ?_ | refine blk_alloc ?_ _)); refine blk_far ?_ NB438_450.out _; (with_reducible repeat (first | refine blk_drewN ?_ _ | refine blk_drew ?_ | refine blk_alloc ?_ _)); refine blk_far ?_ NB438_450.out _; (with_reducible repeat (first | refine blk_drewN ?_ _ | refine blk_drew ?_ | refine blk_alloc ?_ _)); refine blk_far ?_ NB438_450.out _; (with_reducible repeat (first | refine blk_drewN ?_ _ | refine blk_drew ?_ | refine blk_alloc ?_ _)); refine blk_far ?_ NB438_450.out _; (with_reducible repeat (first | refine blk_drewN ?_ _ | refine blk_drew ?_ | refine blk_alloc ?_ _)); exact BK438.out) hb); have n1_ := Aside0.mk (blk_below (g := gb439) (o := .cells #[.int .u64 a2_0, .int .u64 a2_1] 30 (0, 0)) (by (with_reducible repeat (first | refine blk_drewN ?_ _ | refine blk_drew ?_ | refine blk_alloc ?_ _)); refine blk_far ?_ NB439_450.out _; (with_reducible repeat (first | refine blk_drewN ?_ _ | refine blk_drew ?_ | refine blk_alloc ?_ _)); refine blk_far ?_ NB439_450.out _; (with_reducible repeat (first | refine blk_drewN ?_ _ | refine blk_drew ?_ | refine blk_alloc ?_ _)); refine blk_far ?_ NB439_450.out _; (with_reducible repeat (first | refine blk_drewN ?_ _ | refine blk_drew ?_ | refine blk_alloc ?_ _)); refine blk_far ?_ NB439_450.out _; (with_reducible repeat (first | refine blk_drewN ?_ _ | refine blk_drew ?_ | refine blk_alloc ?_ _)); exact BK439.out) hb); have n2_ := Aside0.mk (blk_below (g := gb440) (o := .cells #[.int .u64 0, .int .u64 0] 30 (0, 0)) (by (with_reducible repeat (first | refine blk_drewN ?_ _ | refine blk_drew ?_ | refine blk_alloc ?_ _)); refine blk_far ?_ NB440_450.out _; (with_reducible repeat (first | refine blk_drewN ?_ _ | refine blk_drew ?_ | refine blk_alloc ?_ _)); refine blk_far ?_ NB440_450.out _; (with_reducible repeat (first | refine blk_drewN ?_ _ | refine blk_drew ?_ | refine blk_alloc ?_ _)); refine blk_far ?_ NB440_450.out _; (with_reducible repeat (first | refine blk_drewN ?_ _ | refine blk_drew ?_ | refine blk_alloc ?_ _)); refine blk_far ?_ NB440_450.out _; (with_reducible repeat (first | refine blk_drewN ?_ _ | refine blk_drew ?_ | refine blk_alloc ?_ _)); exact BK440.out) hb); have n3_ := Aside0.mk (blk_below (g := gb445) (o := .cells #[.int .u64 t442, .int .u64 t443, .bool t444] 45 (0, 0)) (by (with_reducible repeat (first | refine blk_drewN ?_ _ | refine blk_drew ?_ | refine blk_alloc ?_ _)); refine blk_far ?_ NB445_450.out _; (with_reducible repeat (first | refine blk_drewN ?_ _ | refine blk_drew ?_ | refine blk_alloc ?_ _)); refine blk_far ?_ NB445_450.out _; (with_reducible repeat (first | refine blk_drewN ?_ _ | refine blk_drew ?_ | refine blk_alloc ?_ _)); refine blk_far ?_ NB445_450.out _; (with_reducible repeat (first | refine blk_drewN ?_ _ | refine blk_drew ?_ | refine blk_alloc ?_ _)); refine blk_far ?_ NB445_450.out _; (with_reducible repeat (first | refine blk_drewN ?_ _ | refine blk_drew ?_ | refine blk_alloc ?_ _)); exact BK445.out) hb); have n4_ := Aside0.mk (blk_below (g := gb450) (o := .cells #[.int .u64 t446, .int .u64 t447, .int .u64 t448, .int .u64 t449] 23 (0, 0)) (by (with_reducible repeat (first | refine blk_drewN ?_ _ | refine blk_drew ?_ | refine blk_alloc ?_ _)); refine blk_put (cs := #[.int .u64 t446, .int .u64 t447, .int .u64 t448, .int .u64 0]) ?_ 3 _ rfl; (with_reducible repeat (first | refine blk_drewN ?_ _ | refine blk_drew ?_ | refine blk_alloc ?_ _)); refine blk_put (cs := #[.int .u64 t446, .int .u64 t447, .int .u64 0, .int .u64 0]) ?_ 2 _ rfl; (with_reducible repeat (first | refine blk_drewN ?_ _ | refine blk_drew ?_ | refine blk_alloc ?_ _)); refine blk_put (cs := #[.int .u64 t446, .int .u64 0, .int .u64 0, .int .u64 0]) ?_ 1 _ rfl; (with_reducible repeat (first | refine blk_drewN ?_ _ | refine blk_drew ?_ | refine blk_alloc ?_ _)); refine blk_put (cs := #[.int .u64 0, .int .u64 0, .int .u64 0, .int .u64 0]) ?_ 0 _ rfl; (with_reducible repeat (first | refine blk_drewN ?_ _ | refine blk_drew ?_ | refine blk_alloc ?_ _)); exact BK450.out) hb); have n5_ := Aside0.mk (below_step (by repeat (first | (with_reducible first | exact HB.out | apply below_alloc | apply pw_below_drewN | apply below_drew1 | refine below_set ?_ GE438.out | refine below_set ?_ GE439.out | refine below_set ?_ GE440.out | refine below_set ?_ GE445.out | refine below_set ?_ GE450.out) | exact HB.out)) hb); clear BK438; clear BK439; clear BK440; clear BK445; clear BK450; clear HB; have BK438 := n0_; have BK439 := n1_; have BK440 := n2_; have BK445 := n3_; have BK450 := n4_; have HB := n5_; clear n0_ n1_ n2_ n3_ n4_ n5_; (try clear hb); (try clear hb2); (try clear hk); (try clear hi)) | ((with_reducible refine gate_dst (N := 9) rfl ?_); refine box_event ?hg (N := 9) ?hd (cs := #[.int .u64 0, .int .u64 0, .int .u64 0, .int .u64 0]) (t := 23) ?hr ?_; (case hd => rfl); (case hg => rfl); (case hr => first | (go_simp; done) | (go_simp; rfl)); intro gb455 hg w33 hbox hb; have n0_ := Aside0.mk (blk_below (g := gb438) (o := .cells #[.int .u64 a1_0, .int .u64 a1_1] 30 (0, 0)) (by (with_reducible repeat (first | refine blk_drewN ?_ _ | refine blk_drew ?_ | refine blk_alloc ?_ _)); exact BK438.out) hb); have n1_ := Aside0.mk (blk_below (g := gb439) (o := .cells #[.int .u64 a2_0, .int .u64 a2_1] 30 (0, 0)) (by (with_reducible repeat (first | refine blk_drewN ?_ _ | refine blk_drew ?_ | refine blk_alloc ?_ _)); exact BK439.out) hb); have n2_ := Aside0.mk (blk_below (g := gb440) (o := .cells #[.int .u64 0, .int .u64 0] 30 (0, 0)) (by (with_reducible repeat (first | refine blk_drewN ?_ _ | refine blk_drew ?_ | refine blk_alloc ?_ _)); exact BK440.out) hb); have n3_ := Aside0.mk (blk_below (g := gb445) (o := .cells #[.int .u64 t442, .int .u64 t443, .bool t444] 45 (0, 0)) (by (with_reducible repeat (first | refine blk_drewN ?_ _ | refine blk_drew ?_ | refine blk_alloc ?_ _)); exact BK445.out) hb); have n4_ := Aside0.mk (blk_below (g := gb450) (o := .cells #[.int .u64 t446, .int .u64 t447, .int .u64 t448, .int .u64 t449] 23 (0, 0)) (by (with_reducible repeat (first | refine blk_drewN ?_ _ | refine blk_drew ?_ | refine blk_alloc ?_ _)); exact BK450.out) hb); have n5_ := Aside0.mk (below_step (by repeat (first | (with_reducible first | exact HB.out | apply below_alloc | apply pw_below_drewN | apply below_drew1 | refine below_set ?_ GE438.out | refine below_set ?_ GE439.out | refine below_set ?_ GE440.out | refine below_set ?_ GE445.out | refine below_set ?_ GE450.out) | exact HB.out)) hb); have n6_ := Aside0.mk (hbox); have n7_ := Aside0.mk ((by rw [hg]; exact (below_size (by repeat (first | (with_reducible first | exact HB.out | apply below_alloc | apply pw_below_drewN | apply below_drew1 | refine below_set ?_ GE438.out | refine below_set ?_ GE439.out | refine below_set ?_ GE440.out | refine below_set ?_ GE445.out | refine below_set ?_ GE450.out) | exact HB.out))) : w.heap.size ≤ gb455)); have n8_ := Aside0.mk ((by rw [hg]; exact (below_size (by repeat (first | (with_reducible first | exact HB.out | apply below_alloc | apply pw_below_drewN | apply below_drew1 | refine below_set ?_ GE438.out | refine below_set ?_ GE439.out | refine below_set ?_ GE440.out | refine below_set ?_ GE445.out | refine below_set ?_ GE450.out) | exact HB.out))) : w.heap.size ≤ gb455)); have n9_ := Aside0.mk ((by rw [hg]; exact Nat.ne_of_lt (blk_lt (g := gb438) (o := .cells #[.int .u64 a1_0, .int .u64 a1_1] 30 (0, 0)) (by (with_reducible repeat (first | refine blk_drewN ?_ _ | refine blk_drew ?_ | refine blk_alloc ?_ _)); exact BK438.out)) : gb438 ≠ gb455)); have n10_ := Aside0.mk ((by rw [hg]; exact Nat.ne_of_gt (blk_lt (g := gb438) (o := .cells #[.int .u64 a1_0, .int .u64 a1_1] 30 (0, 0)) (by (with_reducible repeat (first | refine blk_drewN ?_ _ | refine blk_drew ?_ | refine blk_alloc ?_ _)); exact BK438.out)) : gb455 ≠ gb438)); have n11_ := Aside0.mk ((by rw [hg]; exact Nat.ne_of_lt (blk_lt (g := gb439) (o := .cells #[.int .u64 a2_0, .int .u64 a2_1] 30 (0, 0)) (by (with_reducible repeat (first | refine blk_drewN ?_ _ | refine blk_drew ?_ | refine blk_alloc ?_ _)); exact BK439.out)) : gb439 ≠ gb455)); have n12_ := Aside0.mk ((by rw [hg]; exact Nat.ne_of_gt (blk_lt (g := gb439) (o := .cells #[.int .u64 a2_0, .int .u64 a2_1] 30 (0, 0)) (by (with_reducible repeat (first | refine blk_drewN ?_ _ | refine blk_drew ?_ | refine blk_alloc ?_ _)); exact BK439.out)) : gb455 ≠ gb439)); have n13_ := Aside0.mk ((by rw [hg]; exact Nat.ne_of_lt (blk_lt (g := gb440) (o := .cells #[.int .u64 0, .int .u64 0] 30 (0, 0)) (by (with_reducible repeat (first | refine blk_drewN ?_ _ | refine blk_drew ?_ | refine blk_alloc ?_ _)); exact BK440.out)) : gb440 ≠ gb455)); have n14_ := Aside0.mk ((by rw [hg]; exact Nat.ne_of_gt (blk_lt (g := gb440) (o := .cells #[.int .u64 0, .int .u64 0] 30 (0, 0)) (by (with_reducible repeat (first | refine blk_drewN ?_ _ | refine blk_drew ?_ | refine blk_alloc ?_ _)); exact BK440.out)) : gb455 ≠ gb440)); have n15_ := Aside0.mk ((by rw [hg]; exact Nat.ne_of_lt (blk_lt (g := gb445) (o := .cells #[.int .u64 t442, .int .u64 t443, .bool t444] 45 (0, 0)) (by (with_reducible repeat (first | refine blk_drewN ?_ _ | refine blk_drew ?_ | refine blk_alloc ?_ _)); exact BK445.out)) : gb445 ≠ gb455)); have n16_ := Aside0.mk ((by rw [hg]; exact Nat.ne_of_gt (blk_lt (g := gb445) (o := .cells #[.int .u64 t442, .int .u64 t443, .bool t444] 45 (0, 0)) (by (with_reducible repeat (first | refine blk_drewN ?_ _ | refine blk_drew ?_ | refine blk_alloc ?_ _)); exact BK445.out)) : gb455 ≠ gb445)); have n17_ := Aside0.mk ((by rw [hg]; exact Nat.ne_of_lt (blk_lt (g := gb450) (o := .cells #[.int .u64 t446, .int .u64 t447, .int .u64 t448, .int .u64 t449] 23 (0, 0)) (by (with_reducible repeat (first | refine blk_drewN ?_ _ | refine blk_drew ?_ | refine blk_alloc ?_ _)); exact BK450.out)) : gb450 ≠ gb455)); have n18_ := Aside0.mk ((by rw [hg]; exact Nat.ne_of_gt (blk_lt (g := gb450) (o := .cells #[.int .u64 t446, .int .u64 t447, .int .u64 t448, .int .u64 t449] 23 (0, 0)) (by (with_reducible repeat (first | refine blk_drewN ?_ _ | refine blk_drew ?_ | refine blk_alloc ?_ _)); exact BK450.out)) : gb455 ≠ gb450)); clear BK438; clear BK439; clear BK440; clear BK445; clear BK450; clear HB; have BK438 := n0_; have BK439 := n1_; have BK440 := n2_; have BK445 := n3_; have BK450 := n4_; have HB := n5_; have BK455 := n6_; have GW455 := n7_; have GE455 := n8_; have NB438_455 := n9_; have NB455_438 := n10_; have NB439_455 := n11_; have NB455_439 := n12_; have NB440_455 := n13_; have NB455_440 := n14_; have NB445_455 := n15_; have NB455_445 := n16_; have NB450_455 := n17_; have NB455_450 := n18_; clear n0_ n1_ n2_ n3_ n4_ n5_ n6_ n7_ n8_ n9_ n10_ n11_ n12_ n13_ n14_ n15_ n16_ n17_ n18_; clear hb hbox hg; have hnb34 := NB455_438.out; have hnc34 := NB438_455.out; have hnb35 := NB455_439.out; have hnc35 := NB439_455.out; have hnb36 := NB455_440.out; have hnc36 := NB440_455.out; have hnb37 := NB455_445.out; have hnc37 := NB445_455.out; have hnb38 := NB455_450.out; have hnc38 := NB450_455.out; have hcz39_0 : w33.cell? ⟨gb455, 0, none⟩ = some (.int .u64 0) := (blk_cell BK455.out 0).trans rfl; have hcz39_1 : w33.cell? ⟨gb455, 1, none⟩ = some (.int .u64 0) := (blk_cell BK455.out 1).trans rfl; have hcz39_2 : w33.cell? ⟨gb455, 2, none⟩ = some (.int .u64 0) := (blk_cell BK455.out 2).trans rfl; have hcz39_3 : w33.cell? ⟨gb455, 3, none⟩ = some (.int .u64 0) := (blk_cell BK455.out 3).trans rfl; have hfz39_0 := blk_frozen BK455.out 0; have hfz39_1 := blk_frozen BK455.out 1; have hfz39_2 := blk_frozen BK455.out 2; have hfz39_3 := blk_frozen BK455.out 3))
      have n0_ : Aside0 (((((w33.setCell ⟨gb455, 0, none⟩ (.int .u64 t451)).setCell ⟨gb455, 1, none⟩ (.int .u64 t452)).setCell ⟨gb455, 2, none⟩ (.int .u64 t453)).setCell ⟨gb455, 3, none⟩ (.int .u64 t454)).heap[gb438]? = some (.cells #[.int .u64 a1_0, .int .u64 a1_1] 30 (0, 0))) := ⟨by (with_reducible repeat (first | refine blk_drewN ?_ _ | refine blk_drew ?_ | refine blk_alloc ?_ _)); refine blk_far ?_ NB438_455.out _; (with_reducible repeat (first | refine blk_drewN ?_ _ | refine blk_drew ?_ | refine blk_alloc ?_ _)); refine blk_far ?_ NB438_455.out _; (with_reducible repeat (first | refine blk_drewN ?_ _ | refine blk_drew ?_ | refine blk_alloc ?_ _)); refine blk_far ?_ NB438_455.out _; (with_reducible repeat (first | refine blk_drewN ?_ _ | refine blk_drew ?_ | refine blk_alloc ?_ _)); refine blk_far ?_ NB438_455.out _; (with_reducible repeat (first | refine blk_drewN ?_ _ | refine blk_drew ?_ | refine blk_alloc ?_ _)); exact BK438.out⟩
      have n1_ : Aside0 (((((w33.setCell ⟨gb455, 0, none⟩ (.int .u64 t451)).setCell ⟨gb455, 1, none⟩ (.int .u64 t452)).setCell ⟨gb455, 2, none⟩ (.int .u64 t453)).setCell ⟨gb455, 3, none⟩ (.int .u64 t454)).heap[gb439]? = some (.cells #[.int .u64 a2_0, .int .u64 a2_1] 30 (0, 0))) := ⟨by (with_reducible repeat (first | refine blk_drewN ?_ _ | refine blk_drew ?_ | refine blk_alloc ?_ _)); refine blk_far ?_ NB439_455.out _; (with_reducible repeat (first | refine blk_drewN ?_ _ | refine blk_drew ?_ | refine blk_alloc ?_ _)); refine blk_far ?_ NB439_455.out _; (with_reducible repeat (first | refine blk_drewN ?_ _ | refine blk_drew ?_ | refine blk_alloc ?_ _)); refine blk_far ?_ NB439_455.out _; (with_reducible repeat (first | refine blk_drewN ?_ _ | refine blk_drew ?_ | refine blk_alloc ?_ _)); refine blk_far ?_ NB439_455.out _; (with_reducible repeat (first | refine blk_drewN ?_ _ | refine blk_drew ?_ | refine blk_alloc ?_ _)); exact BK439.out⟩
      have n2_ : Aside0 (((((w33.setCell ⟨gb455, 0, none⟩ (.int .u64 t451)).setCell ⟨gb455, 1, none⟩ (.int .u64 t452)).setCell ⟨gb455, 2, none⟩ (.int .u64 t453)).setCell ⟨gb455, 3, none⟩ (.int .u64 t454)).heap[gb440]? = some (.cells #[.int .u64 0, .int .u64 0] 30 (0, 0))) := ⟨by (with_reducible repeat (first | refine blk_drewN ?_ _ | refine blk_drew ?_ | refine blk_alloc ?_ _)); refine blk_far ?_ NB440_455.out _; (with_reducible repeat (first | refine blk_drewN ?_ _ | refine blk_drew ?_ | refine blk_alloc ?_ _)); refine blk_far ?_ NB440_455.out _; (with_reducible repeat (first | refine blk_drewN ?_ _ | refine blk_drew ?_ | refine blk_alloc ?_ _)); refine blk_far ?_ NB440_455.out _; (with_reducible repeat (first | refine blk_drewN ?_ _ | refine blk_drew ?_ | refine blk_alloc ?_ _)); refine blk_far ?_ NB440_455.out _; (with_reducible repeat (first | refine blk_drewN ?_ _ | refine blk_drew ?_ | refine blk_alloc ?_ _)); exact BK440.out⟩
      have n3_ : Aside0 (((((w33.setCell ⟨gb455, 0, none⟩ (.int .u64 t451)).setCell ⟨gb455, 1, none⟩ (.int .u64 t452)).setCell ⟨gb455, 2, none⟩ (.int .u64 t453)).setCell ⟨gb455, 3, none⟩ (.int .u64 t454)).heap[gb445]? = some (.cells #[.int .u64 t442, .int .u64 t443, .bool t444] 45 (0, 0))) := ⟨by (with_reducible repeat (first | refine blk_drewN ?_ _ | refine blk_drew ?_ | refine blk_alloc ?_ _)); refine blk_far ?_ NB445_455.out _; (with_reducible repeat (first | refine blk_drewN ?_ _ | refine blk_drew ?_ | refine blk_alloc ?_ _)); refine blk_far ?_ NB445_455.out _; (with_reducible repeat (first | refine blk_drewN ?_ _ | refine blk_drew ?_ | refine blk_alloc ?_ _)); refine blk_far ?_ NB445_455.out _; (with_reducible repeat (first | refine blk_drewN ?_ _ | refine blk_drew ?_ | refine blk_alloc ?_ _)); refine blk_far ?_ NB445_455.out _; (with_reducible repeat (first | refine blk_drewN ?_ _ | refine blk_drew ?_ | refine blk_alloc ?_ _)); exact BK445.out⟩
      have n4_ : Aside0 (((((w33.setCell ⟨gb455, 0, none⟩ (.int .u64 t451)).setCell ⟨gb455, 1, none⟩ (.int .u64 t452)).setCell ⟨gb455, 2, none⟩ (.int .u64 t453)).setCell ⟨gb455, 3, none⟩ (.int .u64 t454)).heap[gb450]? = some (.cells #[.int .u64 t446, .int .u64 t447, .int .u64 t448, .int .u64 t449] 23 (0, 0))) := ⟨by (with_reducible repeat (first | refine blk_drewN ?_ _ | refine blk_drew ?_ | refine blk_alloc ?_ _)); refine blk_far ?_ NB450_455.out _; (with_reducible repeat (first | refine blk_drewN ?_ _ | refine blk_drew ?_ | refine blk_alloc ?_ _)); refine blk_far ?_ NB450_455.out _; (with_reducible repeat (first | refine blk_drewN ?_ _ | refine blk_drew ?_ | refine blk_alloc ?_ _)); refine blk_far ?_ NB450_455.out _; (with_reducible repeat (first | refine blk_drewN ?_ _ | refine blk_drew ?_ | refine blk_alloc ?_ _)); refine blk_far ?_ NB450_455.out _; (with_reducible repeat (first | refine blk_drewN ?_ _ | refine blk_drew ?_ | refine blk_alloc ?_ _)); exact BK450.out⟩
      have n5_ : Aside0 (((((w33.setCell ⟨gb455, 0, none⟩ (.int .u64 t451)).setCell ⟨gb455, 1, none⟩ (.int .u64 t452)).setCell ⟨gb455, 2, none⟩ (.int .u64 t453)).setCell ⟨gb455, 3, none⟩ (.int .u64 t454)).heap[gb455]? = some (.cells #[.int .u64 t451, .int .u64 t452, .int .u64 t453, .int .u64 t454] 23 (0, 0))) := ⟨by (with_reducible repeat (first | refine blk_drewN ?_ _ | refine blk_drew ?_ | refine blk_alloc ?_ _)); refine blk_put (cs := #[.int .u64 t451, .int .u64 t452, .int .u64 t453, .int .u64 0]) ?_ 3 _ rfl; (with_reducible repeat (first | refine blk_drewN ?_ _ | refine blk_drew ?_ | refine blk_alloc ?_ _)); refine blk_put (cs := #[.int .u64 t451, .int .u64 t452, .int .u64 0, .int .u64 0]) ?_ 2 _ rfl; (with_reducible repeat (first | refine blk_drewN ?_ _ | refine blk_drew ?_ | refine blk_alloc ?_ _)); refine blk_put (cs := #[.int .u64 t451, .int .u64 0, .int .u64 0, .int .u64 0]) ?_ 1 _ rfl; (with_reducible repeat (first | refine blk_drewN ?_ _ | refine blk_drew ?_ | refine blk_alloc ?_ _)); refine blk_put (cs := #[.int .u64 0, .int .u64 0, .int .u64 0, .int .u64 0]) ?_ 0 _ rfl; (with_reducible repeat (first | refine blk_drewN ?_ _ | refine blk_drew ?_ | refine blk_alloc ?_ _)); exact BK455.out⟩
      have n6_ : Aside0 (Below w.heap.size w ((((w33.setCell ⟨gb455, 0, none⟩ (.int .u64 t451)).setCell ⟨gb455, 1, none⟩ (.int .u64 t452)).setCell ⟨gb455, 2, none⟩ (.int .u64 t453)).setCell ⟨gb455, 3, none⟩ (.int .u64 t454))) := ⟨by repeat (first | (with_reducible first | exact HB.out | apply below_alloc | apply pw_below_drewN | apply below_drew1 | refine below_set ?_ GE438.out | refine below_set ?_ GE439.out | refine below_set ?_ GE440.out | refine below_set ?_ GE445.out | refine below_set ?_ GE450.out | refine below_set ?_ GE455.out) | exact HB.out)⟩
      (try clear BK438)
      (try clear BK439)
      (try clear BK440)
      (try clear BK445)
      (try clear BK450)
      (try clear BK455)
      (try clear HB)
      generalize ((((w33.setCell ⟨gb455, 0, none⟩ (.int .u64 t451)).setCell ⟨gb455, 1, none⟩ (.int .u64 t452)).setCell ⟨gb455, 2, none⟩ (.int .u64 t453)).setCell ⟨gb455, 3, none⟩ (.int .u64 t454)) = w40 at n0_ n1_ n2_ n3_ n4_ n5_ n6_ ⊢
      have BK438 := n0_
      have BK439 := n1_
      have BK440 := n2_
      have BK445 := n3_
      have BK450 := n4_
      have BK455 := n5_
      have HB := n6_
      clear n0_ n1_ n2_ n3_ n4_ n5_ n6_
      have n0_ := Aside0.mk (blk_drew BK438.out)
      have n1_ := Aside0.mk (blk_drew BK439.out)
      have n2_ := Aside0.mk (blk_drew BK440.out)
      have n3_ := Aside0.mk (blk_drew BK445.out)
      have n4_ := Aside0.mk (blk_drew BK450.out)
      have n5_ := Aside0.mk (blk_drew BK455.out)
      have n6_ := Aside0.mk (below_drew1 HB.out)
      clear BK438
      clear BK439
      clear BK440
      clear BK445
      clear BK450
      clear BK455
      clear HB
      have BK438 := n0_
      have BK439 := n1_
      have BK440 := n2_
      have BK445 := n3_
      have BK450 := n4_
      have BK455 := n5_
      have HB := n6_
      clear n0_ n1_ n2_ n3_ n4_ n5_ n6_
      refine start_ (n := 18) (S := fun w' => w'.cell? ⟨gb455, 0, none⟩ = some (.int .u64 t451) ∧ w'.cell? ⟨gb455, 1, none⟩ = some (.int .u64 t452) ∧ w'.cell? ⟨gb455, 2, none⟩ = some (.int .u64 t453) ∧ w'.cell? ⟨gb455, 3, none⟩ = some (.int .u64 t454) ∧ w'.cell? ⟨gb450, 0, none⟩ = some (.int .u64 t446) ∧ w'.cell? ⟨gb450, 1, none⟩ = some (.int .u64 t447) ∧ w'.cell? ⟨gb450, 2, none⟩ = some (.int .u64 t448) ∧ w'.cell? ⟨gb450, 3, none⟩ = some (.int .u64 t449) ∧ w'.cell? ⟨gb445, 0, none⟩ = some (.int .u64 t442) ∧ w'.cell? ⟨gb445, 1, none⟩ = some (.int .u64 t443) ∧ w'.cell? ⟨gb445, 2, none⟩ = some (.bool t444)) (ds := []) #[false, false, false, false, false, false, false, false, false, false, false, false, false, false, false, false, false, false] (by kernel_rfl) rfl rfl ⟨(blk_cell BK455.out 0).trans rfl, (blk_cell BK455.out 1).trans rfl, (blk_cell BK455.out 2).trans rfl, (blk_cell BK455.out 3).trans rfl, (blk_cell BK450.out 0).trans rfl, (blk_cell BK450.out 1).trans rfl, (blk_cell BK450.out 2).trans rfl, (blk_cell BK450.out 3).trans rfl, (blk_cell BK445.out 0).trans rfl, (blk_cell BK445.out 1).trans rfl, (blk_cell BK445.out 2).trans rfl⟩ (fun hHeld => ?_); refine with_tabW sponge_Node.tab6 sponge_Node.bits6 (fun HT_ HW_ => ?_)
      generalize w40.drew = w41 at BK438 BK439 BK440 BK445 BK450 BK455 HB hHeld ⊢
      refine pure_ (i := 0) (N := some 30) (v := ?_) (a' := ?_) #[true, false, false, false, false, false, false, false, false, false, false, false, false, false, false, false, false, false] rfl rfl (any_of HT_.out (by kernel_rfl)) (fun _ _ _ h => h) (Or.inl ⟨by rfl, ?_⟩) ?_ ?_
      rotate_left
      · intro w'
        go_simp
        with_reducible rfl
      rotate_left
      · simp only [Act.put, List.setIfInBounds_toArray, List.set_cons_zero, List.set_cons_succ, i64_w, i32_w]
        rfl
      refine pure_ (i := 2) (N := some 32) (v := ?_) (a' := ?_) #[true, false, true, false, false, false, false, false, false, false, false, false, false, false, false, false, false, false] rfl rfl (any_of HT_.out (by kernel_rfl)) (fun _ _ _ h => h) (Or.inl ⟨by rfl, ?_⟩) ?_ ?_
      rotate_left
      · intro w'
        go_simp
        with_reducible rfl
      rotate_left
      · simp only [Act.put, List.setIfInBounds_toArray, List.set_cons_zero, List.set_cons_succ, i64_w, i32_w]
        rfl
      refine pure_ (i := 5) (N := some 35) (v := ?_) (a' := ?_) #[true, false, true, false, false, true, false, false, false, false, false, false, false, false, false, false, false, false] rfl rfl (any_of HT_.out (by kernel_rfl)) (fun _ _ _ h => h) (Or.inl ⟨by rfl, ?_⟩) ?_ ?_
      rotate_left
      · intro w'
        go_simp
        with_reducible rfl
      rotate_left
      · simp only [Act.put, List.setIfInBounds_toArray, List.set_cons_zero, List.set_cons_succ, i64_w, i32_w]
        rfl
      refine pure_ (i := 8) (N := some 38) (v := ?_) (a' := ?_) #[true, false, true, false, false, true, false, false, true, false, false, false, false, false, false, false, false, false] rfl rfl (any_of HT_.out (by kernel_rfl)) (fun _ _ _ h => h) (Or.inl ⟨by rfl, ?_⟩) ?_ ?_
      rotate_left
      · intro w'
        go_simp
        with_reducible rfl
      rotate_left
      · simp only [Act.put, List.setIfInBounds_toArray, List.set_cons_zero, List.set_cons_succ, i64_w, i32_w]
        rfl
      refine pure_ (i := 10) (N := some 40) (v := ?_) (a' := ?_) #[true, false, true, false, false, true, false, false, true, false, true, false, false, false, false, false, false, false] rfl rfl (any_of HT_.out (by kernel_rfl)) (fun _ _ _ h => h) (Or.inl ⟨by rfl, ?_⟩) ?_ ?_
      rotate_left
      · intro w'
        go_simp
        with_reducible rfl
      rotate_left
      · simp only [Act.put, List.setIfInBounds_toArray, List.set_cons_zero, List.set_cons_succ, i64_w, i32_w]
        rfl
      refine pure_ (i := 13) (N := some 43) (v := ?_) (a' := ?_) #[true, false, true, false, false, true, false, false, true, false, true, false, false, true, false, false, false, false] rfl rfl (any_of HT_.out (by kernel_rfl)) (fun _ _ _ h => h) (Or.inl ⟨by rfl, ?_⟩) ?_ ?_
      rotate_left
      · intro w'
        go_simp
        with_reducible rfl
      rotate_left
      · simp only [Act.put, List.setIfInBounds_toArray, List.set_cons_zero, List.set_cons_succ, i64_w, i32_w]
        rfl
      refine take_ (i := 1) (N := some 31) (v := ?_) (a' := ?_) #[true, true, true, false, false, true, false, false, true, false, true, false, false, true, false, false, false, false] rfl rfl (take_ofW HT_.out HW_.out (by kernel_rfl)) (fun _ _ _ h => h) (Or.inl ⟨by rfl, ?_⟩) hHeld ?_ ?_
      rotate_left
      · rintro w' ⟨s0, s1, s2, s3, s4, s5, s6, s7, s8, s9, s10⟩
        go_simp
        with_reducible rfl
      rotate_left
      · simp only [Act.put, List.setIfInBounds_toArray, List.set_cons_zero, List.set_cons_succ, i64_w, i32_w]
        rfl
      refine take_ (i := 3) (N := some 33) (v := ?_) (a' := ?_) #[true, true, true, true, false, true, false, false, true, false, true, false, false, true, false, false, false, false] rfl rfl (take_ofW HT_.out HW_.out (by kernel_rfl)) (fun _ _ _ h => h) (Or.inl ⟨by rfl, ?_⟩) hHeld ?_ ?_
      rotate_left
      · rintro w' ⟨s0, s1, s2, s3, s4, s5, s6, s7, s8, s9, s10⟩
        go_simp
        with_reducible rfl
      rotate_left
      · simp only [Act.put, List.setIfInBounds_toArray, List.set_cons_zero, List.set_cons_succ, i64_w, i32_w]
        rfl
      refine pure_ (i := 4) (N := some 34) (v := ?_) (a' := ?_) #[true, true, true, true, true, true, false, false, true, false, true, false, false, true, false, false, false, false] rfl rfl (any_of HT_.out (by kernel_rfl)) (fun _ _ _ h => h) (Or.inl ⟨by rfl, ?_⟩) ?_ ?_
      rotate_left
      · intro w'
        go_simp
        with_reducible rfl
      rotate_left
      · simp only [Act.put, List.setIfInBounds_toArray, List.set_cons_zero, List.set_cons_succ, i64_w, i32_w]
        rfl
      refine take_ (i := 6) (N := some 36) (v := ?_) (a' := ?_) #[true, true, true, true, true, true, true, false, true, false, true, false, false, true, false, false, false, false] rfl rfl (take_ofW HT_.out HW_.out (by kernel_rfl)) (fun _ _ _ h => h) (Or.inl ⟨by rfl, ?_⟩) hHeld ?_ ?_
      rotate_left
      · rintro w' ⟨s0, s1, s2, s3, s4, s5, s6, s7, s8, s9, s10⟩
        go_simp
        with_reducible rfl
      rotate_left
      · simp only [Act.put, List.setIfInBounds_toArray, List.set_cons_zero, List.set_cons_succ, i64_w, i32_w]
        rfl
      refine pure_ (i := 7) (N := some 37) (v := ?_) (a' := ?_) #[true, true, true, true, true, true, true, true, true, false, true, false, false, true, false, false, false, false] rfl rfl (any_of HT_.out (by kernel_rfl)) (fun _ _ _ h => h) (Or.inl ⟨by rfl, ?_⟩) ?_ ?_
      rotate_left
      · intro w'
        go_simp
        with_reducible rfl
      rotate_left
      · simp only [Act.put, List.setIfInBounds_toArray, List.set_cons_zero, List.set_cons_succ, i64_w, i32_w]
        rfl
      refine take_ (i := 9) (N := some 39) (v := ?_) (a' := ?_) #[true, true, true, true, true, true, true, true, true, true, true, false, false, true, false, false, false, false] rfl rfl (take_ofW HT_.out HW_.out (by kernel_rfl)) (fun _ _ _ h => h) (Or.inl ⟨by rfl, ?_⟩) hHeld ?_ ?_
      rotate_left
      · rintro w' ⟨s0, s1, s2, s3, s4, s5, s6, s7, s8, s9, s10⟩
        go_simp
        with_reducible rfl
      rotate_left
      · simp only [Act.put, List.setIfInBounds_toArray, List.set_cons_zero, List.set_cons_succ, i64_w, i32_w]
        rfl
      refine take_ (i := 11) (N := some 41) (v := ?_) (a' := ?_) #[true, true, true, true, true, true, true, true, true, true, true, true, false, true, false, false, false, false] rfl rfl (take_ofW HT_.out HW_.out (by kernel_rfl)) (fun _ _ _ h => h) (Or.inl ⟨by rfl, ?_⟩) hHeld ?_ ?_
      rotate_left
      · rintro w' ⟨s0, s1, s2, s3, s4, s5, s6, s7, s8, s9, s10⟩
        go_simp
        with_reducible rfl
      rotate_left
      · simp only [Act.put, List.setIfInBounds_toArray, List.set_cons_zero, List.set_cons_succ, i64_w, i32_w]
        rfl
      refine pure_ (i := 12) (N := some 42) (v := ?_) (a' := ?_) #[true, true, true, true, true, true, true, true, true, true, true, true, true, true, false, false, false, false] rfl rfl (any_of HT_.out (by kernel_rfl)) (fun _ _ _ h => h) (Or.inl ⟨by rfl, ?_⟩) ?_ ?_
      rotate_left
      · intro w'
        go_simp
        with_reducible rfl
      rotate_left
      · simp only [Act.put, List.setIfInBounds_toArray, List.set_cons_zero, List.set_cons_succ, i64_w, i32_w]
        rfl
      refine take_ (i := 14) (N := some 44) (v := ?_) (a' := ?_) #[true, true, true, true, true, true, true, true, true, true, true, true, true, true, true, false, false, false] rfl rfl (take_ofW HT_.out HW_.out (by kernel_rfl)) (fun _ _ _ h => h) (Or.inl ⟨by rfl, ?_⟩) hHeld ?_ ?_
      rotate_left
      · rintro w' ⟨s0, s1, s2, s3, s4, s5, s6, s7, s8, s9, s10⟩
        go_simp
        with_reducible rfl
      rotate_left
      · simp only [Act.put, List.setIfInBounds_toArray, List.set_cons_zero, List.set_cons_succ, i64_w, i32_w]
        rfl
      refine pure_ (i := 15) (N := some 45) (v := ?_) (a' := ?_) #[true, true, true, true, true, true, true, true, true, true, true, true, true, true, true, true, false, false] rfl rfl (any_of HT_.out (by kernel_rfl)) (fun _ _ _ h => h) (Or.inl ⟨by rfl, ?_⟩) ?_ ?_
      rotate_left
      · intro w'
        go_simp
        with_reducible rfl
      rotate_left
      · simp only [Act.put, List.setIfInBounds_toArray, List.set_cons_zero, List.set_cons_succ, i64_w, i32_w]
        rfl
      refine pure_ (i := 16) (N := some 46) (v := ?_) (a' := ?_) #[true, true, true, true, true, true, true, true, true, true, true, true, true, true, true, true, true, false] rfl rfl (any_of HT_.out (by kernel_rfl)) (fun _ _ _ h => h) (Or.inl ⟨by rfl, ?_⟩) ?_ ?_
      rotate_left
      · intro w'
        go_simp
        with_reducible rfl
      rotate_left
      · simp only [Act.put, List.setIfInBounds_toArray, List.set_cons_zero, List.set_cons_succ, i64_w, i32_w]
        rfl
      refine one_ (i := 17) (N := none) #[true, true, true, true, true, true, true, true, true, true, true, true, true, true, true, true, true, true] rfl rfl (one_of HT_.out (by kernel_rfl)) (by decide) (fun K hK => ?_)
      have hs42 : w41.cell? ⟨gb440, 0, none⟩ = some (.int .u64 0) := (blk_cell BK440.out 0).trans rfl
      have hfs42 := blk_frozen BK440.out 0
      have hns42_0 := NB438_440.out
      have hns42_1 := NB439_440.out
      have hns42_3 := NB445_440.out
      have hns42_4 := NB450_440.out
      have hns42_5 := NB455_440.out
      have hms42_0 := NB440_438.out
      have hms42_1 := NB440_439.out
      have hms42_3 := NB440_445.out
      have hms42_4 := NB440_450.out
      have hms42_5 := NB440_455.out
      have hs43 : w41.cell? ⟨gb440, 1, none⟩ = some (.int .u64 0) := (blk_cell BK440.out 1).trans rfl
      have hfs43 := blk_frozen BK440.out 1
      have hns43_0 := NB438_440.out
      have hns43_1 := NB439_440.out
      have hns43_3 := NB445_440.out
      have hns43_4 := NB450_440.out
      have hns43_5 := NB455_440.out
      have hms43_0 := NB440_438.out
      have hms43_1 := NB440_439.out
      have hms43_3 := NB440_445.out
      have hms43_4 := NB440_450.out
      have hms43_5 := NB440_455.out
      refine skip_ (w1 := ?_) (by rfl) rfl ?_ ?_
      rotate_left
      · go_simp
        rfl
      refine hK.out _ _ ⟨((cell_far (p := ⟨gb440, _, none⟩) NB455_440.out _).trans (((cell_far (p := ⟨gb440, _, none⟩) NB455_440.out _).trans (hHeld.1)))), ((cell_far (p := ⟨gb440, _, none⟩) NB455_440.out _).trans (((cell_far (p := ⟨gb440, _, none⟩) NB455_440.out _).trans (hHeld.2.1)))), ((cell_far (p := ⟨gb440, _, none⟩) NB455_440.out _).trans (((cell_far (p := ⟨gb440, _, none⟩) NB455_440.out _).trans (hHeld.2.2.1)))), ((cell_far (p := ⟨gb440, _, none⟩) NB455_440.out _).trans (((cell_far (p := ⟨gb440, _, none⟩) NB455_440.out _).trans (hHeld.2.2.2.1)))), ((cell_far (p := ⟨gb440, _, none⟩) NB450_440.out _).trans (((cell_far (p := ⟨gb440, _, none⟩) NB450_440.out _).trans (hHeld.2.2.2.2.1)))), ((cell_far (p := ⟨gb440, _, none⟩) NB450_440.out _).trans (((cell_far (p := ⟨gb440, _, none⟩) NB450_440.out _).trans (hHeld.2.2.2.2.2.1)))), ((cell_far (p := ⟨gb440, _, none⟩) NB450_440.out _).trans (((cell_far (p := ⟨gb440, _, none⟩) NB450_440.out _).trans (hHeld.2.2.2.2.2.2.1)))), ((cell_far (p := ⟨gb440, _, none⟩) NB450_440.out _).trans (((cell_far (p := ⟨gb440, _, none⟩) NB450_440.out _).trans (hHeld.2.2.2.2.2.2.2.1)))), ((cell_far (p := ⟨gb440, _, none⟩) NB445_440.out _).trans (((cell_far (p := ⟨gb440, _, none⟩) NB445_440.out _).trans (hHeld.2.2.2.2.2.2.2.2.1)))), ((cell_far (p := ⟨gb440, _, none⟩) NB445_440.out _).trans (((cell_far (p := ⟨gb440, _, none⟩) NB445_440.out _).trans (hHeld.2.2.2.2.2.2.2.2.2.1)))), ((cell_far (p := ⟨gb440, _, none⟩) NB445_440.out _).trans (((cell_far (p := ⟨gb440, _, none⟩) NB445_440.out _).trans (hHeld.2.2.2.2.2.2.2.2.2.2))))⟩ (fun hHeld => ?_)
      clear hK K
      refine done_ (done_of HT_.out (by kernel_rfl)) ?_
      try go_wp2
      refine bodyPost_ret (results_cell_row rfl _ _ gb440 30 #[.int .u64 (Int.tmod (IntKind.u64.wrap (t451 + t446)) t442), .int .u64 (Int.tmod (IntKind.u64.wrap (t452 + t447)) t442)] (0, 0) _ rfl (by (with_reducible repeat (first | refine blk_drewN ?_ _ | refine blk_drew ?_ | refine blk_alloc ?_ _)); refine blk_put (cs := #[.int .u64 (Int.tmod (IntKind.u64.wrap (t451 + t446)) t442), .int .u64 0]) ?_ 1 _ rfl; (with_reducible repeat (first | refine blk_drewN ?_ _ | refine blk_drew ?_ | refine blk_alloc ?_ _)); refine blk_put (cs := #[.int .u64 0, .int .u64 0]) ?_ 0 _ rfl; (with_reducible repeat (first | refine blk_drewN ?_ _ | refine blk_drew ?_ | refine blk_alloc ?_ _)); exact BK440.out) Tryd.underlying30 rfl (by kernel_rfl)) rfl ?_
      exact ⟨by first | rfl | (simp [errW_none, errW_some] <;> rfl) | (simp [*, errW_none, errW_some] <;> rfl), by repeat (first | (with_reducible first | exact HB.out | apply below_alloc | apply pw_below_drewN | apply below_drew1 | refine below_set ?_ GE438.out | refine below_set ?_ GE439.out | refine below_set ?_ GE440.out | refine below_set ?_ GE445.out | refine below_set ?_ GE450.out | refine below_set ?_ GE455.out) | exact HB.out)⟩
  · replace c5 := Bool.eq_false_iff.mpr c5
    subst c5
    have H1 : (some (0, 0)) = some (r1, r2) := by rw [if_neg (show ¬ (false = true) by decide)] at H; exact H
    clear H
    have H := H1
    clear H1
    simp only [Option.some.injEq, Prod.mk.injEq] at H
    obtain ⟨rfl, rfl⟩ := H
    go_enter Tryd.func21, Tryd.ntmps21
    go_wp2_with (first | ((with_reducible refine gate_dst (N := 4) rfl ?_); refine box_event ?hg (N := 4) ?hd (cs := #[.int .u64 a1_0, .int .u64 a1_1]) (t := 30) ?hr ?_; (case hd => rfl); (case hg => rfl); (case hr => first | (go_simp; done) | (go_simp; rfl)); intro gb438 hg w44 hbox hb; have n0_ := Aside0.mk (below_step (by repeat (first | (with_reducible first | exact HB.out | apply below_alloc | apply pw_below_drewN | apply below_drew1) | exact HB.out)) hb); have n1_ := Aside0.mk (hbox); have n2_ := Aside0.mk ((by rw [hg]; exact (below_size (by repeat (first | (with_reducible first | exact HB.out | apply below_alloc | apply pw_below_drewN | apply below_drew1) | exact HB.out))) : w.heap.size ≤ gb438)); have n3_ := Aside0.mk ((by rw [hg]; exact (below_size (by repeat (first | (with_reducible first | exact HB.out | apply below_alloc | apply pw_below_drewN | apply below_drew1) | exact HB.out))) : w.heap.size ≤ gb438)); clear HB; have HB := n0_; have BK438 := n1_; have GW438 := n2_; have GE438 := n3_; clear n0_ n1_ n2_ n3_; clear hb hbox hg) | ((with_reducible refine gate_dst (N := 5) rfl ?_); refine box_event ?hg (N := 5) ?hd (cs := #[.int .u64 a2_0, .int .u64 a2_1]) (t := 30) ?hr ?_; (case hd => rfl); (case hg => rfl); (case hr => first | (go_simp; done) | (go_simp; rfl)); intro gb439 hg w45 hbox hb; have n0_ := Aside0.mk (blk_below (g := gb438) (o := .cells #[.int .u64 a1_0, .int .u64 a1_1] 30 (0, 0)) (by (with_reducible repeat (first | refine blk_drewN ?_ _ | refine blk_drew ?_ | refine blk_alloc ?_ _)); exact BK438.out) hb); have n1_ := Aside0.mk (below_step (by repeat (first | (with_reducible first | exact HB.out | apply below_alloc | apply pw_below_drewN | apply below_drew1 | refine below_set ?_ GE438.out) | exact HB.out)) hb); have n2_ := Aside0.mk (hbox); have n3_ := Aside0.mk ((by rw [hg]; exact (below_size (by repeat (first | (with_reducible first | exact HB.out | apply below_alloc | apply pw_below_drewN | apply below_drew1 | refine below_set ?_ GE438.out) | exact HB.out))) : w.heap.size ≤ gb439)); have n4_ := Aside0.mk ((by rw [hg]; exact (below_size (by repeat (first | (with_reducible first | exact HB.out | apply below_alloc | apply pw_below_drewN | apply below_drew1 | refine below_set ?_ GE438.out) | exact HB.out))) : w.heap.size ≤ gb439)); have n5_ := Aside0.mk ((by rw [hg]; exact Nat.ne_of_lt (blk_lt (g := gb438) (o := .cells #[.int .u64 a1_0, .int .u64 a1_1] 30 (0, 0)) (by (with_reducible repeat (first | refine blk_drewN ?_ _ | refine blk_drew ?_ | refine blk_alloc ?_ _)); exact BK438.out)) : gb438 ≠ gb439)); have n6_ := Aside0.mk ((by rw [hg]; exact Nat.ne_of_gt (blk_lt (g := gb438) (o := .cells #[.int .u64 a1_0, .int .u64 a1_1] 30 (0, 0)) (by (with_reducible repeat (first | refine blk_drewN ?_ _ | refine blk_drew ?_ | refine blk_alloc ?_ _)); exact BK438.out)) : gb439 ≠ gb438)); clear BK438; clear HB; have BK438 := n0_; have HB := n1_; have BK439 := n2_; have GW439 := n3_; have GE439 := n4_; have NB438_439 := n5_; have NB439_438 := n6_; clear n0_ n1_ n2_ n3_ n4_ n5_ n6_; clear hb hbox hg) | ((with_reducible refine gate_dst (N := 6) rfl ?_); refine box_event ?hg (N := 6) ?hd (cs := #[.int .u64 0, .int .u64 0]) (t := 30) ?hr ?_; (case hd => rfl); (case hg => rfl); (case hr => first | (go_simp; done) | (go_simp; rfl)); intro gb440 hg w46 hbox hb; have n0_ := Aside0.mk (blk_below (g := gb438) (o := .cells #[.int .u64 a1_0, .int .u64 a1_1] 30 (0, 0)) (by (with_reducible repeat (first | refine blk_drewN ?_ _ | refine blk_drew ?_ | refine blk_alloc ?_ _)); exact BK438.out) hb); have n1_ := Aside0.mk (blk_below (g := gb439) (o := .cells #[.int .u64 a2_0, .int .u64 a2_1] 30 (0, 0)) (by (with_reducible repeat (first | refine blk_drewN ?_ _ | refine blk_drew ?_ | refine blk_alloc ?_ _)); exact BK439.out) hb); have n2_ := Aside0.mk (below_step (by repeat (first | (with_reducible first | exact HB.out | apply below_alloc | apply pw_below_drewN | apply below_drew1 | refine below_set ?_ GE438.out | refine below_set ?_ GE439.out) | exact HB.out)) hb); have n3_ := Aside0.mk (hbox); have n4_ := Aside0.mk ((by rw [hg]; exact (below_size (by repeat (first | (with_reducible first | exact HB.out | apply below_alloc | apply pw_below_drewN | apply below_drew1 | refine below_set ?_ GE438.out | refine below_set ?_ GE439.out) | exact HB.out))) : w.heap.size ≤ gb440)); have n5_ := Aside0.mk ((by rw [hg]; exact (below_size (by repeat (first | (with_reducible first | exact HB.out | apply below_alloc | apply pw_below_drewN | apply below_drew1 | refine below_set ?_ GE438.out | refine below_set ?_ GE439.out) | exact HB.out))) : w.heap.size ≤ gb440)); have n6_ := Aside0.mk ((by rw [hg]; exact Nat.ne_of_lt (blk_lt (g := gb438) (o := .cells #[.int .u64 a1_0, .int .u64 a1_1] 30 (0, 0)) (by (with_reducible repeat (first | refine blk_drewN ?_ _ | refine blk_drew ?_ | refine blk_alloc ?_ _)); exact BK438.out)) : gb438 ≠ gb440)); have n7_ := Aside0.mk ((by rw [hg]; exact Nat.ne_of_gt (blk_lt (g := gb438) (o := .cells #[.int .u64 a1_0, .int .u64 a1_1] 30 (0, 0)) (by (with_reducible repeat (first | refine blk_drewN ?_ _ | refine blk_drew ?_ | refine blk_alloc ?_ _)); exact BK438.out)) : gb440 ≠ gb438)); have n8_ := Aside0.mk ((by rw [hg]; exact Nat.ne_of_lt (blk_lt (g := gb439) (o := .cells #[.int .u64 a2_0, .int .u64 a2_1] 30 (0, 0)) (by (with_reducible repeat (first | refine blk_drewN ?_ _ | refine blk_drew ?_ | refine blk_alloc ?_ _)); exact BK439.out)) : gb439 ≠ gb440)); have n9_ := Aside0.mk ((by rw [hg]; exact Nat.ne_of_gt (blk_lt (g := gb439) (o := .cells #[.int .u64 a2_0, .int .u64 a2_1] 30 (0, 0)) (by (with_reducible repeat (first | refine blk_drewN ?_ _ | refine blk_drew ?_ | refine blk_alloc ?_ _)); exact BK439.out)) : gb440 ≠ gb439)); clear BK438; clear BK439; clear HB; have BK438 := n0_; have BK439 := n1_; have HB := n2_; have BK440 := n3_; have GW440 := n4_; have GE440 := n5_; have NB438_440 := n6_; have NB440_438 := n7_; have NB439_440 := n8_; have NB440_439 := n9_; clear n0_ n1_ n2_ n3_ n4_ n5_ n6_ n7_ n8_ n9_; clear hb hbox hg) | ((with_reducible refine gate_callee (f := 41) rfl ?_); refine goesL_ (some 11) rfl rfl Tryd.func41 (by kernel_rfl) rfl #[.int .i64 a0] rfl (by (try simp only [List.map_toArray, List.map_cons, List.map_nil]); first | done | rfl | (simp only [List.length_drop, List.length_take]; rfl) | (go_simp; done) | (go_simp; rw [Int.tmod_eq_emod_of_nonneg (by omega)]; omega)) ?_; (with_reducible refine (field_Valid.calls a0 false _ A4.out).mono ?_); rintro e w' ⟨rfl, ⟨nd, rfl⟩⟩; refine ⟨_, rfl, ?_⟩; (try (rw [drewN_self w46]; generalize hq_ : World.drewN w46 _ = w46; have n0_ : Aside0 (w46.heap[gb438]? = some (.cells #[.int .u64 a1_0, .int .u64 a1_1] 30 (0, 0))) := ⟨by rw [← hq_]; exact (by (with_reducible repeat (first | refine blk_drewN ?_ _ | refine blk_drew ?_ | refine blk_alloc ?_ _)); exact BK438.out)⟩; have n1_ : Aside0 (w46.heap[gb439]? = some (.cells #[.int .u64 a2_0, .int .u64 a2_1] 30 (0, 0))) := ⟨by rw [← hq_]; exact (by (with_reducible repeat (first | refine blk_drewN ?_ _ | refine blk_drew ?_ | refine blk_alloc ?_ _)); exact BK439.out)⟩; have n2_ : Aside0 (w46.heap[gb440]? = some (.cells #[.int .u64 0, .int .u64 0] 30 (0, 0))) := ⟨by rw [← hq_]; exact (by (with_reducible repeat (first | refine blk_drewN ?_ _ | refine blk_drew ?_ | refine blk_alloc ?_ _)); exact BK440.out)⟩; have n3_ : Aside0 (Below w.heap.size w w46) := ⟨by rw [← hq_]; exact (by repeat (first | (with_reducible first | exact HB.out | apply below_alloc | apply pw_below_drewN | apply below_drew1 | refine below_set ?_ GE438.out | refine below_set ?_ GE439.out | refine below_set ?_ GE440.out) | exact HB.out))⟩; clear BK438 BK439 BK440 HB hq_; have BK438 := n0_; have BK439 := n1_; have BK440 := n2_; have HB := n3_; clear n0_ n1_ n2_ n3_)); have hnb47 := NB440_438.out; have hnc47 := NB438_440.out; have hnb48 := NB440_439.out; have hnc48 := NB439_440.out; have hcz49_0 : w46.cell? ⟨gb440, 0, none⟩ = some (.int .u64 0) := (blk_cell BK440.out 0).trans rfl; have hcz49_1 : w46.cell? ⟨gb440, 1, none⟩ = some (.int .u64 0) := (blk_cell BK440.out 1).trans rfl; have hfz49_0 := blk_frozen BK440.out 0; have hfz49_1 := blk_frozen BK440.out 1))
    refine bodyPost_ret (results_cell_row rfl _ _ gb440 30 #[.int .u64 0, .int .u64 0] (0, 0) _ rfl (by (with_reducible repeat (first | refine blk_drewN ?_ _ | refine blk_drew ?_ | refine blk_alloc ?_ _)); refine blk_put (cs := #[.int .u64 0, .int .u64 0]) ?_ 1 _ rfl; (with_reducible repeat (first | refine blk_drewN ?_ _ | refine blk_drew ?_ | refine blk_alloc ?_ _)); refine blk_put (cs := #[.int .u64 0, .int .u64 0]) ?_ 0 _ rfl; (with_reducible repeat (first | refine blk_drewN ?_ _ | refine blk_drew ?_ | refine blk_alloc ?_ _)); exact BK440.out) Tryd.underlying30 rfl (by kernel_rfl)) rfl ?_
    exact ⟨by first | rfl | (simp [errW_none, errW_some] <;> rfl) | (simp [*, errW_none, errW_some] <;> rfl), by repeat (first | (with_reducible first | exact HB.out | apply below_alloc | apply pw_below_drewN | apply below_drew1 | refine below_set ?_ GE438.out | refine below_set ?_ GE439.out | refine below_set ?_ GE440.out) | exact HB.out)⟩

end Go.Proofs.YtjfekjblnoagkaaDoor.Q
end
section
namespace Go.Proofs.YtjfekjblnoagkaaDoor.Q
open Go.RowKit Go.Proofs.YtjfekjblnoagkaaDoorW.PrintWords Go.Proofs.YtjfekjblnoagkaaDoorW.PrintLast Go.Proofs.YtjfekjblnoagkaaDoorW.PrintMore
open Go.Proofs.YtjfekjblnoagkaaDoor.Num
set_option linter.unusedVariables false
set_option linter.unusedSimpArgs false

theorem addp {f : Int} {p g e : Nat} (D : Fd f p g e) (t a : Nat) (ht : t < p) : Int.tmod (IntKind.u64.wrap ((t : Int) + ((a % p : Nat) : Int))) (p : Int) = (((t + a) % p : Nat) : Int) := by
  have h1 := D.F.md a
  have hb := D.F.big
  rw [castA, wrapU (by omega), tmodN, Nat.add_mod_mod]
theorem Node_f {f : Int} {p g e : Nat} (D : Fd f p g e) (s : S4) : sponge_Node.f f s.a s.b s.c s.d = some (((((prm p g e 8 (red p s)).a + s.a) % p : Nat) : Int), ((((prm p g e 8 (red p s)).b + s.b) % p : Nat) : Int)) := by
  have hl := prm_lt D.pos g e _ (red_lt D.pos s) 8
  unfold sponge_Node.f
  refine bnd (valid_yes D.F) ?_
  rw [if_pos rfl]
  refine bnd (in_f D) (bnd (red_f D _ _ s) (bnd (perm_f D _ (red_lt D.pos s)) ?_))
  rw [if_neg D.F.ne]
  simp only [S4.o]
  rw [show (red p s).a = s.a % p from rfl, show (red p s).b = s.b % p from rfl, addp D _ _ hl.1, addp D _ _ hl.2.1]
end Go.Proofs.YtjfekjblnoagkaaDoor.Q
end
