/- Several texts in one, in build order. What they prove, each by its own first remark:
Written by our own copy of a printing program (a twelfth state) out of the translation. Not trusted: Lean checks it.
The examples of the chapter that each law on the sponge checks, and that rounds make the permutation.
The same for Mul, Neg, Sub, Inv.
Small numbers, as the walk spells them. -/
import Derived.Test.YtjfekjblnoagkaaDoorM2
import Derived.Test.YtjfekjblnoagkaaDoorM3
section
namespace Go.Proofs.YtjfekjblnoagkaaDoor.Q
open Go.RowKit Go.Proofs.YtjfekjblnoagkaaDoorW.PrintWords Go.Proofs.YtjfekjblnoagkaaDoorW.PrintLast Go.Proofs.YtjfekjblnoagkaaDoorW.PrintMore
attribute [local go_sem] max2_int min2_int max_two min_two max_three min_three max_four min_four   -- for this text's walks alone
set_option linter.unusedVariables false
set_option linter.unusedSimpArgs false

abbrev z17_0_ : Array Bool := #[false, false, false, false, false, false, false, false, false, false, false, false, false, false]
abbrev z17_1_ : Array Bool := #[true, false, false, false, false, false, false, false, false, false, false, false, false, false]
abbrev z17_2_ : Array Bool := #[true, true, false, false, false, false, false, false, false, false, false, false, false, false]
abbrev z17_3_ : Array Bool := #[true, true, true, false, false, false, false, false, false, false, false, false, false, false]
abbrev z17_4_ : Array Bool := #[true, true, true, false, true, false, false, false, false, false, false, false, false, false]
abbrev z17_5_ : Array Bool := #[true, true, true, false, true, true, false, false, false, false, false, false, false, false]
abbrev z17_6_ : Array Bool := #[true, true, true, false, true, true, false, false, false, true, false, false, false, false]
abbrev z17_7_ : Array Bool := #[true, true, true, true, true, true, false, false, false, true, false, false, false, false]
abbrev z17_8_ : Array Bool := #[true, true, true, true, true, true, true, false, false, true, false, false, false, false]
abbrev z17_9_ : Array Bool := #[true, true, true, true, true, true, true, true, false, true, false, false, false, false]
abbrev z17_10_ : Array Bool := #[true, true, true, true, true, true, true, true, true, true, false, false, false, false]
abbrev z17_11_ : Array Bool := #[true, true, true, true, true, true, true, true, true, true, true, false, false, false]
abbrev z17_12_ : Array Bool := #[true, true, true, true, true, true, true, true, true, true, true, true, false, false]
abbrev z17_13_ : Array Bool := #[true, true, true, true, true, true, true, true, true, true, true, true, true, false]
abbrev z17_14_ : Array Bool := #[true, true, true, true, true, true, true, true, true, true, true, true, true, true]
/-! ### sponge_Hash: function 17 -/
mutual
def sponge_Hash.j0 : Nat → List Int → Int → Int → Bool → Int → Int → Int → Int → Option (Int × Int)
  | 0, _, _, _, _, _, _, _, _ => none
  | k + 1, x1, x196000, x196001, x196002, x197000, x197001, x197002, x197003 => sponge_Hash.l0 k x1 x196000 x196001 x196002 x197000 x197001 x197002 x197003
def sponge_Hash.l0 : Nat → List Int → Int → Int → Bool → Int → Int → Int → Int → Option (Int × Int)
  | 0, _, _, _, _, _, _, _, _ => none
  | k + 1, x1, x196000, x196001, x196002, x197000, x197001, x197002, x197003 => if (x1.length : Int) > 0 then (if 0 ≤ (mn 2 (x1.length : Int)) then (if (mn 2 (x1.length : Int)) ≤ (x1.length : Int) then ((some (x1.take ((mn 2 (x1.length : Int)) : Int).toNat : List Int)).bind fun y201 => (sponge_Hash.l1 k x1 (mn 2 (x1.length : Int)) y201 (y201.length : Int) 0 x196000 x196001 x196002 x197000 x197001 x197002 x197003)) else (none)) else (none)) else (some (x197000, x197001))
def sponge_Hash.l1 : Nat → List Int → Int → List Int → Int → Int → Int → Int → Bool → Int → Int → Int → Int → Option (Int × Int)
  | 0, _, _, _, _, _, _, _, _, _, _, _, _ => none
  | k + 1, x1, x7, x37, x38, x39, x196000, x196001, x196002, x197000, x197001, x197002, x197003 => if x39 < x38 then (if 0 ≤ x39 then (if x39 < (x37.length : Int) then (if x39 = 0 then (if x196000 = 0 then (none) else (sponge_Hash.l1 k x1 x7 x37 x38 (wrap64 (x39 + 1)) x196000 x196001 x196002 (Int.tmod (IntKind.u64.wrap (x197000 + (Int.tmod (rd x37 x39) x196000))) x196000) x197001 x197002 x197003)) else (if x39 = 1 then (if x196000 = 0 then (none) else (sponge_Hash.l1 k x1 x7 x37 x38 (wrap64 (x39 + 1)) x196000 x196001 x196002 x197000 (Int.tmod (IntKind.u64.wrap (x197001 + (Int.tmod (rd x37 x39) x196000))) x196000) x197002 x197003)) else (if x39 = 2 then (if x196000 = 0 then (none) else (sponge_Hash.l1 k x1 x7 x37 x38 (wrap64 (x39 + 1)) x196000 x196001 x196002 x197000 x197001 (Int.tmod (IntKind.u64.wrap (x197002 + (Int.tmod (rd x37 x39) x196000))) x196000) x197003)) else (if x39 = 3 then (if x196000 = 0 then (none) else (sponge_Hash.l1 k x1 x7 x37 x38 (wrap64 (x39 + 1)) x196000 x196001 x196002 x197000 x197001 x197002 (Int.tmod (IntKind.u64.wrap (x197003 + (Int.tmod (rd x37 x39) x196000))) x196000))) else (none))))) else (none)) else (none)) else ((sponge_mixer_perm.f x196000 x196001 x196002 x197000 x197001 x197002 x197003).bind fun bt207 => (if 0 ≤ x7 then (if x7 ≤ (x1.length : Int) then (sponge_Hash.l0 k (x1.drop (x7 : Int).toNat) x196000 x196001 x196002 bt207.1 bt207.2.1 bt207.2.2.1 bt207.2.2.2) else (none)) else (none)))
end
def sponge_Hash.f (k : Nat) (a0 : Int) (l1 : List Int) : Option (Int × Int) := (field_Valid.f a0).bind fun t191 => (if t191 = true then ((sponge_in.f a0).bind fun bt192 => (if bt192.1 = 0 then (none) else (if (l1.length : Int) = 0 then ((sponge_mixer_perm.f bt192.1 bt192.2.1 bt192.2.2 0 0 (Int.tmod (IntKind.u64.wrap ((l1.length : Int))) bt192.1) 0).bind fun bt197 => (sponge_Hash.j0 k l1 bt192.1 bt192.2.1 bt192.2.2 bt197.1 bt197.2.1 bt197.2.2.1 bt197.2.2.2)) else (sponge_Hash.j0 k l1 bt192.1 bt192.2.1 bt192.2.2 0 0 (Int.tmod (IntKind.u64.wrap ((l1.length : Int))) bt192.1) 0)))) else (some (0, 0)))
theorem sponge_Hash.mono_l : ∀ k, (∀ y0 y1 y2 y3 y4 y5 y6 y7, LeO (sponge_Hash.j0 k y0 y1 y2 y3 y4 y5 y6 y7) (sponge_Hash.j0 (k + 1) y0 y1 y2 y3 y4 y5 y6 y7)) ∧ (∀ y0 y1 y2 y3 y4 y5 y6 y7, LeO (sponge_Hash.l0 k y0 y1 y2 y3 y4 y5 y6 y7) (sponge_Hash.l0 (k + 1) y0 y1 y2 y3 y4 y5 y6 y7)) ∧ (∀ y0 y1 y2 y3 y4 y5 y6 y7 y8 y9 y10 y11, LeO (sponge_Hash.l1 k y0 y1 y2 y3 y4 y5 y6 y7 y8 y9 y10 y11) (sponge_Hash.l1 (k + 1) y0 y1 y2 y3 y4 y5 y6 y7 y8 y9 y10 y11))
  | 0 => ⟨fun _ _ _ _ _ _ _ _ r h => by simp [sponge_Hash.j0] at h, fun _ _ _ _ _ _ _ _ r h => by simp [sponge_Hash.l0] at h, fun _ _ _ _ _ _ _ _ _ _ _ _ r h => by simp [sponge_Hash.l1] at h⟩
  | k + 1 => by
    obtain ⟨ih0, ih1, ih2⟩ := sponge_Hash.mono_l k
    refine ⟨?_, ?_, ?_⟩
    · intro y0 y1 y2 y3 y4 y5 y6 y7
      unfold sponge_Hash.j0
      repeat' first
      | (with_reducible exact ih0 _ _ _ _ _ _ _ _)
      | (with_reducible exact ih1 _ _ _ _ _ _ _ _)
      | (with_reducible exact ih2 _ _ _ _ _ _ _ _ _ _ _ _)
      | (with_reducible exact LeO.refl _)
      | (with_reducible exact LeO.none _)
      | (with_reducible refine LeO.ite ?_ ?_)
      | (with_reducible refine LeO.bind ?_ (fun _ => ?_))
      | exact ih0 _ _ _ _ _ _ _ _
      | exact ih1 _ _ _ _ _ _ _ _
      | exact ih2 _ _ _ _ _ _ _ _ _ _ _ _
      | exact LeO.none _
      | refine LeO.ite ?_ ?_
      | refine LeO.bind ?_ (fun _ => ?_)
    · intro y0 y1 y2 y3 y4 y5 y6 y7
      unfold sponge_Hash.l0
      repeat' first
      | (with_reducible exact ih0 _ _ _ _ _ _ _ _)
      | (with_reducible exact ih1 _ _ _ _ _ _ _ _)
      | (with_reducible exact ih2 _ _ _ _ _ _ _ _ _ _ _ _)
      | (with_reducible exact LeO.refl _)
      | (with_reducible exact LeO.none _)
      | (with_reducible refine LeO.ite ?_ ?_)
      | (with_reducible refine LeO.bind ?_ (fun _ => ?_))
      | exact ih0 _ _ _ _ _ _ _ _
      | exact ih1 _ _ _ _ _ _ _ _
      | exact ih2 _ _ _ _ _ _ _ _ _ _ _ _
      | exact LeO.none _
      | refine LeO.ite ?_ ?_
      | refine LeO.bind ?_ (fun _ => ?_)
    · intro y0 y1 y2 y3 y4 y5 y6 y7 y8 y9 y10 y11
      unfold sponge_Hash.l1
      repeat' first
      | (with_reducible exact ih0 _ _ _ _ _ _ _ _)
      | (with_reducible exact ih1 _ _ _ _ _ _ _ _)
      | (with_reducible exact ih2 _ _ _ _ _ _ _ _ _ _ _ _)
      | (with_reducible exact LeO.refl _)
      | (with_reducible exact LeO.none _)
      | (with_reducible refine LeO.ite ?_ ?_)
      | (with_reducible refine LeO.bind ?_ (fun _ => ?_))
      | exact ih0 _ _ _ _ _ _ _ _
      | exact ih1 _ _ _ _ _ _ _ _
      | exact ih2 _ _ _ _ _ _ _ _ _ _ _ _
      | exact LeO.none _
      | refine LeO.ite ?_ ?_
      | refine LeO.bind ?_ (fun _ => ?_)
theorem sponge_Hash.mono : ∀ a0 a1 k, LeO (sponge_Hash.f k a0 a1) (sponge_Hash.f (k + 1) a0 a1) := by
  intro a0 a1 k
  obtain ⟨ih0, ih1, ih2⟩ := sponge_Hash.mono_l k
  unfold sponge_Hash.f
  repeat' first
      | (with_reducible exact ih0 _ _ _ _ _ _ _ _)
      | (with_reducible exact ih1 _ _ _ _ _ _ _ _)
      | (with_reducible exact ih2 _ _ _ _ _ _ _ _ _ _ _ _)
      | (with_reducible exact LeO.refl _)
      | (with_reducible exact LeO.none _)
      | (with_reducible refine LeO.ite ?_ ?_)
      | (with_reducible refine LeO.bind ?_ (fun _ => ?_))
      | exact ih0 _ _ _ _ _ _ _ _
      | exact ih1 _ _ _ _ _ _ _ _
      | exact ih2 _ _ _ _ _ _ _ _ _ _ _ _
      | exact LeO.none _
      | refine LeO.ite ?_ ?_
      | refine LeO.bind ?_ (fun _ => ?_)
def sponge_Hash.T12 : Bool × List (List Nat × List Nat) := (true, [([], []), ([], []), ([1], [1]), ([2], [2]), ([], []), ([], []), ([5], [5]), ([4, 6], [4, 6]), ([3, 7], [3, 7]), ([], []), ([9], [9]), ([8, 10], [8, 10]), ([0, 0, 1, 2, 3, 4, 5, 6, 7, 8, 9, 10, 11], [0]), ([12, 11, 0, 1, 2, 3, 4, 5, 6, 7, 8, 9, 10, 11], [11, 12])])
def sponge_Hash.B12 : List Nat := [0, 0, 2, 6, 0, 0, 32, 112, 254, 0, 512, 2046, 4095, 8191]
theorem sponge_Hash.tab12 : rtab .any (opsOf Tryd.f17 12) = sponge_Hash.T12 := by kernel_rfl
theorem sponge_Hash.bits12 : waitsOk sponge_Hash.T12.2 sponge_Hash.B12 = true := by kernel_rfl
set_option maxHeartbeats 8000000 in
set_option maxRecDepth 100000 in
theorem sponge_Hash.calls (k : Nat) (a0 : Int) (P1_ : Nat → Prop) (A1 : Option Addr) (c1 : Nat) (l1 : List Int) (r1 : Int) (r2 : Int) (w : World) (hs1 : Kd.V (Kd.int .u64) 22 w w.heap.size (fun k_ => P1_ k_) (.slice A1 l1.length c1) l1) (hrG : GL w) (h : sponge_Hash.f k a0 l1 = some (r1, r2)) :
  Calls Tryd.prog 17 #[.int .i64 a0, .slice A1 l1.length c1] w fun e w' => e = .returned (.agg #[.int .u64 r1, .int .u64 r2]) ∧ Below w.heap.size w w' := by
 have hu30 := Tryd.underlying30
 have hu45 := Tryd.underlying45
 have hu23 := Tryd.underlying23
 have HRG := Aside0.mk hrG
 clear hrG
 have HO1 := Aside0.mk (show Kd.V (Kd.int .u64) 22 w w.heap.size (fun k_ => (P1_ k_ ∨ w.heap.size ≤ k_)) (.slice A1 l1.length c1) l1 from Kd.V_mono hs1 (fun k_ hk => .inl hk))
 have HB := Aside0.mk (Below.refl w.heap.size w)
 have H : ((field_Valid.f a0).bind fun t191 => (if t191 = true then ((sponge_in.f a0).bind fun bt192 => (if bt192.1 = 0 then (none) else (if (l1.length : Int) = 0 then ((sponge_mixer_perm.f bt192.1 bt192.2.1 bt192.2.2 0 0 (Int.tmod (IntKind.u64.wrap ((l1.length : Int))) bt192.1) 0).bind fun bt197 => (sponge_Hash.j0 k l1 bt192.1 bt192.2.1 bt192.2.2 bt197.1 bt197.2.1 bt197.2.2.1 bt197.2.2.2)) else (sponge_Hash.j0 k l1 bt192.1 bt192.2.1 bt192.2.2 0 0 (Int.tmod (IntKind.u64.wrap ((l1.length : Int))) bt192.1) 0)))) else (some (0, 0)))) = some (r1, r2) := h
 clear h
 replace H := Option.bind_eq_some_iff.mp H
 obtain ⟨t191, A30, H⟩ := H
 replace H : (if t191 = true then ((sponge_in.f a0).bind fun bt192 => (if bt192.1 = 0 then (none) else (if (l1.length : Int) = 0 then ((sponge_mixer_perm.f bt192.1 bt192.2.1 bt192.2.2 0 0 (Int.tmod (IntKind.u64.wrap ((l1.length : Int))) bt192.1) 0).bind fun bt197 => (sponge_Hash.j0 k l1 bt192.1 bt192.2.1 bt192.2.2 bt197.1 bt197.2.1 bt197.2.2.1 bt197.2.2.2)) else (sponge_Hash.j0 k l1 bt192.1 bt192.2.1 bt192.2.2 0 0 (Int.tmod (IntKind.u64.wrap ((l1.length : Int))) bt192.1) 0)))) else (some (0, 0))) = some (r1, r2) := H
 have A3 := Aside0.mk A30
 clear A30
 by_cases c4 : t191 = true
 ·subst c4
  have H1 : ((sponge_in.f a0).bind fun bt192 => (if bt192.1 = 0 then (none) else (if (l1.length : Int) = 0 then ((sponge_mixer_perm.f bt192.1 bt192.2.1 bt192.2.2 0 0 (Int.tmod (IntKind.u64.wrap ((l1.length : Int))) bt192.1) 0).bind fun bt197 => (sponge_Hash.j0 k l1 bt192.1 bt192.2.1 bt192.2.2 bt197.1 bt197.2.1 bt197.2.2.1 bt197.2.2.2)) else (sponge_Hash.j0 k l1 bt192.1 bt192.2.1 bt192.2.2 0 0 (Int.tmod (IntKind.u64.wrap ((l1.length : Int))) bt192.1) 0)))) = some (r1, r2) := by rw [if_pos rfl] at H; exact H
  clear H
  have H := H1
  clear H1
  replace H := Option.bind_eq_some_iff.mp H
  obtain ⟨⟨t192, t193, t194⟩, A50, H⟩ := H
  replace H : (if t192 = 0 then (none) else (if (l1.length : Int) = 0 then ((sponge_mixer_perm.f t192 t193 t194 0 0 (Int.tmod (IntKind.u64.wrap ((l1.length : Int))) t192) 0).bind fun bt197 => (sponge_Hash.j0 k l1 t192 t193 t194 bt197.1 bt197.2.1 bt197.2.2.1 bt197.2.2.2)) else (sponge_Hash.j0 k l1 t192 t193 t194 0 0 (Int.tmod (IntKind.u64.wrap ((l1.length : Int))) t192) 0))) = some (r1, r2) := H
  have A5 := Aside0.mk A50
  clear A50
  by_cases c6 : t192 = 0
  ·rw [if_pos c6] at H
   exact absurd H (by simp)
  ·rw [if_neg c6] at H
   have c6b0 : (t192 == 0) = false := beq_eq_false_iff_ne.mpr c6
   have c6b1 : (t192 != 0) = true := bne_iff_ne.mpr c6
   have HC7 := Aside0.mk H
   clear H
   go_enter Tryd.func17, Tryd.ntmps17
   go_upto_if 25 with (first | ((with_reducible refine gate_dst (N := 4) rfl ?_); refine box_event ?hg (N := 4) ?hd (cs := #[.int .u64 0, .int .u64 0]) (t := 30) ?hr ?_; (case hd => rfl); (case hg => rfl); (case hr => first | (go_simp; done) | (go_simp; rfl)); intro g190 hg w8 hbox hb; have n0_ := Aside0.mk (Kd.V_below (Kd.V_elderB (by (with_reducible repeat (first | apply Kd.V_alloc | apply Kd.V_drewN | apply Kd.V_drew)); exact HO1.out) g190 (Nat.le_of_eq hg.symm)) hb); have n1_ := Aside0.mk (below_step (by repeat (first | (with_reducible first | exact HB.out | apply below_alloc | apply pw_below_drewN | apply below_drew1) | exact HB.out)) hb); have n2_ := Aside0.mk (hbox); have n3_ := Aside0.mk ((by rw [hg]; exact (below_size (by repeat (first | (with_reducible first | exact HB.out | apply below_alloc | apply pw_below_drewN | apply below_drew1) | exact HB.out))) : w.heap.size ≤ g190)); have n4_ := Aside0.mk ((by rw [hg]; exact (below_size (by repeat (first | (with_reducible first | exact HB.out | apply below_alloc | apply pw_below_drewN | apply below_drew1) | exact HB.out))) : w.heap.size ≤ g190)); clear HO1; clear HB; have HO1 := n0_; have HB := n1_; have B190 := n2_; have GW190 := n3_; have GE190 := n4_; clear n0_ n1_ n2_ n3_ n4_; clear hb hbox hg) | ((with_reducible refine gate_callee (f := 41) rfl ?_); refine goesL_ (some 11) rfl rfl Tryd.func41 (by kernel_rfl) rfl #[.int .i64 a0] rfl (by (try simp only [List.map_toArray, List.map_cons, List.map_nil]); first | done | rfl) ?_; (with_reducible refine (field_Valid.calls a0 true _ A3.out).mono ?_); rintro e w' ⟨rfl, ⟨nd, rfl⟩⟩; refine ⟨_, rfl, ?_⟩; (try (rw [drewN_self w8]; generalize q_ : World.drewN w8 _ = w8; have n0_ : Aside0 (Kd.V (Kd.int .u64) 22 w8 w.heap.size (fun k_ => (P1_ k_ ∨ w.heap.size ≤ k_) ∧ k_ ≠ g190) (.slice A1 l1.length c1) l1) := ⟨by rw [← q_]; exact (by (with_reducible repeat (first | apply Kd.V_alloc | apply Kd.V_drewN | apply Kd.V_drew)); exact HO1.out)⟩; have n1_ : Aside0 (w8.heap[g190]? = some (.cells #[.int .u64 0, .int .u64 0] 30 (0, 0))) := ⟨by rw [← q_]; exact (by (with_reducible repeat first | refine blk_drewN ?_ _ | refine blk_drew ?_ | refine blk_alloc ?_ _); exact B190.out)⟩; have n2_ : Aside0 (Below w.heap.size w w8) := ⟨by rw [← q_]; exact (by repeat (first | (with_reducible first | exact HB.out | apply below_alloc | apply pw_below_drewN | apply below_drew1 | refine below_set ?_ GE190.out) | exact HB.out))⟩; clear HO1 B190 HB q_; have HO1 := n0_; have B190 := n1_; have HB := n2_; clear n0_ n1_ n2_))) | ((with_reducible refine gate_callee (f := 35) rfl ?_); refine goesL_ (some 15) rfl rfl Tryd.func35 (by kernel_rfl) rfl #[.int .i64 a0] rfl (by (try simp only [List.map_toArray, List.map_cons, List.map_nil]); first | done | rfl) ?_; (with_reducible refine (sponge_in.calls a0 t192 t193 t194 _ ?side1 A5.out).mono ?_); (case side1 => repeat (first | exact (GL.below HRG.out HB.out) | (with_reducible refine GL.alloc ?_ _) | (with_reducible refine GL.drewN ?_ _) | (with_reducible refine GL.drew ?_))); rintro e w9 ⟨rfl, hb⟩; refine ⟨_, rfl, ?_⟩; have n0_ := Aside0.mk (Kd.V_below (by (with_reducible repeat (first | apply Kd.V_alloc | apply Kd.V_drewN | apply Kd.V_drew)); exact HO1.out) hb); have n1_ := Aside0.mk (blk_below (g := g190) (o := .cells #[.int .u64 0, .int .u64 0] 30 (0, 0)) (by (with_reducible repeat first | refine blk_drewN ?_ _ | refine blk_drew ?_ | refine blk_alloc ?_ _); exact B190.out) hb); have n2_ := Aside0.mk (below_step (by repeat (first | (with_reducible first | exact HB.out | apply below_alloc | apply pw_below_drewN | apply below_drew1 | refine below_set ?_ GE190.out) | exact HB.out)) hb); clear HO1; clear B190; clear HB; have HO1 := n0_; have B190 := n1_; have HB := n2_; clear n0_ n1_ n2_; (try clear hb); (try clear hb2); (try clear hk); (try clear hi)) | ((with_reducible refine gate_dst (N := 5) rfl ?_); refine box_event ?hg (N := 5) ?hd (cs := #[.int .u64 0, .int .u64 0, .bool false]) (t := 45) ?hr ?_; (case hd => rfl); (case hg => rfl); (case hr => first | (go_simp; done) | (go_simp; rfl)); intro g195 hg w10 hbox hb; have n0_ := Aside0.mk (Kd.V_below (Kd.V_elderB (by (with_reducible repeat (first | apply Kd.V_alloc | apply Kd.V_drewN | apply Kd.V_drew)); exact HO1.out) g195 (Nat.le_of_eq hg.symm)) hb); have n1_ := Aside0.mk (blk_below (g := g190) (o := .cells #[.int .u64 0, .int .u64 0] 30 (0, 0)) (by (with_reducible repeat first | refine blk_drewN ?_ _ | refine blk_drew ?_ | refine blk_alloc ?_ _); exact B190.out) hb); have n2_ := Aside0.mk (below_step (by repeat (first | (with_reducible first | exact HB.out | apply below_alloc | apply pw_below_drewN | apply below_drew1 | refine below_set ?_ GE190.out) | exact HB.out)) hb); have n3_ := Aside0.mk (hbox); have n4_ := Aside0.mk ((by rw [hg]; exact (below_size (by repeat (first | (with_reducible first | exact HB.out | apply below_alloc | apply pw_below_drewN | apply below_drew1 | refine below_set ?_ GE190.out) | exact HB.out))) : w.heap.size ≤ g195)); have n5_ := Aside0.mk ((by rw [hg]; exact (below_size (by repeat (first | (with_reducible first | exact HB.out | apply below_alloc | apply pw_below_drewN | apply below_drew1 | refine below_set ?_ GE190.out) | exact HB.out))) : w.heap.size ≤ g195)); have n6_ := Aside0.mk ((by rw [hg]; exact Nat.ne_of_lt (blk_lt (g := g190) (o := .cells #[.int .u64 0, .int .u64 0] 30 (0, 0)) (by (with_reducible repeat first | refine blk_drewN ?_ _ | refine blk_drew ?_ | refine blk_alloc ?_ _); exact B190.out)) : g190 ≠ g195)); have n7_ := Aside0.mk ((by rw [hg]; exact Nat.ne_of_gt (blk_lt (g := g190) (o := .cells #[.int .u64 0, .int .u64 0] 30 (0, 0)) (by (with_reducible repeat first | refine blk_drewN ?_ _ | refine blk_drew ?_ | refine blk_alloc ?_ _); exact B190.out)) : g195 ≠ g190)); clear HO1; clear B190; clear HB; have HO1 := n0_; have B190 := n1_; have HB := n2_; have B195 := n3_; have GW195 := n4_; have GE195 := n5_; have NB190_195 := n6_; have NB195_190 := n7_; clear n0_ n1_ n2_ n3_ n4_ n5_ n6_ n7_; clear hb hbox hg; have hnb11 := NB195_190.out; have hnc11 := NB190_195.out; have hcz12_0 : w10.cell? ⟨g195, 0, none⟩ = some (.int .u64 0) := bq_ B195 0; have hcz12_1 : w10.cell? ⟨g195, 1, none⟩ = some (.int .u64 0) := bq_ B195 1; have hcz12_2 : w10.cell? ⟨g195, 2, none⟩ = some (.bool false) := bq_ B195 2; have hfz12_0 := blk_frozen B195.out 0; have hfz12_1 := blk_frozen B195.out 1; have hfz12_2 := blk_frozen B195.out 2) | ((with_reducible refine gate_dst (N := 6) rfl ?_); refine box_event ?hg (N := 6) ?hd (cs := #[.int .u64 0, .int .u64 0, .int .u64 0, .int .u64 0]) (t := 23) ?hr ?_; (case hd => rfl); (case hg => rfl); (case hr => first | (go_simp; done) | (go_simp; rfl)); intro g196 hg w13 hbox hb; have n0_ := Aside0.mk (Kd.V_below (Kd.V_elderB (by (with_reducible repeat (first | apply Kd.V_alloc | apply Kd.V_drewN | apply Kd.V_drew)); exact (Kd.V_mono (Kd.V_far (p := ⟨g195, 2, none⟩) (Kd.V_far (p := ⟨g195, 1, none⟩) (Kd.V_far (p := ⟨g195, 0, none⟩) (Kd.V_mono HO1.out (fun k_ hk => (⟨hk, hk.2⟩ : _ ∧ k_ ≠ g195))) (fun _ hk => hk.2) (.int .u64 t192)) (fun _ hk => hk.2) (.int .u64 t193)) (fun _ hk => hk.2) (.bool t194)) (fun _ h_ => h_.1))) g196 (Nat.le_of_eq hg.symm)) hb); have n1_ := Aside0.mk (blk_below (g := g190) (o := .cells #[.int .u64 0, .int .u64 0] 30 (0, 0)) (by (with_reducible repeat first | refine blk_drewN ?_ _ | refine blk_drew ?_ | refine blk_alloc ?_ _); refine blk_far ?_ NB190_195.out _; (with_reducible repeat first | refine blk_drewN ?_ _ | refine blk_drew ?_ | refine blk_alloc ?_ _); refine blk_far ?_ NB190_195.out _; (with_reducible repeat first | refine blk_drewN ?_ _ | refine blk_drew ?_ | refine blk_alloc ?_ _); refine blk_far ?_ NB190_195.out _; (with_reducible repeat first | refine blk_drewN ?_ _ | refine blk_drew ?_ | refine blk_alloc ?_ _); exact B190.out) hb); have n2_ := Aside0.mk (blk_below (g := g195) (o := .cells #[.int .u64 t192, .int .u64 t193, .bool t194] 45 (0, 0)) (by (with_reducible repeat first | refine blk_drewN ?_ _ | refine blk_drew ?_ | refine blk_alloc ?_ _); refine blk_put (cs := #[.int .u64 t192, .int .u64 t193, .bool false]) ?_ 2 _ rfl; (with_reducible repeat first | refine blk_drewN ?_ _ | refine blk_drew ?_ | refine blk_alloc ?_ _); refine blk_put (cs := #[.int .u64 t192, .int .u64 0, .bool false]) ?_ 1 _ rfl; (with_reducible repeat first | refine blk_drewN ?_ _ | refine blk_drew ?_ | refine blk_alloc ?_ _); refine blk_put (cs := #[.int .u64 0, .int .u64 0, .bool false]) ?_ 0 _ rfl; (with_reducible repeat first | refine blk_drewN ?_ _ | refine blk_drew ?_ | refine blk_alloc ?_ _); exact B195.out) hb); have n3_ := Aside0.mk (below_step (by repeat (first | (with_reducible first | exact HB.out | apply below_alloc | apply pw_below_drewN | apply below_drew1 | refine below_set ?_ GE190.out | refine below_set ?_ GE195.out) | exact HB.out)) hb); have n4_ := Aside0.mk (hbox); have n5_ := Aside0.mk ((by rw [hg]; exact (below_size (by repeat (first | (with_reducible first | exact HB.out | apply below_alloc | apply pw_below_drewN | apply below_drew1 | refine below_set ?_ GE190.out | refine below_set ?_ GE195.out) | exact HB.out))) : w.heap.size ≤ g196)); have n6_ := Aside0.mk ((by rw [hg]; exact (below_size (by repeat (first | (with_reducible first | exact HB.out | apply below_alloc | apply pw_below_drewN | apply below_drew1 | refine below_set ?_ GE190.out | refine below_set ?_ GE195.out) | exact HB.out))) : w.heap.size ≤ g196)); have n7_ := Aside0.mk ((by rw [hg]; exact Nat.ne_of_lt (blk_lt (g := g190) (o := .cells #[.int .u64 0, .int .u64 0] 30 (0, 0)) (by (with_reducible repeat first | refine blk_drewN ?_ _ | refine blk_drew ?_ | refine blk_alloc ?_ _); refine blk_far ?_ NB190_195.out _; (with_reducible repeat first | refine blk_drewN ?_ _ | refine blk_drew ?_ | refine blk_alloc ?_ _); refine blk_far ?_ NB190_195.out _; (with_reducible repeat first | refine blk_drewN ?_ _ | refine blk_drew ?_ | refine blk_alloc ?_ _); refine blk_far ?_ NB190_195.out _; (with_reducible repeat first | refine blk_drewN ?_ _ | refine blk_drew ?_ | refine blk_alloc ?_ _); exact B190.out)) : g190 ≠ g196)); have n8_ := Aside0.mk ((by rw [hg]; exact Nat.ne_of_gt (blk_lt (g := g190) (o := .cells #[.int .u64 0, .int .u64 0] 30 (0, 0)) (by (with_reducible repeat first | refine blk_drewN ?_ _ | refine blk_drew ?_ | refine blk_alloc ?_ _); refine blk_far ?_ NB190_195.out _; (with_reducible repeat first | refine blk_drewN ?_ _ | refine blk_drew ?_ | refine blk_alloc ?_ _); refine blk_far ?_ NB190_195.out _; (with_reducible repeat first | refine blk_drewN ?_ _ | refine blk_drew ?_ | refine blk_alloc ?_ _); refine blk_far ?_ NB190_195.out _; (with_reducible repeat first | refine blk_drewN ?_ _ | refine blk_drew ?_ | refine blk_alloc ?_ _); exact B190.out)) : g196 ≠ g190)); have n9_ := Aside0.mk ((by rw [hg]; exact Nat.ne_of_lt (blk_lt (g := g195) (o := .cells #[.int .u64 t192, .int .u64 t193, .bool t194] 45 (0, 0)) (by (with_reducible repeat first | refine blk_drewN ?_ _ | refine blk_drew ?_ | refine blk_alloc ?_ _); refine blk_put (cs := #[.int .u64 t192, .int .u64 t193, .bool false]) ?_ 2 _ rfl; (with_reducible repeat first | refine blk_drewN ?_ _ | refine blk_drew ?_ | refine blk_alloc ?_ _); refine blk_put (cs := #[.int .u64 t192, .int .u64 0, .bool false]) ?_ 1 _ rfl; (with_reducible repeat first | refine blk_drewN ?_ _ | refine blk_drew ?_ | refine blk_alloc ?_ _); refine blk_put (cs := #[.int .u64 0, .int .u64 0, .bool false]) ?_ 0 _ rfl; (with_reducible repeat first | refine blk_drewN ?_ _ | refine blk_drew ?_ | refine blk_alloc ?_ _); exact B195.out)) : g195 ≠ g196)); have n10_ := Aside0.mk ((by rw [hg]; exact Nat.ne_of_gt (blk_lt (g := g195) (o := .cells #[.int .u64 t192, .int .u64 t193, .bool t194] 45 (0, 0)) (by (with_reducible repeat first | refine blk_drewN ?_ _ | refine blk_drew ?_ | refine blk_alloc ?_ _); refine blk_put (cs := #[.int .u64 t192, .int .u64 t193, .bool false]) ?_ 2 _ rfl; (with_reducible repeat first | refine blk_drewN ?_ _ | refine blk_drew ?_ | refine blk_alloc ?_ _); refine blk_put (cs := #[.int .u64 t192, .int .u64 0, .bool false]) ?_ 1 _ rfl; (with_reducible repeat first | refine blk_drewN ?_ _ | refine blk_drew ?_ | refine blk_alloc ?_ _); refine blk_put (cs := #[.int .u64 0, .int .u64 0, .bool false]) ?_ 0 _ rfl; (with_reducible repeat first | refine blk_drewN ?_ _ | refine blk_drew ?_ | refine blk_alloc ?_ _); exact B195.out)) : g196 ≠ g195)); clear HO1; clear B190; clear B195; clear HB; have HO1 := n0_; have B190 := n1_; have B195 := n2_; have HB := n3_; have B196 := n4_; have GW196 := n5_; have GE196 := n6_; have NB190_196 := n7_; have NB196_190 := n8_; have NB195_196 := n9_; have NB196_195 := n10_; clear n0_ n1_ n2_ n3_ n4_ n5_ n6_ n7_ n8_ n9_ n10_; clear hb hbox hg; have hnb14 := NB196_190.out; have hnc14 := NB190_196.out; have hnb15 := NB196_195.out; have hnc15 := NB195_196.out; have hcz16_0 : w13.cell? ⟨g196, 0, none⟩ = some (.int .u64 0) := bq_ B196 0; have hcz16_1 : w13.cell? ⟨g196, 1, none⟩ = some (.int .u64 0) := bq_ B196 1; have hcz16_2 : w13.cell? ⟨g196, 2, none⟩ = some (.int .u64 0) := bq_ B196 2; have hcz16_3 : w13.cell? ⟨g196, 3, none⟩ = some (.int .u64 0) := bq_ B196 3; have hfz16_0 := blk_frozen B196.out 0; have hfz16_1 := blk_frozen B196.out 1; have hfz16_2 := blk_frozen B196.out 2; have hfz16_3 := blk_frozen B196.out 3))
   (try simp only [Act.put, sa_, sb_, sc_])
   go_cut [] (fun wc => ∃ (kq : Nat) (x197000_6 : Int) (x197001_6 : Int) (x197002_6 : Int) (x197003_6 : Int), Aside0 (sponge_Hash.j0 kq l1 t192 t193 t194 x197000_6 x197001_6 x197002_6 x197003_6 = some (r1, r2)) ∧ Aside0 (kq ≤ k) ∧ Aside0 (Kd.V (Kd.int .u64) 22 wc w.heap.size (fun k_ => (P1_ k_ ∨ w.heap.size ≤ k_) ∧ k_ ≠ g190 ∧ k_ ≠ g195 ∧ k_ ≠ g196) (.slice A1 l1.length c1) l1) ∧ Aside0 (wc.heap[g190]? = some (.cells #[.int .u64 0, .int .u64 0] 30 (0, 0))) ∧ Aside0 (wc.heap[g195]? = some (.cells #[.int .u64 t192, .int .u64 t193, .bool t194] 45 (0, 0))) ∧ Aside0 (wc.heap[g196]? = some (.cells #[.int .u64 x197000_6, .int .u64 x197001_6, .int .u64 x197002_6, .int .u64 x197003_6] 23 (0, 0))) ∧ Aside0 (Below w.heap.size w wc))
   case first =>
    have H := HC7.out
    clear HC7
    by_cases c17 : (l1.length : Int) = 0
    ·rw [if_pos c17] at H
     have c17b0 : ((l1.length : Int) == 0) = true := beq_iff_eq.mpr c17
     have c17b1 : ((l1.length : Int) != 0) = false := bne_eq_false_iff_eq.mpr c17
     clear c17
     (first | rw [c17b0] | (simp only [i64_w, i32_w]; rw [c17b0]) | skip)
     replace H := Option.bind_eq_some_iff.mp H
     obtain ⟨⟨t197, t198, t199, t200⟩, A180, H⟩ := H
     replace H : (sponge_Hash.j0 k l1 t192 t193 t194 t197 t198 t199 t200) = some (r1, r2) := H
     have A18 := Aside0.mk A180
     clear A180
     have H' := Aside0.mk H
     clear H
     have hnb19 := NB195_190.out
     have hnc19 := NB190_195.out
     have hnb20 := NB195_196.out
     have hnc20 := NB196_195.out
     have hcz21_0 : w13.cell? ⟨g195, 0, none⟩ = some (.int .u64 t192) := bq_ B195 0
     have hcz21_1 : w13.cell? ⟨g195, 1, none⟩ = some (.int .u64 t193) := bq_ B195 1
     have hcz21_2 : w13.cell? ⟨g195, 2, none⟩ = some (.bool t194) := bq_ B195 2
     have hfz21_0 := blk_frozen B195.out 0
     have hfz21_1 := blk_frozen B195.out 1
     have hfz21_2 := blk_frozen B195.out 2
     have hnb22 := NB196_190.out
     have hnc22 := NB190_196.out
     have hcz23_0 : w13.cell? ⟨g196, 0, none⟩ = some (.int .u64 0) := bq_ B196 0
     have hcz23_1 : w13.cell? ⟨g196, 1, none⟩ = some (.int .u64 0) := bq_ B196 1
     have hcz23_2 : w13.cell? ⟨g196, 2, none⟩ = some (.int .u64 0) := bq_ B196 2
     have hcz23_3 : w13.cell? ⟨g196, 3, none⟩ = some (.int .u64 0) := bq_ B196 3
     have hfz23_0 := blk_frozen B196.out 0
     have hfz23_1 := blk_frozen B196.out 1
     have hfz23_2 := blk_frozen B196.out 2
     have hfz23_3 := blk_frozen B196.out 3
     go_wp2_with (first | ((with_reducible refine gate_callee (f := 42) rfl ?_); refine goesL_ (some 28) rfl rfl Tryd.func42 (by kernel_rfl) rfl #[.agg #[.int .u64 t192, .int .u64 t193, .bool t194], .agg #[.int .u64 0, .int .u64 0, .int .u64 (Int.tmod (IntKind.u64.wrap ((l1.length : Int))) t192), .int .u64 0]] rfl (by (try simp only [List.map_toArray, List.map_cons, List.map_nil]); first | done | rfl) ?_; (with_reducible refine (sponge_mixer_perm.calls t192 t193 t194 0 0 (Int.tmod (IntKind.u64.wrap ((l1.length : Int))) t192) 0 t197 t198 t199 t200 _ A18.out).mono ?_); rintro e w24 ⟨rfl, hb⟩; refine ⟨_, rfl, ?_⟩; have n0_ := Aside0.mk (Kd.V_below (by (with_reducible repeat (first | apply Kd.V_alloc | apply Kd.V_drewN | apply Kd.V_drew)); exact (Kd.V_mono (Kd.V_far (p := ⟨g196, 3, none⟩) (Kd.V_far (p := ⟨g196, 2, none⟩) (Kd.V_far (p := ⟨g196, 1, none⟩) (Kd.V_far (p := ⟨g196, 0, none⟩) (Kd.V_mono HO1.out (fun k_ hk => (⟨hk, hk.2⟩ : _ ∧ k_ ≠ g196))) (fun _ hk => hk.2) (.int .u64 0)) (fun _ hk => hk.2) (.int .u64 0)) (fun _ hk => hk.2) (.int .u64 (Int.tmod (IntKind.u64.wrap ((l1.length : Int))) t192))) (fun _ hk => hk.2) (.int .u64 0)) (fun _ h_ => h_.1))) hb); have n1_ := Aside0.mk (blk_below (g := g190) (o := .cells #[.int .u64 0, .int .u64 0] 30 (0, 0)) (by (with_reducible repeat first | refine blk_drewN ?_ _ | refine blk_drew ?_ | refine blk_alloc ?_ _); refine blk_far ?_ NB190_196.out _; (with_reducible repeat first | refine blk_drewN ?_ _ | refine blk_drew ?_ | refine blk_alloc ?_ _); refine blk_far ?_ NB190_196.out _; (with_reducible repeat first | refine blk_drewN ?_ _ | refine blk_drew ?_ | refine blk_alloc ?_ _); refine blk_far ?_ NB190_196.out _; (with_reducible repeat first | refine blk_drewN ?_ _ | refine blk_drew ?_ | refine blk_alloc ?_ _); refine blk_far ?_ NB190_196.out _; (with_reducible repeat first | refine blk_drewN ?_ _ | refine blk_drew ?_ | refine blk_alloc ?_ _); exact B190.out) hb); have n2_ := Aside0.mk (blk_below (g := g195) (o := .cells #[.int .u64 t192, .int .u64 t193, .bool t194] 45 (0, 0)) (by (with_reducible repeat first | refine blk_drewN ?_ _ | refine blk_drew ?_ | refine blk_alloc ?_ _); refine blk_far ?_ NB195_196.out _; (with_reducible repeat first | refine blk_drewN ?_ _ | refine blk_drew ?_ | refine blk_alloc ?_ _); refine blk_far ?_ NB195_196.out _; (with_reducible repeat first | refine blk_drewN ?_ _ | refine blk_drew ?_ | refine blk_alloc ?_ _); refine blk_far ?_ NB195_196.out _; (with_reducible repeat first | refine blk_drewN ?_ _ | refine blk_drew ?_ | refine blk_alloc ?_ _); refine blk_far ?_ NB195_196.out _; (with_reducible repeat first | refine blk_drewN ?_ _ | refine blk_drew ?_ | refine blk_alloc ?_ _); exact B195.out) hb); have n3_ := Aside0.mk (blk_below (g := g196) (o := .cells #[.int .u64 0, .int .u64 0, .int .u64 (Int.tmod (IntKind.u64.wrap ((l1.length : Int))) t192), .int .u64 0] 23 (0, 0)) (by (with_reducible repeat first | refine blk_drewN ?_ _ | refine blk_drew ?_ | refine blk_alloc ?_ _); refine blk_put (cs := #[.int .u64 0, .int .u64 0, .int .u64 (Int.tmod (IntKind.u64.wrap ((l1.length : Int))) t192), .int .u64 0]) ?_ 3 _ rfl; (with_reducible repeat first | refine blk_drewN ?_ _ | refine blk_drew ?_ | refine blk_alloc ?_ _); refine blk_put (cs := #[.int .u64 0, .int .u64 0, .int .u64 0, .int .u64 0]) ?_ 2 _ rfl; (with_reducible repeat first | refine blk_drewN ?_ _ | refine blk_drew ?_ | refine blk_alloc ?_ _); refine blk_put (cs := #[.int .u64 0, .int .u64 0, .int .u64 0, .int .u64 0]) ?_ 1 _ rfl; (with_reducible repeat first | refine blk_drewN ?_ _ | refine blk_drew ?_ | refine blk_alloc ?_ _); refine blk_put (cs := #[.int .u64 0, .int .u64 0, .int .u64 0, .int .u64 0]) ?_ 0 _ rfl; (with_reducible repeat first | refine blk_drewN ?_ _ | refine blk_drew ?_ | refine blk_alloc ?_ _); exact B196.out) hb); have n4_ := Aside0.mk (below_step (by repeat (first | (with_reducible first | exact HB.out | apply below_alloc | apply pw_below_drewN | apply below_drew1 | refine below_set ?_ GE190.out | refine below_set ?_ GE195.out | refine below_set ?_ GE196.out) | exact HB.out)) hb); clear HO1; clear B190; clear B195; clear B196; clear HB; have HO1 := n0_; have B190 := n1_; have B195 := n2_; have B196 := n3_; have HB := n4_; clear n0_ n1_ n2_ n3_ n4_; (try clear hb); (try clear hb2); (try clear hk); (try clear hi); have hcz25_0 : w24.cell? ⟨g196, 0, none⟩ = some (.int .u64 0) := bq_ B196 0; have hcz25_1 : w24.cell? ⟨g196, 1, none⟩ = some (.int .u64 0) := bq_ B196 1; have hcz25_2 : w24.cell? ⟨g196, 2, none⟩ = some (.int .u64 (Int.tmod (IntKind.u64.wrap ((l1.length : Int))) t192)) := bq_ B196 2; have hcz25_3 : w24.cell? ⟨g196, 3, none⟩ = some (.int .u64 0) := bq_ B196 3; have hfz25_0 := blk_frozen B196.out 0; have hfz25_1 := blk_frozen B196.out 1; have hfz25_2 := blk_frozen B196.out 2; have hfz25_3 := blk_frozen B196.out 3))
     go_meet
     case rel => exact ⟨_, (t197), (t198), (t199), (t200), H', ⟨by first | omega | exact Nat.le_refl _⟩, ⟨by (with_reducible repeat (first | apply Kd.V_alloc | apply Kd.V_drewN | apply Kd.V_drew)); exact Kd.V_mono (Kd.V_far (p := ⟨g196, 3, none⟩) (Kd.V_far (p := ⟨g196, 2, none⟩) (Kd.V_far (p := ⟨g196, 1, none⟩) (Kd.V_far (p := ⟨g196, 0, none⟩) (Kd.V_mono HO1.out (fun k_ hk => (⟨hk, hk.2⟩ : _ ∧ k_ ≠ g196))) (fun _ hk => hk.2) (.int .u64 t197)) (fun _ hk => hk.2) (.int .u64 t198)) (fun _ hk => hk.2) (.int .u64 t199)) (fun _ hk => hk.2) (.int .u64 t200)) (fun _ hk => ⟨hk.1.1.1.1, ⟨hk.1.1.1.2, ⟨hk.1.1.2, hk.1.2⟩⟩⟩)⟩, ⟨by (with_reducible repeat first | refine blk_drewN ?_ _ | refine blk_drew ?_ | refine blk_alloc ?_ _); refine blk_far ?_ NB190_196.out _; (with_reducible repeat first | refine blk_drewN ?_ _ | refine blk_drew ?_ | refine blk_alloc ?_ _); refine blk_far ?_ NB190_196.out _; (with_reducible repeat first | refine blk_drewN ?_ _ | refine blk_drew ?_ | refine blk_alloc ?_ _); refine blk_far ?_ NB190_196.out _; (with_reducible repeat first | refine blk_drewN ?_ _ | refine blk_drew ?_ | refine blk_alloc ?_ _); refine blk_far ?_ NB190_196.out _; (with_reducible repeat first | refine blk_drewN ?_ _ | refine blk_drew ?_ | refine blk_alloc ?_ _); exact B190.out⟩, ⟨by (with_reducible repeat first | refine blk_drewN ?_ _ | refine blk_drew ?_ | refine blk_alloc ?_ _); refine blk_far ?_ NB195_196.out _; (with_reducible repeat first | refine blk_drewN ?_ _ | refine blk_drew ?_ | refine blk_alloc ?_ _); refine blk_far ?_ NB195_196.out _; (with_reducible repeat first | refine blk_drewN ?_ _ | refine blk_drew ?_ | refine blk_alloc ?_ _); refine blk_far ?_ NB195_196.out _; (with_reducible repeat first | refine blk_drewN ?_ _ | refine blk_drew ?_ | refine blk_alloc ?_ _); refine blk_far ?_ NB195_196.out _; (with_reducible repeat first | refine blk_drewN ?_ _ | refine blk_drew ?_ | refine blk_alloc ?_ _); exact B195.out⟩, ⟨by (with_reducible repeat first | refine blk_drewN ?_ _ | refine blk_drew ?_ | refine blk_alloc ?_ _); refine blk_put (cs := #[.int .u64 t197, .int .u64 t198, .int .u64 t199, .int .u64 0]) ?_ 3 _ rfl; (with_reducible repeat first | refine blk_drewN ?_ _ | refine blk_drew ?_ | refine blk_alloc ?_ _); refine blk_put (cs := #[.int .u64 t197, .int .u64 t198, .int .u64 (Int.tmod (IntKind.u64.wrap ((l1.length : Int))) t192), .int .u64 0]) ?_ 2 _ rfl; (with_reducible repeat first | refine blk_drewN ?_ _ | refine blk_drew ?_ | refine blk_alloc ?_ _); refine blk_put (cs := #[.int .u64 t197, .int .u64 0, .int .u64 (Int.tmod (IntKind.u64.wrap ((l1.length : Int))) t192), .int .u64 0]) ?_ 1 _ rfl; (with_reducible repeat first | refine blk_drewN ?_ _ | refine blk_drew ?_ | refine blk_alloc ?_ _); refine blk_put (cs := #[.int .u64 0, .int .u64 0, .int .u64 (Int.tmod (IntKind.u64.wrap ((l1.length : Int))) t192), .int .u64 0]) ?_ 0 _ rfl; (with_reducible repeat first | refine blk_drewN ?_ _ | refine blk_drew ?_ | refine blk_alloc ?_ _); exact B196.out⟩, ⟨by repeat (first | (with_reducible first | exact HB.out | apply below_alloc | apply pw_below_drewN | apply below_drew1 | refine below_set ?_ GE190.out | refine below_set ?_ GE195.out | refine below_set ?_ GE196.out) | exact HB.out)⟩⟩
    ·rw [if_neg c17] at H
     have c17b0 : ((l1.length : Int) == 0) = false := beq_eq_false_iff_ne.mpr c17
     have c17b1 : ((l1.length : Int) != 0) = true := bne_iff_ne.mpr c17
     have c17b2 : ¬ (l1 = []) := fun h_ => c17 (by rw [h_]; rfl)
     (first | rw [c17b0] | (simp only [i64_w, i32_w]; rw [c17b0]) | skip)
     have H' := Aside0.mk H
     clear H
     go_wp2
     go_meet
     case rel => exact ⟨_, (0), (0), (Int.tmod (IntKind.u64.wrap ((l1.length : Int))) t192), (0), H', ⟨by first | omega | exact Nat.le_refl _⟩, ⟨by (with_reducible repeat (first | apply Kd.V_alloc | apply Kd.V_drewN | apply Kd.V_drew)); exact Kd.V_mono (Kd.V_far (p := ⟨g196, 3, none⟩) (Kd.V_far (p := ⟨g196, 2, none⟩) (Kd.V_far (p := ⟨g196, 1, none⟩) (Kd.V_far (p := ⟨g196, 0, none⟩) (Kd.V_mono HO1.out (fun k_ hk => (⟨hk, hk.2⟩ : _ ∧ k_ ≠ g196))) (fun _ hk => hk.2) (.int .u64 0)) (fun _ hk => hk.2) (.int .u64 0)) (fun _ hk => hk.2) (.int .u64 (Int.tmod (IntKind.u64.wrap ((l1.length : Int))) t192))) (fun _ hk => hk.2) (.int .u64 0)) (fun _ hk => ⟨hk.1.1.1.1, ⟨hk.1.1.1.2, ⟨hk.1.1.2, hk.1.2⟩⟩⟩)⟩, ⟨by (with_reducible repeat first | refine blk_drewN ?_ _ | refine blk_drew ?_ | refine blk_alloc ?_ _); refine blk_far ?_ NB190_196.out _; (with_reducible repeat first | refine blk_drewN ?_ _ | refine blk_drew ?_ | refine blk_alloc ?_ _); refine blk_far ?_ NB190_196.out _; (with_reducible repeat first | refine blk_drewN ?_ _ | refine blk_drew ?_ | refine blk_alloc ?_ _); refine blk_far ?_ NB190_196.out _; (with_reducible repeat first | refine blk_drewN ?_ _ | refine blk_drew ?_ | refine blk_alloc ?_ _); refine blk_far ?_ NB190_196.out _; (with_reducible repeat first | refine blk_drewN ?_ _ | refine blk_drew ?_ | refine blk_alloc ?_ _); exact B190.out⟩, ⟨by (with_reducible repeat first | refine blk_drewN ?_ _ | refine blk_drew ?_ | refine blk_alloc ?_ _); refine blk_far ?_ NB195_196.out _; (with_reducible repeat first | refine blk_drewN ?_ _ | refine blk_drew ?_ | refine blk_alloc ?_ _); refine blk_far ?_ NB195_196.out _; (with_reducible repeat first | refine blk_drewN ?_ _ | refine blk_drew ?_ | refine blk_alloc ?_ _); refine blk_far ?_ NB195_196.out _; (with_reducible repeat first | refine blk_drewN ?_ _ | refine blk_drew ?_ | refine blk_alloc ?_ _); refine blk_far ?_ NB195_196.out _; (with_reducible repeat first | refine blk_drewN ?_ _ | refine blk_drew ?_ | refine blk_alloc ?_ _); exact B195.out⟩, ⟨by (with_reducible repeat first | refine blk_drewN ?_ _ | refine blk_drew ?_ | refine blk_alloc ?_ _); refine blk_put (cs := #[.int .u64 0, .int .u64 0, .int .u64 (Int.tmod (IntKind.u64.wrap ((l1.length : Int))) t192), .int .u64 0]) ?_ 3 _ rfl; (with_reducible repeat first | refine blk_drewN ?_ _ | refine blk_drew ?_ | refine blk_alloc ?_ _); refine blk_put (cs := #[.int .u64 0, .int .u64 0, .int .u64 0, .int .u64 0]) ?_ 2 _ rfl; (with_reducible repeat first | refine blk_drewN ?_ _ | refine blk_drew ?_ | refine blk_alloc ?_ _); refine blk_put (cs := #[.int .u64 0, .int .u64 0, .int .u64 0, .int .u64 0]) ?_ 1 _ rfl; (with_reducible repeat first | refine blk_drewN ?_ _ | refine blk_drew ?_ | refine blk_alloc ?_ _); refine blk_put (cs := #[.int .u64 0, .int .u64 0, .int .u64 0, .int .u64 0]) ?_ 0 _ rfl; (with_reducible repeat first | refine blk_drewN ?_ _ | refine blk_drew ?_ | refine blk_alloc ?_ _); exact B196.out⟩, ⟨by repeat (first | (with_reducible first | exact HB.out | apply below_alloc | apply pw_below_drewN | apply below_drew1 | refine below_set ?_ GE190.out | refine below_set ?_ GE195.out | refine below_set ?_ GE196.out) | exact HB.out)⟩⟩
   case rest =>
    clear HC7
    try clear c1
    try clear c2
    try clear p2
    try clear c3
    try clear c4
    try clear c6
    try clear c6b0
    try clear c6b1
    try clear c11
    try clear c14
    try clear c15
    try clear c17
    try clear c17b0
    try clear c17b1
    try clear c17b2
    try clear c19
    try clear c20
    try clear c22
    try clear hcz12_0
    try clear hcz12_1
    try clear hcz12_2
    try clear hcz16_0
    try clear hcz16_1
    try clear hcz16_2
    try clear hcz16_3
    try clear hcz21_0
    try clear hcz21_1
    try clear hcz21_2
    try clear hcz23_0
    try clear hcz23_1
    try clear hcz23_2
    try clear hcz23_3
    try clear hcz25_0
    try clear hcz25_1
    try clear hcz25_2
    try clear hcz25_3
    try clear hfz12_0
    try clear hfz12_1
    try clear hfz12_2
    try clear hfz16_0
    try clear hfz16_1
    try clear hfz16_2
    try clear hfz16_3
    try clear hfz21_0
    try clear hfz21_1
    try clear hfz21_2
    try clear hfz23_0
    try clear hfz23_1
    try clear hfz23_2
    try clear hfz23_3
    try clear hfz25_0
    try clear hfz25_1
    try clear hfz25_2
    try clear hfz25_3
    obtain ⟨kq, x197000_6, x197001_6, x197002_6, x197003_6, HA, HJ6, HO_1, B190, B195, B196, HB⟩ := hcut
    cases kq with
    | zero => exact absurd HA.out (by simp [sponge_Hash.j0])
    | succ kj6 =>
     have H := HA.out
     clear HA
     simp only [sponge_Hash.j0] at H
     have H' := Aside0.mk H
     clear H
     go_wp2
     go_loopg [1] kj6 (fun kq v1 w' => ∃ (x1_2 : List Int) (x197000_2 : Int) (x197001_2 : Int) (x197002_2 : Int) (x197003_2 : Int), Aside0 (sponge_Hash.l0 kq x1_2 t192 t193 t194 x197000_2 x197001_2 x197002_2 x197003_2 = some (r1, r2)) ∧ Aside0 (kq ≤ kj6) ∧ Aside0 (Kd.V (Kd.int .u64) 22 w' w.heap.size (fun k_ => (P1_ k_ ∨ w.heap.size ≤ k_) ∧ k_ ≠ g190 ∧ k_ ≠ g195 ∧ k_ ≠ g196) v1 x1_2) ∧ Aside0 (w'.heap[g190]? = some (.cells #[.int .u64 0, .int .u64 0] 30 (0, 0))) ∧ Aside0 (w'.heap[g195]? = some (.cells #[.int .u64 t192, .int .u64 t193, .bool t194] 45 (0, 0))) ∧ Aside0 (w'.heap[g196]? = some (.cells #[.int .u64 x197000_2, .int .u64 x197001_2, .int .u64 x197002_2, .int .u64 x197003_2] 23 (0, 0))) ∧ Aside0 (Below w.heap.size w w'))
     case atStart => exact ⟨(l1), (x197000_6), (x197001_6), (x197002_6), (x197003_6), H', ⟨Nat.le_refl _⟩, ⟨by (with_reducible repeat (first | apply Kd.V_alloc | apply Kd.V_drewN | apply Kd.V_drew)); exact HO_1.out⟩, ⟨by (with_reducible repeat first | refine blk_drewN ?_ _ | refine blk_drew ?_ | refine blk_alloc ?_ _); exact B190.out⟩, ⟨by (with_reducible repeat first | refine blk_drewN ?_ _ | refine blk_drew ?_ | refine blk_alloc ?_ _); exact B195.out⟩, ⟨by (with_reducible repeat first | refine blk_drewN ?_ _ | refine blk_drew ?_ | refine blk_alloc ?_ _); exact B196.out⟩, ⟨by repeat (first | (with_reducible first | exact HB.out | apply below_alloc | apply pw_below_drewN | apply below_drew1 | refine below_set ?_ GE190.out | refine below_set ?_ GE195.out | refine below_set ?_ GE196.out) | exact HB.out)⟩⟩
     case round =>
      clear H'
      try clear c1
      try clear c2
      try clear p2
      try clear c3
      try clear c4
      try clear c6
      try clear c6b0
      try clear c6b1
      try clear c11
      try clear c14
      try clear c15
      try clear c17
      try clear c17b0
      try clear c17b1
      try clear c17b2
      try clear c19
      try clear c20
      try clear c22
      try clear hcz12_0
      try clear hcz12_1
      try clear hcz12_2
      try clear hcz16_0
      try clear hcz16_1
      try clear hcz16_2
      try clear hcz16_3
      try clear hcz21_0
      try clear hcz21_1
      try clear hcz21_2
      try clear hcz23_0
      try clear hcz23_1
      try clear hcz23_2
      try clear hcz23_3
      try clear hcz25_0
      try clear hcz25_1
      try clear hcz25_2
      try clear hcz25_3
      try clear hfz12_0
      try clear hfz12_1
      try clear hfz12_2
      try clear hfz16_0
      try clear hfz16_1
      try clear hfz16_2
      try clear hfz16_3
      try clear hfz21_0
      try clear hfz21_1
      try clear hfz21_2
      try clear hfz23_0
      try clear hfz23_1
      try clear hfz23_2
      try clear hfz23_3
      try clear hfz25_0
      try clear hfz25_1
      try clear hfz25_2
      try clear hfz25_3
      try clear p2
      obtain ⟨x1_2, x197000_2, x197001_2, x197002_2, x197003_2, HA, HK2, HO_1, B190, B195, B196, HB⟩ := hrel
      cases gk with
      | zero => exact absurd HA.out (by simp [sponge_Hash.l0])
      | succ k2 =>
       have H := HA.out
       clear HA
       simp only [sponge_Hash.l0] at H
       by_cases c26 : (x1_2.length : Int) > 0
       ·rw [if_pos c26] at H
        have c26b0 : decide (0 < (x1_2.length : Int)) = true := decide_eq_true c26
        have c26b1 : decide (0 < x1_2.length) = true := decide_eq_true (by omega)
        clear c26
        obtain ⟨ji27, hji27⟩ : ∃ j_ : Int, (mn 2 (x1_2.length : Int)) = j_ := ⟨_, rfl⟩
        replace H : (if 0 ≤ (ji27) then (if (ji27) ≤ (x1_2.length : Int) then ((some (x1_2.take ((ji27) : Int).toNat : List Int)).bind fun y201 => (sponge_Hash.l1 k2 x1_2 ji27 y201 (y201.length : Int) 0 t192 t193 t194 x197000_2 x197001_2 x197002_2 x197003_2)) else (none)) else (none)) = some (r1, r2) := by first | (rw [hji27] at H; exact H) | (simp only [hji27] at H ⊢; exact H)
        have hji27_ : (if (x1_2.length : Int) < 2 then (x1_2.length : Int) else 2) = ji27 := hji27
        by_cases c28 : 0 ≤ (ji27)
        ·rw [if_pos c28] at H
         have c28b0 := eq_true c28
         have c28b1 : decide (0 ≤ (ji27)) = true := decide_eq_true c28
         clear c28
         by_cases c29 : (ji27) ≤ (x1_2.length : Int)
         ·rw [if_pos c29] at H
          have c29b0 := eq_true c29
          have c29b1 : decide ((ji27) ≤ (x1_2.length : Int)) = true := decide_eq_true c29
          clear c29
          obtain ⟨y201, hy201⟩ : ∃ y_ : List Int, y_ = (x1_2.take ((ji27) : Int).toNat) := ⟨_, rfl⟩
          replace H : (sponge_Hash.l1 k2 x1_2 ji27 y201 (y201.length : Int) 0 t192 t193 t194 x197000_2 x197001_2 x197002_2 x197003_2) = some (r1, r2) := by first | (rw [hy201]; with_reducible exact H) | (have H2_ := (Option.bind_some _ _).symm.trans H; rw [hy201]; with_reducible exact H2_) | (have H2_ := (Option.bind_some _ _).symm.trans H; with_reducible exact H2_) | with_reducible exact H | (rw [hy201]; exact H) | exact H
          have Ny201 := Aside0.mk hy201
          clear hy201
          have H' := Aside0.mk H
          clear H
          obtain ⟨Ao30, co30, eo30⟩ := Kd.V_slice HO_1.out
          subst eo30
          have q31 : ((ji27) : Int) ≤ ((x1_2.length : Int) : Int) := of_decide_eq_true (by first | (with_reducible assumption) | assumption)
          obtain ⟨i031, hi031, _, hsz31, _⟩ := info_parts info22
          have hroom31 : x1_2.length ≤ co30 := (Kd.V_reads' HO_1.out).2.1
          have hC31 : Kd.F (Kd.int .u64) _ _ Ao30 x1_2.length x1_2 := (Kd.V_at (base := w.heap.size) HO_1.out).2.2
          have hcut31 := cut_to (P := Tryd.prog) 28 22 .i64 Tryd.underlying28 hi031 Ao30 x1_2.length co30 (ji27) (of_decide_eq_true (by first | (with_reducible assumption) | assumption)) q31 hroom31
          have hr31 := Kd.F_take (m := ((ji27) : Int).toNat) hC31 (by omega)
          have hy31 : y201.length = ((ji27) : Int).toNat := (by rw [Ny201.out, List.length_take]; omega)
          rw [← Ny201.out] at hr31
          rw [← hy31] at hcut31
          have HO205 := Aside0.mk (show Kd.V (Kd.int .u64) 22 _ w.heap.size _ (.slice Ao30 y201.length co30) y201 from Kd.V_mk (by omega) hr31)
          have HC205 := Aside0.mk (show y201.length ≤ co30 from by omega)
          clear hr31 hC31 hroom31 hi031 hsz31
          have KY31 := Aside0.mk hy31
          clear hy31
          replace q31 := eq_true q31
          go_wp2
          go_loopg [39] k2 (fun kq v39 w' => ∃ (x39_3 : Int) (x197000_3 : Int) (x197001_3 : Int) (x197002_3 : Int) (x197003_3 : Int), v39 = .int .i64 x39_3 ∧ Aside0 (sponge_Hash.l1 kq x1_2 ji27 y201 (y201.length : Int) x39_3 t192 t193 t194 x197000_3 x197001_3 x197002_3 x197003_3 = some (r1, r2)) ∧ Aside0 (kq ≤ k2) ∧ Aside0 (Kd.V (Kd.int .u64) 22 w' w.heap.size (fun k_ => (P1_ k_ ∨ w.heap.size ≤ k_) ∧ k_ ≠ g190 ∧ k_ ≠ g195 ∧ k_ ≠ g196) (.slice Ao30 x1_2.length co30) x1_2) ∧ Aside0 (Kd.V (Kd.int .u64) 22 w' w.heap.size (fun k_ => (P1_ k_ ∨ w.heap.size ≤ k_) ∧ k_ ≠ g190 ∧ k_ ≠ g195 ∧ k_ ≠ g196) (.slice Ao30 y201.length co30) y201) ∧ Aside0 (w'.heap[g190]? = some (.cells #[.int .u64 0, .int .u64 0] 30 (0, 0))) ∧ Aside0 (w'.heap[g195]? = some (.cells #[.int .u64 t192, .int .u64 t193, .bool t194] 45 (0, 0))) ∧ Aside0 (w'.heap[g196]? = some (.cells #[.int .u64 x197000_3, .int .u64 x197001_3, .int .u64 x197002_3, .int .u64 x197003_3] 23 (0, 0))) ∧ Aside0 (Below w.heap.size w w'))
          case atStart => exact ⟨(0), (x197000_2), (x197001_2), (x197002_2), (x197003_2), (by first | rfl | (simp; done) | (simp [*]; done) | (simp; rfl) | (simp; decide +kernel)), H', ⟨Nat.le_refl _⟩, ⟨by (with_reducible repeat (first | apply Kd.V_alloc | apply Kd.V_drewN | apply Kd.V_drew)); exact HO_1.out⟩, ⟨by (with_reducible repeat (first | apply Kd.V_alloc | apply Kd.V_drewN | apply Kd.V_drew)); exact HO205.out⟩, ⟨by (with_reducible repeat first | refine blk_drewN ?_ _ | refine blk_drew ?_ | refine blk_alloc ?_ _); exact B190.out⟩, ⟨by (with_reducible repeat first | refine blk_drewN ?_ _ | refine blk_drew ?_ | refine blk_alloc ?_ _); exact B195.out⟩, ⟨by (with_reducible repeat first | refine blk_drewN ?_ _ | refine blk_drew ?_ | refine blk_alloc ?_ _); exact B196.out⟩, ⟨by repeat (first | (with_reducible first | exact HB.out | apply below_alloc | apply pw_below_drewN | apply below_drew1 | refine below_set ?_ GE190.out | refine below_set ?_ GE195.out | refine below_set ?_ GE196.out) | exact HB.out)⟩⟩
          case round =>
           clear H'
           try clear c1
           try clear c2
           try clear p2
           try clear c3
           try clear q3
           try clear c4
           try clear c6
           try clear c6b0
           try clear c6b1
           try clear c11
           try clear c14
           try clear c15
           try clear c17
           try clear c17b0
           try clear c17b1
           try clear c17b2
           try clear c19
           try clear c20
           try clear c22
           try clear c26
           try clear c26b0
           try clear c26b1
           try clear c28
           try clear c28b0
           try clear c28b1
           try clear c29
           try clear c29b0
           try clear c29b1
           try clear q31
           try clear hcz12_0
           try clear hcz12_1
           try clear hcz12_2
           try clear hcz16_0
           try clear hcz16_1
           try clear hcz16_2
           try clear hcz16_3
           try clear hcz21_0
           try clear hcz21_1
           try clear hcz21_2
           try clear hcz23_0
           try clear hcz23_1
           try clear hcz23_2
           try clear hcz23_3
           try clear hcz25_0
           try clear hcz25_1
           try clear hcz25_2
           try clear hcz25_3
           try clear hfz12_0
           try clear hfz12_1
           try clear hfz12_2
           try clear hfz16_0
           try clear hfz16_1
           try clear hfz16_2
           try clear hfz16_3
           try clear hfz21_0
           try clear hfz21_1
           try clear hfz21_2
           try clear hfz23_0
           try clear hfz23_1
           try clear hfz23_2
           try clear hfz23_3
           try clear hfz25_0
           try clear hfz25_1
           try clear hfz25_2
           try clear hfz25_3
           try clear p2
           try clear q31
           obtain ⟨x39_3, x197000_3, x197001_3, x197002_3, x197003_3, rfl, HA, HK3, HO_1, HO_37, B190, B195, B196, HB⟩ := hrel
           cases gk with
           | zero => exact absurd HA.out (by simp [sponge_Hash.l1])
           | succ k3 =>
            have H := HA.out
            clear HA
            simp only [sponge_Hash.l1] at H
            by_cases c32 : x39_3 < (y201.length : Int)
            ·rw [if_pos c32] at H
             have c32b0 : decide (x39_3 < (y201.length : Int)) = true := decide_eq_true c32
             clear c32
             by_cases c33 : 0 ≤ x39_3
             ·rw [if_pos c33] at H
              have c33b0 : decide (0 ≤ x39_3) = true := decide_eq_true c33
              clear c33
              by_cases c34 : x39_3 < (y201.length : Int)
              ·rw [if_pos c34] at H
               have c34b0 : decide (x39_3 < (y201.length : Int)) = true := decide_eq_true c34
               clear c34
               by_cases c35 : x39_3 = 0
               ·rw [if_pos c35] at H
                subst c35
                by_cases c36 : t192 = 0
                ·rw [if_pos c36] at H
                 exact absurd H (by simp)
                ·rw [if_neg c36] at H
                 have c36b0 : (t192 == 0) = false := beq_eq_false_iff_ne.mpr c36
                 have c36b1 : (t192 != 0) = true := bne_iff_ne.mpr c36
                 have H' := Aside0.mk H
                 clear H
                 have p206 : 0 ≤ (0 : Int) := (by omega)
                 have q206 : 0 < (y201.length : Int) := of_decide_eq_true (by first | (with_reducible assumption) | assumption)
                 obtain ⟨ad206, e206, hx206_0⟩ := Kd.at_int (Kd.V_reads' HO_37.out).2.2 0 p206 q206
                 cases e206
                 have qi206 : (0 < y201.length) = True := eq_true (by omega)
                 (try rw [show ((0 : Int)).toNat = 0 from rfl] at hx206_0)
                 (try rw [Addr.add_zero'] at hx206_0)
                 replace p206 := eq_true p206
                 replace q206 := eq_true q206
                 try go_wp2
                 have n0_ := Aside0.mk (Kd.V_drew HO_1.out)
                 have n1_ := Aside0.mk (Kd.V_drew HO_37.out)
                 have n2_ := Aside0.mk (blk_drew B190.out)
                 have n3_ := Aside0.mk (blk_drew B195.out)
                 have n4_ := Aside0.mk (blk_drew B196.out)
                 have n5_ := Aside0.mk (below_drew1 HB.out)
                 clear HO_1
                 clear HO_37
                 clear B190
                 clear B195
                 clear B196
                 clear HB
                 have HO_1 := n0_
                 have HO_37 := n1_
                 have B190 := n2_
                 have B195 := n3_
                 have B196 := n4_
                 have HB := n5_
                 clear n0_ n1_ n2_ n3_ n4_ n5_
                 refine start_ (n := 14) (S := fun w' => w'.cell? ⟨g196, 0, none⟩ = some (.int .u64 x197000_3) ∧ w'.cell? ⟨g196, 1, none⟩ = some (.int .u64 x197001_3) ∧ w'.cell? ⟨g196, 2, none⟩ = some (.int .u64 x197002_3) ∧ w'.cell? ⟨g196, 3, none⟩ = some (.int .u64 x197003_3) ∧ w'.cell? ⟨g195, 0, none⟩ = some (.int .u64 t192) ∧ w'.cell? ⟨g195, 1, none⟩ = some (.int .u64 t193) ∧ w'.cell? ⟨g195, 2, none⟩ = some (.bool t194)) (ds := [13]) z17_0_ (by kernel_rfl) rfl rfl ⟨bq_ B196 0, bq_ B196 1, bq_ B196 2, bq_ B196 3, bq_ B195 0, bq_ B195 1, bq_ B195 2⟩ (fun hL => ?_); refine with_tabW sponge_Hash.tab12 sponge_Hash.bits12 (fun T_ W_ => ?_)
                 generalize wr.drew = w37 at HO_1 HO_37 B190 B195 B196 HB hL ⊢
                 refine pure_ (i := 0) (N := some 44) (v := ?_) (a' := ?_) z17_1_ rfl rfl (an_ T_) (fun _ _ _ h => h) (Or.inl ⟨by rfl, ?_⟩) ?_ ?_
                 rotate_left; · intro w'; go_simp; with_reducible rfl
                 rotate_left; · simp only [Act.put, sa_, sb_, sc_, i64_w, i32_w]; rfl
                 refine pure_ (i := 1) (N := some 45) (v := ?_) (a' := ?_) z17_2_ rfl rfl (an_ T_) (fun _ _ _ h => h) (Or.inl ⟨by rfl, ?_⟩) ?_ ?_
                 rotate_left; · intro w'; go_simp; with_reducible rfl
                 rotate_left; · simp only [Act.put, sa_, sb_, sc_, i64_w, i32_w]; rfl
                 refine pure_ (i := 2) (N := some 46) (v := ?_) (a' := ?_) z17_3_ rfl rfl (an_ T_) (fun _ _ _ h => h) (Or.inl ⟨by rfl, ?_⟩) ?_ ?_
                 rotate_left; · intro w'; go_simp; with_reducible rfl
                 rotate_left; · simp only [Act.put, sa_, sb_, sc_, i64_w, i32_w]; rfl
                 refine pure_ (i := 4) (N := some 48) (v := ?_) (a' := ?_) z17_4_ rfl rfl (an_ T_) (fun _ _ _ h => h) (Or.inl ⟨by rfl, ?_⟩) ?_ ?_
                 rotate_left; · intro w'; go_simp; with_reducible rfl
                 rotate_left; · simp only [Act.put, sa_, sb_, sc_, i64_w, i32_w]; rfl
                 refine pure_ (i := 5) (N := some 49) (v := ?_) (a' := ?_) z17_5_ rfl rfl (an_ T_) (fun _ _ _ h => h) (Or.inl ⟨by rfl, ?_⟩) ?_ ?_
                 rotate_left; · intro w'; go_simp; with_reducible rfl
                 rotate_left; · simp only [Act.put, sa_, sb_, sc_, i64_w, i32_w]; rfl
                 refine pure_ (i := 9) (N := some 53) (v := ?_) (a' := ?_) z17_6_ rfl rfl (an_ T_) (fun _ _ _ h => h) (Or.inl ⟨by rfl, ?_⟩) ?_ ?_
                 rotate_left; · intro w'; go_simp; with_reducible rfl
                 rotate_left; · simp only [Act.put, sa_, sb_, sc_, i64_w, i32_w]; rfl
                 refine take_ (i := 3) (N := some 47) (v := ?_) (a' := ?_) z17_7_ rfl rfl (tk_ T_ W_) (fun _ _ _ h => h) (Or.inl ⟨by rfl, ?_⟩) hL ?_ ?_
                 rotate_left
                 ·rintro w' ⟨s0, s1, s2, s3, s4, s5, s6⟩
                  go_simp
                  with_reducible rfl
                 rotate_left
                 ·simp only [Act.put, sa_, sb_, sc_, i64_w, i32_w]
                  rfl
                 refine take_ (i := 6) (N := some 50) (v := ?_) (a' := ?_) z17_8_ rfl rfl (tk_ T_ W_) (fun _ _ _ h => h) (Or.inl ⟨by rfl, ?_⟩) hL ?_ ?_
                 rotate_left
                 ·rintro w' ⟨s0, s1, s2, s3, s4, s5, s6⟩
                  go_simp
                  with_reducible rfl
                 rotate_left
                 ·simp only [Act.put, sa_, sb_, sc_, i64_w, i32_w]
                  rfl
                 refine pure_ (i := 7) (N := some 51) (v := ?_) (a' := ?_) z17_9_ rfl rfl (an_ T_) (fun _ _ _ h => h) (Or.inl ⟨by rfl, ?_⟩) ?_ ?_
                 rotate_left; · intro w'; go_simp; with_reducible rfl
                 rotate_left; · simp only [Act.put, sa_, sb_, sc_, i64_w, i32_w]; rfl
                 refine pure_ (i := 8) (N := some 52) (v := ?_) (a' := ?_) z17_10_ rfl rfl (an_ T_) (fun _ _ _ h => h) (Or.inl ⟨by rfl, ?_⟩) ?_ ?_
                 rotate_left; · intro w'; go_simp; with_reducible rfl
                 rotate_left; · simp only [Act.put, sa_, sb_, sc_, i64_w, i32_w]; rfl
                 refine take_ (i := 10) (N := some 54) (v := ?_) (a' := ?_) z17_11_ rfl rfl (tk_ T_ W_) (fun _ _ _ h => h) (Or.inl ⟨by rfl, ?_⟩) hL ?_ ?_
                 rotate_left
                 ·rintro w' ⟨s0, s1, s2, s3, s4, s5, s6⟩
                  go_simp
                  with_reducible rfl
                 rotate_left
                 ·simp only [Act.put, sa_, sb_, sc_, i64_w, i32_w]
                  rfl
                 refine pure_ (i := 11) (N := some 55) (v := ?_) (a' := ?_) z17_12_ rfl rfl (an_ T_) (fun _ _ _ h => h) (Or.inl ⟨by rfl, ?_⟩) ?_ ?_
                 rotate_left; · intro w'; go_simp; with_reducible rfl
                 rotate_left; · simp only [Act.put, sa_, sb_, sc_, i64_w, i32_w]; rfl
                 refine pure_ (i := 12) (N := some 56) (v := ?_) (a' := ?_) z17_13_ rfl rfl (an_ T_) (fun _ _ _ h => h) (Or.inl ⟨by rfl, ?_⟩) ?_ ?_
                 rotate_left; · intro w'; go_simp; with_reducible rfl
                 rotate_left; · simp only [Act.put, sa_, sb_, sc_, i64_w, i32_w]; rfl
                 refine last_ (i := 13) (N := none) z17_14_ rfl rfl (on_ T_) (by decide) (fun K hK => ?_)
                 have hs38 : w37.cell? ⟨g196, 0, none⟩ = some (.int .u64 x197000_3) := bq_ B196 0
                 have hfs38 := blk_frozen B196.out 0
                 have hns38_0 := NB190_196.out
                 have hns38_1 := NB195_196.out
                 have hms38_0 := NB196_190.out
                 have hms38_1 := NB196_195.out
                 refine skip_ (w1 := ?_) (by rfl) rfl ?_ ?_
                 rotate_left
                 ·go_simp
                  rfl
                 refine hK.out _ _ ?_
                 clear hK K
                 refine done_ (done_of T_.out (by kernel_rfl)) ?_
                 try go_wp2
                 go_roundg k3
                 case measure => have := HJ6.out; have := HK2.out; have := HK3.out; omega
                 case rel => exact ⟨(wrap64 (0 + 1)), (Int.tmod (IntKind.u64.wrap (x197000_3 + (Int.tmod (rd y201 0) t192))) t192), (x197001_3), (x197002_3), (x197003_3), (by first | rfl | (simp; done) | (simp [*]; done) | (simp; rfl) | (simp; decide +kernel)), H', ⟨by have := HJ6.out; have := HK2.out; have := HK3.out; omega⟩, ⟨by (with_reducible repeat (first | apply Kd.V_alloc | apply Kd.V_drewN | apply Kd.V_drew)); exact Kd.V_mono (Kd.V_far (p := ⟨g196, 0, none⟩) (Kd.V_mono HO_1.out (fun k_ hk => (⟨hk, hk.2.2.2⟩ : _ ∧ k_ ≠ g196))) (fun _ hk => hk.2) (.int .u64 (Int.tmod (IntKind.u64.wrap (x197000_3 + (Int.tmod (rd y201 0) t192))) t192))) (fun _ hk => ⟨hk.1.1, ⟨hk.1.2.1, ⟨hk.1.2.2.1, hk.1.2.2.2⟩⟩⟩)⟩, ⟨by (with_reducible repeat (first | apply Kd.V_alloc | apply Kd.V_drewN | apply Kd.V_drew)); exact Kd.V_mono (Kd.V_far (p := ⟨g196, 0, none⟩) (Kd.V_mono HO_37.out (fun k_ hk => (⟨hk, hk.2.2.2⟩ : _ ∧ k_ ≠ g196))) (fun _ hk => hk.2) (.int .u64 (Int.tmod (IntKind.u64.wrap (x197000_3 + (Int.tmod (rd y201 0) t192))) t192))) (fun _ hk => ⟨hk.1.1, ⟨hk.1.2.1, ⟨hk.1.2.2.1, hk.1.2.2.2⟩⟩⟩)⟩, ⟨by (with_reducible repeat first | refine blk_drewN ?_ _ | refine blk_drew ?_ | refine blk_alloc ?_ _); refine blk_far ?_ NB190_196.out _; (with_reducible repeat first | refine blk_drewN ?_ _ | refine blk_drew ?_ | refine blk_alloc ?_ _); exact B190.out⟩, ⟨by (with_reducible repeat first | refine blk_drewN ?_ _ | refine blk_drew ?_ | refine blk_alloc ?_ _); refine blk_far ?_ NB195_196.out _; (with_reducible repeat first | refine blk_drewN ?_ _ | refine blk_drew ?_ | refine blk_alloc ?_ _); exact B195.out⟩, ⟨by (with_reducible repeat first | refine blk_drewN ?_ _ | refine blk_drew ?_ | refine blk_alloc ?_ _); refine blk_put (cs := #[.int .u64 x197000_3, .int .u64 x197001_3, .int .u64 x197002_3, .int .u64 x197003_3]) ?_ 0 _ rfl; (with_reducible repeat first | refine blk_drewN ?_ _ | refine blk_drew ?_ | refine blk_alloc ?_ _); exact B196.out⟩, ⟨by repeat (first | (with_reducible first | exact HB.out | apply below_alloc | apply pw_below_drewN | apply below_drew1 | refine below_set ?_ GE190.out | refine below_set ?_ GE195.out | refine below_set ?_ GE196.out) | exact HB.out)⟩⟩
               ·rw [if_neg c35] at H
                by_cases c39 : x39_3 = 1
                ·rw [if_pos c39] at H
                 subst c39
                 by_cases c40 : t192 = 0
                 ·rw [if_pos c40] at H
                  exact absurd H (by simp)
                 ·rw [if_neg c40] at H
                  have c40b0 : (t192 == 0) = false := beq_eq_false_iff_ne.mpr c40
                  have c40b1 : (t192 != 0) = true := bne_iff_ne.mpr c40
                  have H' := Aside0.mk H
                  clear H
                  have p206 : 0 ≤ (1 : Int) := (by omega)
                  have q206 : 1 < (y201.length : Int) := of_decide_eq_true (by first | (with_reducible assumption) | assumption)
                  obtain ⟨ad206, e206, hx206_0⟩ := Kd.at_int (Kd.V_reads' HO_37.out).2.2 1 p206 q206
                  cases e206
                  (try simp only [show (1 : Int).toNat = 1 from rfl, Nat.reduceMul, Nat.reduceEqDiff, Go.Addr.add, ↓reduceIte] at hx206_0)
                  have qi206 : (1 < y201.length) = True := eq_true (by omega)
                  (try rw [show ((1 : Int)).toNat = 1 from rfl] at hx206_0)
                  replace p206 := eq_true p206
                  replace q206 := eq_true q206
                  try go_wp2
                  have n0_ := Aside0.mk (Kd.V_drew HO_1.out)
                  have n1_ := Aside0.mk (Kd.V_drew HO_37.out)
                  have n2_ := Aside0.mk (blk_drew B190.out)
                  have n3_ := Aside0.mk (blk_drew B195.out)
                  have n4_ := Aside0.mk (blk_drew B196.out)
                  have n5_ := Aside0.mk (below_drew1 HB.out)
                  clear HO_1
                  clear HO_37
                  clear B190
                  clear B195
                  clear B196
                  clear HB
                  have HO_1 := n0_
                  have HO_37 := n1_
                  have B190 := n2_
                  have B195 := n3_
                  have B196 := n4_
                  have HB := n5_
                  clear n0_ n1_ n2_ n3_ n4_ n5_
                  refine start_ (n := 14) (S := fun w' => w'.cell? ⟨g196, 0, none⟩ = some (.int .u64 x197000_3) ∧ w'.cell? ⟨g196, 1, none⟩ = some (.int .u64 x197001_3) ∧ w'.cell? ⟨g196, 2, none⟩ = some (.int .u64 x197002_3) ∧ w'.cell? ⟨g196, 3, none⟩ = some (.int .u64 x197003_3) ∧ w'.cell? ⟨g195, 0, none⟩ = some (.int .u64 t192) ∧ w'.cell? ⟨g195, 1, none⟩ = some (.int .u64 t193) ∧ w'.cell? ⟨g195, 2, none⟩ = some (.bool t194)) (ds := [13]) z17_0_ (by kernel_rfl) rfl rfl ⟨bq_ B196 0, bq_ B196 1, bq_ B196 2, bq_ B196 3, bq_ B195 0, bq_ B195 1, bq_ B195 2⟩ (fun hL => ?_); refine with_tabW sponge_Hash.tab12 sponge_Hash.bits12 (fun T_ W_ => ?_)
                  generalize wr.drew = w41 at HO_1 HO_37 B190 B195 B196 HB hL ⊢
                  refine pure_ (i := 0) (N := some 44) (v := ?_) (a' := ?_) z17_1_ rfl rfl (an_ T_) (fun _ _ _ h => h) (Or.inl ⟨by rfl, ?_⟩) ?_ ?_
                  rotate_left; · intro w'; go_simp; with_reducible rfl
                  rotate_left; · simp only [Act.put, sa_, sb_, sc_, i64_w, i32_w]; rfl
                  refine pure_ (i := 1) (N := some 45) (v := ?_) (a' := ?_) z17_2_ rfl rfl (an_ T_) (fun _ _ _ h => h) (Or.inl ⟨by rfl, ?_⟩) ?_ ?_
                  rotate_left; · intro w'; go_simp; with_reducible rfl
                  rotate_left; · simp only [Act.put, sa_, sb_, sc_, i64_w, i32_w]; rfl
                  refine pure_ (i := 2) (N := some 46) (v := ?_) (a' := ?_) z17_3_ rfl rfl (an_ T_) (fun _ _ _ h => h) (Or.inl ⟨by rfl, ?_⟩) ?_ ?_
                  rotate_left; · intro w'; go_simp; with_reducible rfl
                  rotate_left; · simp only [Act.put, sa_, sb_, sc_, i64_w, i32_w]; rfl
                  refine pure_ (i := 4) (N := some 48) (v := ?_) (a' := ?_) z17_4_ rfl rfl (an_ T_) (fun _ _ _ h => h) (Or.inl ⟨by rfl, ?_⟩) ?_ ?_
                  rotate_left; · intro w'; go_simp; with_reducible rfl
                  rotate_left; · simp only [Act.put, sa_, sb_, sc_, i64_w, i32_w]; rfl
                  refine pure_ (i := 5) (N := some 49) (v := ?_) (a' := ?_) z17_5_ rfl rfl (an_ T_) (fun _ _ _ h => h) (Or.inl ⟨by rfl, ?_⟩) ?_ ?_
                  rotate_left; · intro w'; go_simp; with_reducible rfl
                  rotate_left; · simp only [Act.put, sa_, sb_, sc_, i64_w, i32_w]; rfl
                  refine pure_ (i := 9) (N := some 53) (v := ?_) (a' := ?_) z17_6_ rfl rfl (an_ T_) (fun _ _ _ h => h) (Or.inl ⟨by rfl, ?_⟩) ?_ ?_
                  rotate_left; · intro w'; go_simp; with_reducible rfl
                  rotate_left; · simp only [Act.put, sa_, sb_, sc_, i64_w, i32_w]; rfl
                  refine take_ (i := 3) (N := some 47) (v := ?_) (a' := ?_) z17_7_ rfl rfl (tk_ T_ W_) (fun _ _ _ h => h) (Or.inl ⟨by rfl, ?_⟩) hL ?_ ?_
                  rotate_left
                  ·rintro w' ⟨s0, s1, s2, s3, s4, s5, s6⟩
                   go_simp
                   with_reducible rfl
                  rotate_left
                  ·simp only [Act.put, sa_, sb_, sc_, i64_w, i32_w]
                   rfl
                  refine take_ (i := 6) (N := some 50) (v := ?_) (a' := ?_) z17_8_ rfl rfl (tk_ T_ W_) (fun _ _ _ h => h) (Or.inl ⟨by rfl, ?_⟩) hL ?_ ?_
                  rotate_left
                  ·rintro w' ⟨s0, s1, s2, s3, s4, s5, s6⟩
                   go_simp
                   with_reducible rfl
                  rotate_left
                  ·simp only [Act.put, sa_, sb_, sc_, i64_w, i32_w]
                   rfl
                  refine pure_ (i := 7) (N := some 51) (v := ?_) (a' := ?_) z17_9_ rfl rfl (an_ T_) (fun _ _ _ h => h) (Or.inl ⟨by rfl, ?_⟩) ?_ ?_
                  rotate_left; · intro w'; go_simp; with_reducible rfl
                  rotate_left; · simp only [Act.put, sa_, sb_, sc_, i64_w, i32_w]; rfl
                  refine pure_ (i := 8) (N := some 52) (v := ?_) (a' := ?_) z17_10_ rfl rfl (an_ T_) (fun _ _ _ h => h) (Or.inl ⟨by rfl, ?_⟩) ?_ ?_
                  rotate_left; · intro w'; go_simp; with_reducible rfl
                  rotate_left; · simp only [Act.put, sa_, sb_, sc_, i64_w, i32_w]; rfl
                  refine take_ (i := 10) (N := some 54) (v := ?_) (a' := ?_) z17_11_ rfl rfl (tk_ T_ W_) (fun _ _ _ h => h) (Or.inl ⟨by rfl, ?_⟩) hL ?_ ?_
                  rotate_left
                  ·rintro w' ⟨s0, s1, s2, s3, s4, s5, s6⟩
                   go_simp
                   with_reducible rfl
                  rotate_left
                  ·simp only [Act.put, sa_, sb_, sc_, i64_w, i32_w]
                   rfl
                  refine pure_ (i := 11) (N := some 55) (v := ?_) (a' := ?_) z17_12_ rfl rfl (an_ T_) (fun _ _ _ h => h) (Or.inl ⟨by rfl, ?_⟩) ?_ ?_
                  rotate_left; · intro w'; go_simp; with_reducible rfl
                  rotate_left; · simp only [Act.put, sa_, sb_, sc_, i64_w, i32_w]; rfl
                  refine pure_ (i := 12) (N := some 56) (v := ?_) (a' := ?_) z17_13_ rfl rfl (an_ T_) (fun _ _ _ h => h) (Or.inl ⟨by rfl, ?_⟩) ?_ ?_
                  rotate_left; · intro w'; go_simp; with_reducible rfl
                  rotate_left; · simp only [Act.put, sa_, sb_, sc_, i64_w, i32_w]; rfl
                  refine last_ (i := 13) (N := none) z17_14_ rfl rfl (on_ T_) (by decide) (fun K hK => ?_)
                  have hs42 : w41.cell? ⟨g196, 1, none⟩ = some (.int .u64 x197001_3) := bq_ B196 1
                  have hfs42 := blk_frozen B196.out 1
                  have hns42_0 := NB190_196.out
                  have hns42_1 := NB195_196.out
                  have hms42_0 := NB196_190.out
                  have hms42_1 := NB196_195.out
                  refine skip_ (w1 := ?_) (by rfl) rfl ?_ ?_
                  rotate_left
                  ·go_simp
                   rfl
                  refine hK.out _ _ ?_
                  clear hK K
                  refine done_ (done_of T_.out (by kernel_rfl)) ?_
                  try go_wp2
                  go_roundg k3
                  case measure => have := HJ6.out; have := HK2.out; have := HK3.out; omega
                  case rel => exact ⟨(wrap64 (1 + 1)), (x197000_3), (Int.tmod (IntKind.u64.wrap (x197001_3 + (Int.tmod (rd y201 1) t192))) t192), (x197002_3), (x197003_3), (by first | rfl | (simp; done) | (simp [*]; done) | (simp; rfl) | (simp; decide +kernel)), H', ⟨by have := HJ6.out; have := HK2.out; have := HK3.out; omega⟩, ⟨by (with_reducible repeat (first | apply Kd.V_alloc | apply Kd.V_drewN | apply Kd.V_drew)); exact Kd.V_mono (Kd.V_far (p := ⟨g196, 1, none⟩) (Kd.V_mono HO_1.out (fun k_ hk => (⟨hk, hk.2.2.2⟩ : _ ∧ k_ ≠ g196))) (fun _ hk => hk.2) (.int .u64 (Int.tmod (IntKind.u64.wrap (x197001_3 + (Int.tmod (rd y201 1) t192))) t192))) (fun _ hk => ⟨hk.1.1, ⟨hk.1.2.1, ⟨hk.1.2.2.1, hk.1.2.2.2⟩⟩⟩)⟩, ⟨by (with_reducible repeat (first | apply Kd.V_alloc | apply Kd.V_drewN | apply Kd.V_drew)); exact Kd.V_mono (Kd.V_far (p := ⟨g196, 1, none⟩) (Kd.V_mono HO_37.out (fun k_ hk => (⟨hk, hk.2.2.2⟩ : _ ∧ k_ ≠ g196))) (fun _ hk => hk.2) (.int .u64 (Int.tmod (IntKind.u64.wrap (x197001_3 + (Int.tmod (rd y201 1) t192))) t192))) (fun _ hk => ⟨hk.1.1, ⟨hk.1.2.1, ⟨hk.1.2.2.1, hk.1.2.2.2⟩⟩⟩)⟩, ⟨by (with_reducible repeat first | refine blk_drewN ?_ _ | refine blk_drew ?_ | refine blk_alloc ?_ _); refine blk_far ?_ NB190_196.out _; (with_reducible repeat first | refine blk_drewN ?_ _ | refine blk_drew ?_ | refine blk_alloc ?_ _); exact B190.out⟩, ⟨by (with_reducible repeat first | refine blk_drewN ?_ _ | refine blk_drew ?_ | refine blk_alloc ?_ _); refine blk_far ?_ NB195_196.out _; (with_reducible repeat first | refine blk_drewN ?_ _ | refine blk_drew ?_ | refine blk_alloc ?_ _); exact B195.out⟩, ⟨by (with_reducible repeat first | refine blk_drewN ?_ _ | refine blk_drew ?_ | refine blk_alloc ?_ _); refine blk_put (cs := #[.int .u64 x197000_3, .int .u64 x197001_3, .int .u64 x197002_3, .int .u64 x197003_3]) ?_ 1 _ rfl; (with_reducible repeat first | refine blk_drewN ?_ _ | refine blk_drew ?_ | refine blk_alloc ?_ _); exact B196.out⟩, ⟨by repeat (first | (with_reducible first | exact HB.out | apply below_alloc | apply pw_below_drewN | apply below_drew1 | refine below_set ?_ GE190.out | refine below_set ?_ GE195.out | refine below_set ?_ GE196.out) | exact HB.out)⟩⟩
                ·rw [if_neg c39] at H
                 by_cases c43 : x39_3 = 2
                 ·rw [if_pos c43] at H
                  subst c43
                  by_cases c44 : t192 = 0
                  ·rw [if_pos c44] at H
                   exact absurd H (by simp)
                  ·rw [if_neg c44] at H
                   have c44b0 : (t192 == 0) = false := beq_eq_false_iff_ne.mpr c44
                   have c44b1 : (t192 != 0) = true := bne_iff_ne.mpr c44
                   have H' := Aside0.mk H
                   clear H
                   have p206 : 0 ≤ (2 : Int) := (by omega)
                   have q206 : 2 < (y201.length : Int) := of_decide_eq_true (by first | (with_reducible assumption) | assumption)
                   obtain ⟨ad206, e206, hx206_0⟩ := Kd.at_int (Kd.V_reads' HO_37.out).2.2 2 p206 q206
                   cases e206
                   (try simp only [show (2 : Int).toNat = 2 from rfl, Nat.reduceMul, Nat.reduceEqDiff, Go.Addr.add, ↓reduceIte] at hx206_0)
                   have qi206 : (2 < y201.length) = True := eq_true (by omega)
                   (try rw [show ((2 : Int)).toNat = 2 from rfl] at hx206_0)
                   replace p206 := eq_true p206
                   replace q206 := eq_true q206
                   try go_wp2
                   have n0_ := Aside0.mk (Kd.V_drew HO_1.out)
                   have n1_ := Aside0.mk (Kd.V_drew HO_37.out)
                   have n2_ := Aside0.mk (blk_drew B190.out)
                   have n3_ := Aside0.mk (blk_drew B195.out)
                   have n4_ := Aside0.mk (blk_drew B196.out)
                   have n5_ := Aside0.mk (below_drew1 HB.out)
                   clear HO_1
                   clear HO_37
                   clear B190
                   clear B195
                   clear B196
                   clear HB
                   have HO_1 := n0_
                   have HO_37 := n1_
                   have B190 := n2_
                   have B195 := n3_
                   have B196 := n4_
                   have HB := n5_
                   clear n0_ n1_ n2_ n3_ n4_ n5_
                   refine start_ (n := 14) (S := fun w' => w'.cell? ⟨g196, 0, none⟩ = some (.int .u64 x197000_3) ∧ w'.cell? ⟨g196, 1, none⟩ = some (.int .u64 x197001_3) ∧ w'.cell? ⟨g196, 2, none⟩ = some (.int .u64 x197002_3) ∧ w'.cell? ⟨g196, 3, none⟩ = some (.int .u64 x197003_3) ∧ w'.cell? ⟨g195, 0, none⟩ = some (.int .u64 t192) ∧ w'.cell? ⟨g195, 1, none⟩ = some (.int .u64 t193) ∧ w'.cell? ⟨g195, 2, none⟩ = some (.bool t194)) (ds := [13]) z17_0_ (by kernel_rfl) rfl rfl ⟨bq_ B196 0, bq_ B196 1, bq_ B196 2, bq_ B196 3, bq_ B195 0, bq_ B195 1, bq_ B195 2⟩ (fun hL => ?_); refine with_tabW sponge_Hash.tab12 sponge_Hash.bits12 (fun T_ W_ => ?_)
                   generalize wr.drew = w45 at HO_1 HO_37 B190 B195 B196 HB hL ⊢
                   refine pure_ (i := 0) (N := some 44) (v := ?_) (a' := ?_) z17_1_ rfl rfl (an_ T_) (fun _ _ _ h => h) (Or.inl ⟨by rfl, ?_⟩) ?_ ?_
                   rotate_left; · intro w'; go_simp; with_reducible rfl
                   rotate_left; · simp only [Act.put, sa_, sb_, sc_, i64_w, i32_w]; rfl
                   refine pure_ (i := 1) (N := some 45) (v := ?_) (a' := ?_) z17_2_ rfl rfl (an_ T_) (fun _ _ _ h => h) (Or.inl ⟨by rfl, ?_⟩) ?_ ?_
                   rotate_left; · intro w'; go_simp; with_reducible rfl
                   rotate_left; · simp only [Act.put, sa_, sb_, sc_, i64_w, i32_w]; rfl
                   refine pure_ (i := 2) (N := some 46) (v := ?_) (a' := ?_) z17_3_ rfl rfl (an_ T_) (fun _ _ _ h => h) (Or.inl ⟨by rfl, ?_⟩) ?_ ?_
                   rotate_left; · intro w'; go_simp; with_reducible rfl
                   rotate_left; · simp only [Act.put, sa_, sb_, sc_, i64_w, i32_w]; rfl
                   refine pure_ (i := 4) (N := some 48) (v := ?_) (a' := ?_) z17_4_ rfl rfl (an_ T_) (fun _ _ _ h => h) (Or.inl ⟨by rfl, ?_⟩) ?_ ?_
                   rotate_left; · intro w'; go_simp; with_reducible rfl
                   rotate_left; · simp only [Act.put, sa_, sb_, sc_, i64_w, i32_w]; rfl
                   refine pure_ (i := 5) (N := some 49) (v := ?_) (a' := ?_) z17_5_ rfl rfl (an_ T_) (fun _ _ _ h => h) (Or.inl ⟨by rfl, ?_⟩) ?_ ?_
                   rotate_left; · intro w'; go_simp; with_reducible rfl
                   rotate_left; · simp only [Act.put, sa_, sb_, sc_, i64_w, i32_w]; rfl
                   refine pure_ (i := 9) (N := some 53) (v := ?_) (a' := ?_) z17_6_ rfl rfl (an_ T_) (fun _ _ _ h => h) (Or.inl ⟨by rfl, ?_⟩) ?_ ?_
                   rotate_left; · intro w'; go_simp; with_reducible rfl
                   rotate_left; · simp only [Act.put, sa_, sb_, sc_, i64_w, i32_w]; rfl
                   refine take_ (i := 3) (N := some 47) (v := ?_) (a' := ?_) z17_7_ rfl rfl (tk_ T_ W_) (fun _ _ _ h => h) (Or.inl ⟨by rfl, ?_⟩) hL ?_ ?_
                   rotate_left
                   ·rintro w' ⟨s0, s1, s2, s3, s4, s5, s6⟩
                    go_simp
                    with_reducible rfl
                   rotate_left
                   ·simp only [Act.put, sa_, sb_, sc_, i64_w, i32_w]
                    rfl
                   refine take_ (i := 6) (N := some 50) (v := ?_) (a' := ?_) z17_8_ rfl rfl (tk_ T_ W_) (fun _ _ _ h => h) (Or.inl ⟨by rfl, ?_⟩) hL ?_ ?_
                   rotate_left
                   ·rintro w' ⟨s0, s1, s2, s3, s4, s5, s6⟩
                    go_simp
                    with_reducible rfl
                   rotate_left
                   ·simp only [Act.put, sa_, sb_, sc_, i64_w, i32_w]
                    rfl
                   refine pure_ (i := 7) (N := some 51) (v := ?_) (a' := ?_) z17_9_ rfl rfl (an_ T_) (fun _ _ _ h => h) (Or.inl ⟨by rfl, ?_⟩) ?_ ?_
                   rotate_left; · intro w'; go_simp; with_reducible rfl
                   rotate_left; · simp only [Act.put, sa_, sb_, sc_, i64_w, i32_w]; rfl
                   refine pure_ (i := 8) (N := some 52) (v := ?_) (a' := ?_) z17_10_ rfl rfl (an_ T_) (fun _ _ _ h => h) (Or.inl ⟨by rfl, ?_⟩) ?_ ?_
                   rotate_left; · intro w'; go_simp; with_reducible rfl
                   rotate_left; · simp only [Act.put, sa_, sb_, sc_, i64_w, i32_w]; rfl
                   refine take_ (i := 10) (N := some 54) (v := ?_) (a' := ?_) z17_11_ rfl rfl (tk_ T_ W_) (fun _ _ _ h => h) (Or.inl ⟨by rfl, ?_⟩) hL ?_ ?_
                   rotate_left
                   ·rintro w' ⟨s0, s1, s2, s3, s4, s5, s6⟩
                    go_simp
                    with_reducible rfl
                   rotate_left
                   ·simp only [Act.put, sa_, sb_, sc_, i64_w, i32_w]
                    rfl
                   refine pure_ (i := 11) (N := some 55) (v := ?_) (a' := ?_) z17_12_ rfl rfl (an_ T_) (fun _ _ _ h => h) (Or.inl ⟨by rfl, ?_⟩) ?_ ?_
                   rotate_left; · intro w'; go_simp; with_reducible rfl
                   rotate_left; · simp only [Act.put, sa_, sb_, sc_, i64_w, i32_w]; rfl
                   refine pure_ (i := 12) (N := some 56) (v := ?_) (a' := ?_) z17_13_ rfl rfl (an_ T_) (fun _ _ _ h => h) (Or.inl ⟨by rfl, ?_⟩) ?_ ?_
                   rotate_left; · intro w'; go_simp; with_reducible rfl
                   rotate_left; · simp only [Act.put, sa_, sb_, sc_, i64_w, i32_w]; rfl
                   refine last_ (i := 13) (N := none) z17_14_ rfl rfl (on_ T_) (by decide) (fun K hK => ?_)
                   have hs46 : w45.cell? ⟨g196, 2, none⟩ = some (.int .u64 x197002_3) := bq_ B196 2
                   have hfs46 := blk_frozen B196.out 2
                   have hns46_0 := NB190_196.out
                   have hns46_1 := NB195_196.out
                   have hms46_0 := NB196_190.out
                   have hms46_1 := NB196_195.out
                   refine skip_ (w1 := ?_) (by rfl) rfl ?_ ?_
                   rotate_left
                   ·go_simp
                    rfl
                   refine hK.out _ _ ?_
                   clear hK K
                   refine done_ (done_of T_.out (by kernel_rfl)) ?_
                   try go_wp2
                   go_roundg k3
                   case measure => have := HJ6.out; have := HK2.out; have := HK3.out; omega
                   case rel => exact ⟨(wrap64 (2 + 1)), (x197000_3), (x197001_3), (Int.tmod (IntKind.u64.wrap (x197002_3 + (Int.tmod (rd y201 2) t192))) t192), (x197003_3), (by first | rfl | (simp; done) | (simp [*]; done) | (simp; rfl) | (simp; decide +kernel)), H', ⟨by have := HJ6.out; have := HK2.out; have := HK3.out; omega⟩, ⟨by (with_reducible repeat (first | apply Kd.V_alloc | apply Kd.V_drewN | apply Kd.V_drew)); exact Kd.V_mono (Kd.V_far (p := ⟨g196, 2, none⟩) (Kd.V_mono HO_1.out (fun k_ hk => (⟨hk, hk.2.2.2⟩ : _ ∧ k_ ≠ g196))) (fun _ hk => hk.2) (.int .u64 (Int.tmod (IntKind.u64.wrap (x197002_3 + (Int.tmod (rd y201 2) t192))) t192))) (fun _ hk => ⟨hk.1.1, ⟨hk.1.2.1, ⟨hk.1.2.2.1, hk.1.2.2.2⟩⟩⟩)⟩, ⟨by (with_reducible repeat (first | apply Kd.V_alloc | apply Kd.V_drewN | apply Kd.V_drew)); exact Kd.V_mono (Kd.V_far (p := ⟨g196, 2, none⟩) (Kd.V_mono HO_37.out (fun k_ hk => (⟨hk, hk.2.2.2⟩ : _ ∧ k_ ≠ g196))) (fun _ hk => hk.2) (.int .u64 (Int.tmod (IntKind.u64.wrap (x197002_3 + (Int.tmod (rd y201 2) t192))) t192))) (fun _ hk => ⟨hk.1.1, ⟨hk.1.2.1, ⟨hk.1.2.2.1, hk.1.2.2.2⟩⟩⟩)⟩, ⟨by (with_reducible repeat first | refine blk_drewN ?_ _ | refine blk_drew ?_ | refine blk_alloc ?_ _); refine blk_far ?_ NB190_196.out _; (with_reducible repeat first | refine blk_drewN ?_ _ | refine blk_drew ?_ | refine blk_alloc ?_ _); exact B190.out⟩, ⟨by (with_reducible repeat first | refine blk_drewN ?_ _ | refine blk_drew ?_ | refine blk_alloc ?_ _); refine blk_far ?_ NB195_196.out _; (with_reducible repeat first | refine blk_drewN ?_ _ | refine blk_drew ?_ | refine blk_alloc ?_ _); exact B195.out⟩, ⟨by (with_reducible repeat first | refine blk_drewN ?_ _ | refine blk_drew ?_ | refine blk_alloc ?_ _); refine blk_put (cs := #[.int .u64 x197000_3, .int .u64 x197001_3, .int .u64 x197002_3, .int .u64 x197003_3]) ?_ 2 _ rfl; (with_reducible repeat first | refine blk_drewN ?_ _ | refine blk_drew ?_ | refine blk_alloc ?_ _); exact B196.out⟩, ⟨by repeat (first | (with_reducible first | exact HB.out | apply below_alloc | apply pw_below_drewN | apply below_drew1 | refine below_set ?_ GE190.out | refine below_set ?_ GE195.out | refine below_set ?_ GE196.out) | exact HB.out)⟩⟩
                 ·rw [if_neg c43] at H
                  by_cases c47 : x39_3 = 3
                  ·rw [if_pos c47] at H
                   subst c47
                   by_cases c48 : t192 = 0
                   ·rw [if_pos c48] at H
                    exact absurd H (by simp)
                   ·rw [if_neg c48] at H
                    have c48b0 : (t192 == 0) = false := beq_eq_false_iff_ne.mpr c48
                    have c48b1 : (t192 != 0) = true := bne_iff_ne.mpr c48
                    have H' := Aside0.mk H
                    clear H
                    have p206 : 0 ≤ (3 : Int) := (by omega)
                    have q206 : 3 < (y201.length : Int) := of_decide_eq_true (by first | (with_reducible assumption) | assumption)
                    obtain ⟨ad206, e206, hx206_0⟩ := Kd.at_int (Kd.V_reads' HO_37.out).2.2 3 p206 q206
                    cases e206
                    (try simp only [show (3 : Int).toNat = 3 from rfl, Nat.reduceMul, Nat.reduceEqDiff, Go.Addr.add, ↓reduceIte] at hx206_0)
                    have qi206 : (3 < y201.length) = True := eq_true (by omega)
                    (try rw [show ((3 : Int)).toNat = 3 from rfl] at hx206_0)
                    replace p206 := eq_true p206
                    replace q206 := eq_true q206
                    try go_wp2
                    have n0_ := Aside0.mk (Kd.V_drew HO_1.out)
                    have n1_ := Aside0.mk (Kd.V_drew HO_37.out)
                    have n2_ := Aside0.mk (blk_drew B190.out)
                    have n3_ := Aside0.mk (blk_drew B195.out)
                    have n4_ := Aside0.mk (blk_drew B196.out)
                    have n5_ := Aside0.mk (below_drew1 HB.out)
                    clear HO_1
                    clear HO_37
                    clear B190
                    clear B195
                    clear B196
                    clear HB
                    have HO_1 := n0_
                    have HO_37 := n1_
                    have B190 := n2_
                    have B195 := n3_
                    have B196 := n4_
                    have HB := n5_
                    clear n0_ n1_ n2_ n3_ n4_ n5_
                    refine start_ (n := 14) (S := fun w' => w'.cell? ⟨g196, 0, none⟩ = some (.int .u64 x197000_3) ∧ w'.cell? ⟨g196, 1, none⟩ = some (.int .u64 x197001_3) ∧ w'.cell? ⟨g196, 2, none⟩ = some (.int .u64 x197002_3) ∧ w'.cell? ⟨g196, 3, none⟩ = some (.int .u64 x197003_3) ∧ w'.cell? ⟨g195, 0, none⟩ = some (.int .u64 t192) ∧ w'.cell? ⟨g195, 1, none⟩ = some (.int .u64 t193) ∧ w'.cell? ⟨g195, 2, none⟩ = some (.bool t194)) (ds := [13]) z17_0_ (by kernel_rfl) rfl rfl ⟨bq_ B196 0, bq_ B196 1, bq_ B196 2, bq_ B196 3, bq_ B195 0, bq_ B195 1, bq_ B195 2⟩ (fun hL => ?_); refine with_tabW sponge_Hash.tab12 sponge_Hash.bits12 (fun T_ W_ => ?_)
                    generalize wr.drew = w49 at HO_1 HO_37 B190 B195 B196 HB hL ⊢
                    refine pure_ (i := 0) (N := some 44) (v := ?_) (a' := ?_) z17_1_ rfl rfl (an_ T_) (fun _ _ _ h => h) (Or.inl ⟨by rfl, ?_⟩) ?_ ?_
                    rotate_left; · intro w'; go_simp; with_reducible rfl
                    rotate_left; · simp only [Act.put, sa_, sb_, sc_, i64_w, i32_w]; rfl
                    refine pure_ (i := 1) (N := some 45) (v := ?_) (a' := ?_) z17_2_ rfl rfl (an_ T_) (fun _ _ _ h => h) (Or.inl ⟨by rfl, ?_⟩) ?_ ?_
                    rotate_left; · intro w'; go_simp; with_reducible rfl
                    rotate_left; · simp only [Act.put, sa_, sb_, sc_, i64_w, i32_w]; rfl
                    refine pure_ (i := 2) (N := some 46) (v := ?_) (a' := ?_) z17_3_ rfl rfl (an_ T_) (fun _ _ _ h => h) (Or.inl ⟨by rfl, ?_⟩) ?_ ?_
                    rotate_left; · intro w'; go_simp; with_reducible rfl
                    rotate_left; · simp only [Act.put, sa_, sb_, sc_, i64_w, i32_w]; rfl
                    refine pure_ (i := 4) (N := some 48) (v := ?_) (a' := ?_) z17_4_ rfl rfl (an_ T_) (fun _ _ _ h => h) (Or.inl ⟨by rfl, ?_⟩) ?_ ?_
                    rotate_left; · intro w'; go_simp; with_reducible rfl
                    rotate_left; · simp only [Act.put, sa_, sb_, sc_, i64_w, i32_w]; rfl
                    refine pure_ (i := 5) (N := some 49) (v := ?_) (a' := ?_) z17_5_ rfl rfl (an_ T_) (fun _ _ _ h => h) (Or.inl ⟨by rfl, ?_⟩) ?_ ?_
                    rotate_left; · intro w'; go_simp; with_reducible rfl
                    rotate_left; · simp only [Act.put, sa_, sb_, sc_, i64_w, i32_w]; rfl
                    refine pure_ (i := 9) (N := some 53) (v := ?_) (a' := ?_) z17_6_ rfl rfl (an_ T_) (fun _ _ _ h => h) (Or.inl ⟨by rfl, ?_⟩) ?_ ?_
                    rotate_left; · intro w'; go_simp; with_reducible rfl
                    rotate_left; · simp only [Act.put, sa_, sb_, sc_, i64_w, i32_w]; rfl
                    refine take_ (i := 3) (N := some 47) (v := ?_) (a' := ?_) z17_7_ rfl rfl (tk_ T_ W_) (fun _ _ _ h => h) (Or.inl ⟨by rfl, ?_⟩) hL ?_ ?_
                    rotate_left
                    ·rintro w' ⟨s0, s1, s2, s3, s4, s5, s6⟩
                     go_simp
                     with_reducible rfl
                    rotate_left
                    ·simp only [Act.put, sa_, sb_, sc_, i64_w, i32_w]
                     rfl
                    refine take_ (i := 6) (N := some 50) (v := ?_) (a' := ?_) z17_8_ rfl rfl (tk_ T_ W_) (fun _ _ _ h => h) (Or.inl ⟨by rfl, ?_⟩) hL ?_ ?_
                    rotate_left
                    ·rintro w' ⟨s0, s1, s2, s3, s4, s5, s6⟩
                     go_simp
                     with_reducible rfl
                    rotate_left
                    ·simp only [Act.put, sa_, sb_, sc_, i64_w, i32_w]
                     rfl
                    refine pure_ (i := 7) (N := some 51) (v := ?_) (a' := ?_) z17_9_ rfl rfl (an_ T_) (fun _ _ _ h => h) (Or.inl ⟨by rfl, ?_⟩) ?_ ?_
                    rotate_left; · intro w'; go_simp; with_reducible rfl
                    rotate_left; · simp only [Act.put, sa_, sb_, sc_, i64_w, i32_w]; rfl
                    refine pure_ (i := 8) (N := some 52) (v := ?_) (a' := ?_) z17_10_ rfl rfl (an_ T_) (fun _ _ _ h => h) (Or.inl ⟨by rfl, ?_⟩) ?_ ?_
                    rotate_left; · intro w'; go_simp; with_reducible rfl
                    rotate_left; · simp only [Act.put, sa_, sb_, sc_, i64_w, i32_w]; rfl
                    refine take_ (i := 10) (N := some 54) (v := ?_) (a' := ?_) z17_11_ rfl rfl (tk_ T_ W_) (fun _ _ _ h => h) (Or.inl ⟨by rfl, ?_⟩) hL ?_ ?_
                    rotate_left
                    ·rintro w' ⟨s0, s1, s2, s3, s4, s5, s6⟩
                     go_simp
                     with_reducible rfl
                    rotate_left
                    ·simp only [Act.put, sa_, sb_, sc_, i64_w, i32_w]
                     rfl
                    refine pure_ (i := 11) (N := some 55) (v := ?_) (a' := ?_) z17_12_ rfl rfl (an_ T_) (fun _ _ _ h => h) (Or.inl ⟨by rfl, ?_⟩) ?_ ?_
                    rotate_left; · intro w'; go_simp; with_reducible rfl
                    rotate_left; · simp only [Act.put, sa_, sb_, sc_, i64_w, i32_w]; rfl
                    refine pure_ (i := 12) (N := some 56) (v := ?_) (a' := ?_) z17_13_ rfl rfl (an_ T_) (fun _ _ _ h => h) (Or.inl ⟨by rfl, ?_⟩) ?_ ?_
                    rotate_left; · intro w'; go_simp; with_reducible rfl
                    rotate_left; · simp only [Act.put, sa_, sb_, sc_, i64_w, i32_w]; rfl
                    refine last_ (i := 13) (N := none) z17_14_ rfl rfl (on_ T_) (by decide) (fun K hK => ?_)
                    have hs50 : w49.cell? ⟨g196, 3, none⟩ = some (.int .u64 x197003_3) := bq_ B196 3
                    have hfs50 := blk_frozen B196.out 3
                    have hns50_0 := NB190_196.out
                    have hns50_1 := NB195_196.out
                    have hms50_0 := NB196_190.out
                    have hms50_1 := NB196_195.out
                    refine skip_ (w1 := ?_) (by rfl) rfl ?_ ?_
                    rotate_left
                    ·go_simp
                     rfl
                    refine hK.out _ _ ?_
                    clear hK K
                    refine done_ (done_of T_.out (by kernel_rfl)) ?_
                    try go_wp2
                    go_roundg k3
                    case measure => have := HJ6.out; have := HK2.out; have := HK3.out; omega
                    case rel => exact ⟨(wrap64 (3 + 1)), (x197000_3), (x197001_3), (x197002_3), (Int.tmod (IntKind.u64.wrap (x197003_3 + (Int.tmod (rd y201 3) t192))) t192), (by first | rfl | (simp; done) | (simp [*]; done) | (simp; rfl) | (simp; decide +kernel)), H', ⟨by have := HJ6.out; have := HK2.out; have := HK3.out; omega⟩, ⟨by (with_reducible repeat (first | apply Kd.V_alloc | apply Kd.V_drewN | apply Kd.V_drew)); exact Kd.V_mono (Kd.V_far (p := ⟨g196, 3, none⟩) (Kd.V_mono HO_1.out (fun k_ hk => (⟨hk, hk.2.2.2⟩ : _ ∧ k_ ≠ g196))) (fun _ hk => hk.2) (.int .u64 (Int.tmod (IntKind.u64.wrap (x197003_3 + (Int.tmod (rd y201 3) t192))) t192))) (fun _ hk => ⟨hk.1.1, ⟨hk.1.2.1, ⟨hk.1.2.2.1, hk.1.2.2.2⟩⟩⟩)⟩, ⟨by (with_reducible repeat (first | apply Kd.V_alloc | apply Kd.V_drewN | apply Kd.V_drew)); exact Kd.V_mono (Kd.V_far (p := ⟨g196, 3, none⟩) (Kd.V_mono HO_37.out (fun k_ hk => (⟨hk, hk.2.2.2⟩ : _ ∧ k_ ≠ g196))) (fun _ hk => hk.2) (.int .u64 (Int.tmod (IntKind.u64.wrap (x197003_3 + (Int.tmod (rd y201 3) t192))) t192))) (fun _ hk => ⟨hk.1.1, ⟨hk.1.2.1, ⟨hk.1.2.2.1, hk.1.2.2.2⟩⟩⟩)⟩, ⟨by (with_reducible repeat first | refine blk_drewN ?_ _ | refine blk_drew ?_ | refine blk_alloc ?_ _); refine blk_far ?_ NB190_196.out _; (with_reducible repeat first | refine blk_drewN ?_ _ | refine blk_drew ?_ | refine blk_alloc ?_ _); exact B190.out⟩, ⟨by (with_reducible repeat first | refine blk_drewN ?_ _ | refine blk_drew ?_ | refine blk_alloc ?_ _); refine blk_far ?_ NB195_196.out _; (with_reducible repeat first | refine blk_drewN ?_ _ | refine blk_drew ?_ | refine blk_alloc ?_ _); exact B195.out⟩, ⟨by (with_reducible repeat first | refine blk_drewN ?_ _ | refine blk_drew ?_ | refine blk_alloc ?_ _); refine blk_put (cs := #[.int .u64 x197000_3, .int .u64 x197001_3, .int .u64 x197002_3, .int .u64 x197003_3]) ?_ 3 _ rfl; (with_reducible repeat first | refine blk_drewN ?_ _ | refine blk_drew ?_ | refine blk_alloc ?_ _); exact B196.out⟩, ⟨by repeat (first | (with_reducible first | exact HB.out | apply below_alloc | apply pw_below_drewN | apply below_drew1 | refine below_set ?_ GE190.out | refine below_set ?_ GE195.out | refine below_set ?_ GE196.out) | exact HB.out)⟩⟩
                  ·rw [if_neg c47] at H
                   exact absurd H (by simp)
              ·rw [if_neg c34] at H
               exact absurd H (by simp)
             ·rw [if_neg c33] at H
              exact absurd H (by simp)
            ·rw [if_neg c32] at H
             have c32b0 : decide (x39_3 < (y201.length : Int)) = false := decide_eq_false c32
             clear c32
             replace H := Option.bind_eq_some_iff.mp H
             obtain ⟨⟨t207, t208, t209, t210⟩, A510, H⟩ := H
             replace H : (if 0 ≤ ji27 then (if ji27 ≤ (x1_2.length : Int) then (sponge_Hash.l0 k3 (x1_2.drop (ji27 : Int).toNat) t192 t193 t194 t207 t208 t209 t210) else (none)) else (none)) = some (r1, r2) := H
             have A51 := Aside0.mk A510
             clear A510
             by_cases c52 : 0 ≤ ji27
             ·rw [if_pos c52] at H
              have c52b0 := eq_true c52
              have c52b1 : decide (0 ≤ ji27) = true := decide_eq_true c52
              clear c52
              by_cases c53 : ji27 ≤ (x1_2.length : Int)
              ·rw [if_pos c53] at H
               have c53b0 := eq_true c53
               have c53b1 : decide (ji27 ≤ (x1_2.length : Int)) = true := decide_eq_true c53
               clear c53
               obtain ⟨y211, hy211⟩ : ∃ y_ : List Int, y_ = (x1_2.drop (ji27 : Int).toNat) := ⟨_, rfl⟩
               replace H : (sponge_Hash.l0 k3 y211 t192 t193 t194 t207 t208 t209 t210) = some (r1, r2) := by first | (rw [hy211]; with_reducible exact H) | (have H2_ := (Option.bind_some _ _).symm.trans H; rw [hy211]; with_reducible exact H2_) | (have H2_ := (Option.bind_some _ _).symm.trans H; with_reducible exact H2_) | with_reducible exact H | (rw [hy211]; exact H) | exact H
               have Ny211 := Aside0.mk hy211
               clear hy211
               have H' := Aside0.mk H
               clear H
               have hnb54 := NB195_190.out
               have hnc54 := NB190_195.out
               have hnb55 := NB195_196.out
               have hnc55 := NB196_195.out
               have hcz56_0 : wr.cell? ⟨g195, 0, none⟩ = some (.int .u64 t192) := bq_ B195 0
               have hcz56_1 : wr.cell? ⟨g195, 1, none⟩ = some (.int .u64 t193) := bq_ B195 1
               have hcz56_2 : wr.cell? ⟨g195, 2, none⟩ = some (.bool t194) := bq_ B195 2
               have hfz56_0 := blk_frozen B195.out 0
               have hfz56_1 := blk_frozen B195.out 1
               have hfz56_2 := blk_frozen B195.out 2
               have hnb57 := NB196_190.out
               have hnc57 := NB190_196.out
               have hcz58_0 : wr.cell? ⟨g196, 0, none⟩ = some (.int .u64 x197000_3) := bq_ B196 0
               have hcz58_1 : wr.cell? ⟨g196, 1, none⟩ = some (.int .u64 x197001_3) := bq_ B196 1
               have hcz58_2 : wr.cell? ⟨g196, 2, none⟩ = some (.int .u64 x197002_3) := bq_ B196 2
               have hcz58_3 : wr.cell? ⟨g196, 3, none⟩ = some (.int .u64 x197003_3) := bq_ B196 3
               have hfz58_0 := blk_frozen B196.out 0
               have hfz58_1 := blk_frozen B196.out 1
               have hfz58_2 := blk_frozen B196.out 2
               have hfz58_3 := blk_frozen B196.out 3
               go_wp2_with (first | ((with_reducible refine gate_callee (f := 42) rfl ?_); refine goesL_ (some 60) rfl rfl Tryd.func42 (by kernel_rfl) rfl #[.agg #[.int .u64 t192, .int .u64 t193, .bool t194], .agg #[.int .u64 x197000_3, .int .u64 x197001_3, .int .u64 x197002_3, .int .u64 x197003_3]] rfl (by (try simp only [List.map_toArray, List.map_cons, List.map_nil]); first | done | rfl) ?_; (with_reducible refine (sponge_mixer_perm.calls t192 t193 t194 x197000_3 x197001_3 x197002_3 x197003_3 t207 t208 t209 t210 _ A51.out).mono ?_); rintro e w59 ⟨rfl, hb⟩; refine ⟨_, rfl, ?_⟩; have n0_ := Aside0.mk (Kd.V_below (by (with_reducible repeat (first | apply Kd.V_alloc | apply Kd.V_drewN | apply Kd.V_drew)); exact HO_1.out) hb); have n1_ := Aside0.mk (Kd.V_below (by (with_reducible repeat (first | apply Kd.V_alloc | apply Kd.V_drewN | apply Kd.V_drew)); exact HO_37.out) hb); have n2_ := Aside0.mk (blk_below (g := g190) (o := .cells #[.int .u64 0, .int .u64 0] 30 (0, 0)) (by (with_reducible repeat first | refine blk_drewN ?_ _ | refine blk_drew ?_ | refine blk_alloc ?_ _); exact B190.out) hb); have n3_ := Aside0.mk (blk_below (g := g195) (o := .cells #[.int .u64 t192, .int .u64 t193, .bool t194] 45 (0, 0)) (by (with_reducible repeat first | refine blk_drewN ?_ _ | refine blk_drew ?_ | refine blk_alloc ?_ _); exact B195.out) hb); have n4_ := Aside0.mk (blk_below (g := g196) (o := .cells #[.int .u64 x197000_3, .int .u64 x197001_3, .int .u64 x197002_3, .int .u64 x197003_3] 23 (0, 0)) (by (with_reducible repeat first | refine blk_drewN ?_ _ | refine blk_drew ?_ | refine blk_alloc ?_ _); exact B196.out) hb); have n5_ := Aside0.mk (below_step (by repeat (first | (with_reducible first | exact HB.out | apply below_alloc | apply pw_below_drewN | apply below_drew1 | refine below_set ?_ GE190.out | refine below_set ?_ GE195.out | refine below_set ?_ GE196.out) | exact HB.out)) hb); clear HO_1; clear HO_37; clear B190; clear B195; clear B196; clear HB; have HO_1 := n0_; have HO_37 := n1_; have B190 := n2_; have B195 := n3_; have B196 := n4_; have HB := n5_; clear n0_ n1_ n2_ n3_ n4_ n5_; (try clear hb); (try clear hb2); (try clear hk); (try clear hi); have hcz60_0 : w59.cell? ⟨g196, 0, none⟩ = some (.int .u64 x197000_3) := bq_ B196 0; have hcz60_1 : w59.cell? ⟨g196, 1, none⟩ = some (.int .u64 x197001_3) := bq_ B196 1; have hcz60_2 : w59.cell? ⟨g196, 2, none⟩ = some (.int .u64 x197002_3) := bq_ B196 2; have hcz60_3 : w59.cell? ⟨g196, 3, none⟩ = some (.int .u64 x197003_3) := bq_ B196 3; have hfz60_0 := blk_frozen B196.out 0; have hfz60_1 := blk_frozen B196.out 1; have hfz60_2 := blk_frozen B196.out 2; have hfz60_3 := blk_frozen B196.out 3) | ((with_reducible refine gate_store (t := 23) (p := 6) rfl ?_); refine store_event (t := 23) (p := 6) (v := ?vo_w61) (w1 := ((((w59.setCell ⟨g196, 0, none⟩ (.int .u64 t207)).setCell ⟨g196, 1, none⟩ (.int .u64 t208)).setCell ⟨g196, 2, none⟩ (.int .u64 t209)).setCell ⟨g196, 3, none⟩ (.int .u64 t210))) ?hg ?ho ?hn ?hr ?_; (case ho => rfl); (case hg => rfl); (case hn => rfl); (case hr => first | (go_simp; done) | (go_simp; rfl)); intro w61 hw; have n0_ : Aside0 (Kd.V (Kd.int .u64) 22 w61 w.heap.size (fun k_ => (P1_ k_ ∨ w.heap.size ≤ k_) ∧ k_ ≠ g190 ∧ k_ ≠ g195 ∧ k_ ≠ g196) (.slice Ao30 x1_2.length co30) x1_2) := ⟨(by rw [hw]; exact (by (with_reducible repeat (first | apply Kd.V_alloc | apply Kd.V_drewN | apply Kd.V_drew)); exact Kd.V_mono (Kd.V_far (p := ⟨g196, 3, none⟩) (Kd.V_far (p := ⟨g196, 2, none⟩) (Kd.V_far (p := ⟨g196, 1, none⟩) (Kd.V_far (p := ⟨g196, 0, none⟩) (Kd.V_mono HO_1.out (fun k_ hk => (⟨hk, hk.2.2.2⟩ : _ ∧ k_ ≠ g196))) (fun _ hk => hk.2) (.int .u64 t207)) (fun _ hk => hk.2) (.int .u64 t208)) (fun _ hk => hk.2) (.int .u64 t209)) (fun _ hk => hk.2) (.int .u64 t210)) (fun _ hk => ⟨hk.1.1, ⟨hk.1.2.1, ⟨hk.1.2.2.1, hk.1.2.2.2⟩⟩⟩)))⟩; have n1_ : Aside0 (Kd.V (Kd.int .u64) 22 w61 w.heap.size (fun k_ => (P1_ k_ ∨ w.heap.size ≤ k_) ∧ k_ ≠ g190 ∧ k_ ≠ g195 ∧ k_ ≠ g196) (.slice Ao30 y201.length co30) y201) := ⟨(by rw [hw]; exact (by (with_reducible repeat (first | apply Kd.V_alloc | apply Kd.V_drewN | apply Kd.V_drew)); exact Kd.V_mono (Kd.V_far (p := ⟨g196, 3, none⟩) (Kd.V_far (p := ⟨g196, 2, none⟩) (Kd.V_far (p := ⟨g196, 1, none⟩) (Kd.V_far (p := ⟨g196, 0, none⟩) (Kd.V_mono HO_37.out (fun k_ hk => (⟨hk, hk.2.2.2⟩ : _ ∧ k_ ≠ g196))) (fun _ hk => hk.2) (.int .u64 t207)) (fun _ hk => hk.2) (.int .u64 t208)) (fun _ hk => hk.2) (.int .u64 t209)) (fun _ hk => hk.2) (.int .u64 t210)) (fun _ hk => ⟨hk.1.1, ⟨hk.1.2.1, ⟨hk.1.2.2.1, hk.1.2.2.2⟩⟩⟩)))⟩; have n2_ : Aside0 (w61.heap[g190]? = some (.cells #[.int .u64 0, .int .u64 0] 30 (0, 0))) := ⟨(by rw [hw]; exact (by (with_reducible repeat first | refine blk_drewN ?_ _ | refine blk_drew ?_ | refine blk_alloc ?_ _); refine blk_far ?_ NB190_196.out _; (with_reducible repeat first | refine blk_drewN ?_ _ | refine blk_drew ?_ | refine blk_alloc ?_ _); refine blk_far ?_ NB190_196.out _; (with_reducible repeat first | refine blk_drewN ?_ _ | refine blk_drew ?_ | refine blk_alloc ?_ _); refine blk_far ?_ NB190_196.out _; (with_reducible repeat first | refine blk_drewN ?_ _ | refine blk_drew ?_ | refine blk_alloc ?_ _); refine blk_far ?_ NB190_196.out _; (with_reducible repeat first | refine blk_drewN ?_ _ | refine blk_drew ?_ | refine blk_alloc ?_ _); exact B190.out))⟩; have n3_ : Aside0 (w61.heap[g195]? = some (.cells #[.int .u64 t192, .int .u64 t193, .bool t194] 45 (0, 0))) := ⟨(by rw [hw]; exact (by (with_reducible repeat first | refine blk_drewN ?_ _ | refine blk_drew ?_ | refine blk_alloc ?_ _); refine blk_far ?_ NB195_196.out _; (with_reducible repeat first | refine blk_drewN ?_ _ | refine blk_drew ?_ | refine blk_alloc ?_ _); refine blk_far ?_ NB195_196.out _; (with_reducible repeat first | refine blk_drewN ?_ _ | refine blk_drew ?_ | refine blk_alloc ?_ _); refine blk_far ?_ NB195_196.out _; (with_reducible repeat first | refine blk_drewN ?_ _ | refine blk_drew ?_ | refine blk_alloc ?_ _); refine blk_far ?_ NB195_196.out _; (with_reducible repeat first | refine blk_drewN ?_ _ | refine blk_drew ?_ | refine blk_alloc ?_ _); exact B195.out))⟩; have n4_ : Aside0 (w61.heap[g196]? = some (.cells #[.int .u64 t207, .int .u64 t208, .int .u64 t209, .int .u64 t210] 23 (0, 0))) := ⟨(by rw [hw]; exact (by (with_reducible repeat first | refine blk_drewN ?_ _ | refine blk_drew ?_ | refine blk_alloc ?_ _); refine blk_put (cs := #[.int .u64 t207, .int .u64 t208, .int .u64 t209, .int .u64 x197003_3]) ?_ 3 _ rfl; (with_reducible repeat first | refine blk_drewN ?_ _ | refine blk_drew ?_ | refine blk_alloc ?_ _); refine blk_put (cs := #[.int .u64 t207, .int .u64 t208, .int .u64 x197002_3, .int .u64 x197003_3]) ?_ 2 _ rfl; (with_reducible repeat first | refine blk_drewN ?_ _ | refine blk_drew ?_ | refine blk_alloc ?_ _); refine blk_put (cs := #[.int .u64 t207, .int .u64 x197001_3, .int .u64 x197002_3, .int .u64 x197003_3]) ?_ 1 _ rfl; (with_reducible repeat first | refine blk_drewN ?_ _ | refine blk_drew ?_ | refine blk_alloc ?_ _); refine blk_put (cs := #[.int .u64 x197000_3, .int .u64 x197001_3, .int .u64 x197002_3, .int .u64 x197003_3]) ?_ 0 _ rfl; (with_reducible repeat first | refine blk_drewN ?_ _ | refine blk_drew ?_ | refine blk_alloc ?_ _); exact B196.out))⟩; have n5_ : Aside0 (Below w.heap.size w w61) := ⟨(by rw [hw]; exact (by repeat (first | (with_reducible first | exact HB.out | apply below_alloc | apply pw_below_drewN | apply below_drew1 | refine below_set ?_ GE190.out | refine below_set ?_ GE195.out | refine below_set ?_ GE196.out) | exact HB.out)))⟩; clear hw; clear HO_1; clear HO_37; clear B190; clear B195; clear B196; clear HB; have HO_1 := n0_; have HO_37 := n1_; have B190 := n2_; have B195 := n3_; have B196 := n4_; have HB := n5_; clear n0_ n1_ n2_ n3_ n4_ n5_; have q62 : (ji27 : Int) ≤ ((x1_2.length : Int) : Int) := of_decide_eq_true (by first | (with_reducible assumption) | assumption); obtain ⟨i062, hi062, _, hsz62, _⟩ := info_parts info22; have hroom62 : x1_2.length ≤ co30 := (Kd.V_reads' HO_1.out).2.1; have hC62 : Kd.F (Kd.int .u64) _ _ Ao30 x1_2.length x1_2 := (Kd.V_at (base := w.heap.size) HO_1.out).2.2; have q062 : (0 : Int) ≤ (ji27 : Int) := of_decide_eq_true (by first | (with_reducible assumption) | assumption); have hcut62 := cut_from (P := Tryd.prog) 28 22 .i64 Tryd.underlying28 hi062 1 hsz62 Ao30 x1_2.length co30 ji27 q062 q62; have hr62 := Kd.F_cut (m := (ji27 : Int).toNat) (c := co30) hC62 (by omega) hroom62; obtain ⟨A62, hA62⟩ : ∃ A1, A1 = (if co30 = (ji27 : Int).toNat then Ao30 else (Ao30 : Option Addr).map (·.add ((ji27 : Int).toNat * 1))) := ⟨_, rfl⟩; obtain ⟨c62, hc62⟩ : ∃ c1, c1 = co30 - (ji27 : Int).toNat := ⟨_, rfl⟩; have hy62 : y211.length = x1_2.length - (ji27 : Int).toNat := (by rw [Ny211.out, List.length_drop] <;> omega); rw [show (x1_2).drop (ji27 : Int).toNat = y211 from Ny211.out.symm] at hr62; replace hr62 : Kd.F (Kd.int .u64) _ _ A62 y211.length y211 := (by rw [hA62]; exact hr62); rw [← hy62, ← hA62, ← hc62] at hcut62; have HO215 := Aside0.mk (show Kd.V (Kd.int .u64) 22 _ w.heap.size _ (.slice A62 y211.length c62) y211 from Kd.V_mk (by rw [hy62, hc62]; exact Nat.sub_le_sub_right hroom62 _) hr62); have HC215 := Aside0.mk (show y211.length ≤ c62 from by rw [hy62, hc62]; exact Nat.sub_le_sub_right hroom62 _); clear hr62 hC62 hroom62 hi062 hsz62 hc62; have KY62 := Aside0.mk hy62; have KA62 := Aside0.mk hA62; clear hy62 hA62; replace q62 := eq_true q62))
               go_roundg k3
               case measure => have := HJ6.out; have := HK2.out; have := HK3.out; omega
               case rel => exact ⟨(y211), (t207), (t208), (t209), (t210), H', ⟨by have := HJ6.out; have := HK2.out; have := HK3.out; omega⟩, ⟨by (with_reducible repeat (first | apply Kd.V_alloc | apply Kd.V_drewN | apply Kd.V_drew)); exact HO215.out⟩, ⟨by (with_reducible repeat first | refine blk_drewN ?_ _ | refine blk_drew ?_ | refine blk_alloc ?_ _); exact B190.out⟩, ⟨by (with_reducible repeat first | refine blk_drewN ?_ _ | refine blk_drew ?_ | refine blk_alloc ?_ _); exact B195.out⟩, ⟨by (with_reducible repeat first | refine blk_drewN ?_ _ | refine blk_drew ?_ | refine blk_alloc ?_ _); exact B196.out⟩, ⟨by repeat (first | (with_reducible first | exact HB.out | apply below_alloc | apply pw_below_drewN | apply below_drew1 | refine below_set ?_ GE190.out | refine below_set ?_ GE195.out | refine below_set ?_ GE196.out) | exact HB.out)⟩⟩
              ·rw [if_neg c53] at H
               exact absurd H (by simp)
             ·rw [if_neg c52] at H
              exact absurd H (by simp)
         ·rw [if_neg c29] at H
          exact absurd H (by simp)
        ·rw [if_neg c28] at H
         exact absurd H (by simp)
       ·rw [if_neg c26] at H
        have c26b0 : decide (0 < (x1_2.length : Int)) = false := decide_eq_false c26
        have c26b1 : decide (0 < x1_2.length) = false := decide_eq_false (by omega)
        clear c26
        simp only [Option.some.injEq, Prod.mk.injEq] at H
        obtain ⟨rfl, rfl⟩ := H
        obtain ⟨Ao63, co63, eo63⟩ := Kd.V_slice HO_1.out
        subst eo63
        have hnb64 := NB196_190.out
        have hnc64 := NB190_196.out
        have hnb65 := NB196_195.out
        have hnc65 := NB195_196.out
        have hcz66_0 : wr.cell? ⟨g196, 0, none⟩ = some (.int .u64 x197000_2) := bq_ B196 0
        have hcz66_1 : wr.cell? ⟨g196, 1, none⟩ = some (.int .u64 x197001_2) := bq_ B196 1
        have hcz66_2 : wr.cell? ⟨g196, 2, none⟩ = some (.int .u64 x197002_2) := bq_ B196 2
        have hcz66_3 : wr.cell? ⟨g196, 3, none⟩ = some (.int .u64 x197003_2) := bq_ B196 3
        have hfz66_0 := blk_frozen B196.out 0
        have hfz66_1 := blk_frozen B196.out 1
        have hfz66_2 := blk_frozen B196.out 2
        have hfz66_3 := blk_frozen B196.out 3
        have hnb67 := NB190_195.out
        have hnc67 := NB195_190.out
        have hcz68_0 : wr.cell? ⟨g190, 0, none⟩ = some (.int .u64 0) := bq_ B190 0
        have hcz68_1 : wr.cell? ⟨g190, 1, none⟩ = some (.int .u64 0) := bq_ B190 1
        have hfz68_0 := blk_frozen B190.out 0
        have hfz68_1 := blk_frozen B190.out 1
        go_wp2
        refine bodyPost_ret (results_cell_row rfl _ _ g190 30 #[.int .u64 x197000_2, .int .u64 x197001_2] (0, 0) _ rfl (by (with_reducible repeat first | refine blk_drewN ?_ _ | refine blk_drew ?_ | refine blk_alloc ?_ _); refine blk_put (cs := #[.int .u64 x197000_2, .int .u64 0]) ?_ 1 _ rfl; (with_reducible repeat first | refine blk_drewN ?_ _ | refine blk_drew ?_ | refine blk_alloc ?_ _); refine blk_put (cs := #[.int .u64 0, .int .u64 0]) ?_ 0 _ rfl; (with_reducible repeat first | refine blk_drewN ?_ _ | refine blk_drew ?_ | refine blk_alloc ?_ _); exact B190.out) Tryd.underlying30 rfl (by kernel_rfl)) rfl ?_
        exact ⟨by first | rfl | (simp [errW_none, errW_some] <;> rfl) | (simp [*, errW_none, errW_some] <;> rfl), by repeat (first | (with_reducible first | exact HB.out | apply below_alloc | apply pw_below_drewN | apply below_drew1 | refine below_set ?_ GE190.out | refine below_set ?_ GE195.out | refine below_set ?_ GE196.out) | exact HB.out)⟩
 ·replace c4 := Bool.eq_false_iff.mpr c4
  subst c4
  have H1 : (some (0, 0)) = some (r1, r2) := by rw [if_neg (show ¬ (false = true) by decide)] at H; exact H
  clear H
  have H := H1
  clear H1
  simp only [Option.some.injEq, Prod.mk.injEq] at H
  obtain ⟨rfl, rfl⟩ := H
  go_enter Tryd.func17, Tryd.ntmps17
  go_wp2_with (first | ((with_reducible refine gate_dst (N := 4) rfl ?_); refine box_event ?hg (N := 4) ?hd (cs := #[.int .u64 0, .int .u64 0]) (t := 30) ?hr ?_; (case hd => rfl); (case hg => rfl); (case hr => first | (go_simp; done) | (go_simp; rfl)); intro g190 hg w69 hbox hb; have n0_ := Aside0.mk (Kd.V_below (Kd.V_elderB (by (with_reducible repeat (first | apply Kd.V_alloc | apply Kd.V_drewN | apply Kd.V_drew)); exact HO1.out) g190 (Nat.le_of_eq hg.symm)) hb); have n1_ := Aside0.mk (below_step (by repeat (first | (with_reducible first | exact HB.out | apply below_alloc | apply pw_below_drewN | apply below_drew1) | exact HB.out)) hb); have n2_ := Aside0.mk (hbox); have n3_ := Aside0.mk ((by rw [hg]; exact (below_size (by repeat (first | (with_reducible first | exact HB.out | apply below_alloc | apply pw_below_drewN | apply below_drew1) | exact HB.out))) : w.heap.size ≤ g190)); have n4_ := Aside0.mk ((by rw [hg]; exact (below_size (by repeat (first | (with_reducible first | exact HB.out | apply below_alloc | apply pw_below_drewN | apply below_drew1) | exact HB.out))) : w.heap.size ≤ g190)); clear HO1; clear HB; have HO1 := n0_; have HB := n1_; have B190 := n2_; have GW190 := n3_; have GE190 := n4_; clear n0_ n1_ n2_ n3_ n4_; clear hb hbox hg) | ((with_reducible refine gate_callee (f := 41) rfl ?_); refine goesL_ (some 11) rfl rfl Tryd.func41 (by kernel_rfl) rfl #[.int .i64 a0] rfl (by (try simp only [List.map_toArray, List.map_cons, List.map_nil]); first | done | rfl) ?_; (with_reducible refine (field_Valid.calls a0 false _ A3.out).mono ?_); rintro e w' ⟨rfl, ⟨nd, rfl⟩⟩; refine ⟨_, rfl, ?_⟩; (try (rw [drewN_self w69]; generalize q_ : World.drewN w69 _ = w69; have n0_ : Aside0 (Kd.V (Kd.int .u64) 22 w69 w.heap.size (fun k_ => (P1_ k_ ∨ w.heap.size ≤ k_) ∧ k_ ≠ g190) (.slice A1 l1.length c1) l1) := ⟨by rw [← q_]; exact (by (with_reducible repeat (first | apply Kd.V_alloc | apply Kd.V_drewN | apply Kd.V_drew)); exact HO1.out)⟩; have n1_ : Aside0 (w69.heap[g190]? = some (.cells #[.int .u64 0, .int .u64 0] 30 (0, 0))) := ⟨by rw [← q_]; exact (by (with_reducible repeat first | refine blk_drewN ?_ _ | refine blk_drew ?_ | refine blk_alloc ?_ _); exact B190.out)⟩; have n2_ : Aside0 (Below w.heap.size w w69) := ⟨by rw [← q_]; exact (by repeat (first | (with_reducible first | exact HB.out | apply below_alloc | apply pw_below_drewN | apply below_drew1 | refine below_set ?_ GE190.out) | exact HB.out))⟩; clear HO1 B190 HB q_; have HO1 := n0_; have B190 := n1_; have HB := n2_; clear n0_ n1_ n2_)); have hcz70_0 : w69.cell? ⟨g190, 0, none⟩ = some (.int .u64 0) := bq_ B190 0; have hcz70_1 : w69.cell? ⟨g190, 1, none⟩ = some (.int .u64 0) := bq_ B190 1; have hfz70_0 := blk_frozen B190.out 0; have hfz70_1 := blk_frozen B190.out 1))
  refine bodyPost_ret (results_cell_row rfl _ _ g190 30 #[.int .u64 0, .int .u64 0] (0, 0) _ rfl (by (with_reducible repeat first | refine blk_drewN ?_ _ | refine blk_drew ?_ | refine blk_alloc ?_ _); refine blk_put (cs := #[.int .u64 0, .int .u64 0]) ?_ 1 _ rfl; (with_reducible repeat first | refine blk_drewN ?_ _ | refine blk_drew ?_ | refine blk_alloc ?_ _); refine blk_put (cs := #[.int .u64 0, .int .u64 0]) ?_ 0 _ rfl; (with_reducible repeat first | refine blk_drewN ?_ _ | refine blk_drew ?_ | refine blk_alloc ?_ _); exact B190.out) Tryd.underlying30 rfl (by kernel_rfl)) rfl ?_
  exact ⟨by first | rfl | (simp [errW_none, errW_some] <;> rfl) | (simp [*, errW_none, errW_some] <;> rfl), by repeat (first | (with_reducible first | exact HB.out | apply below_alloc | apply pw_below_drewN | apply below_drew1 | refine below_set ?_ GE190.out) | exact HB.out)⟩

end Go.Proofs.YtjfekjblnoagkaaDoor.Q
end
section
namespace Go.Proofs.YtjfekjblnoagkaaDoor.Q
open Go.RowKit Go.Proofs.YtjfekjblnoagkaaDoorW.PrintWords Go.Proofs.YtjfekjblnoagkaaDoorW.PrintLast Go.Proofs.YtjfekjblnoagkaaDoorW.PrintMore
attribute [local go_sem] max2_int min2_int max_two min_two max_three min_three max_four min_four   -- for this text's walks alone
set_option linter.unusedVariables false
set_option linter.unusedSimpArgs false

attribute [local go_sem high] eqA23 eqA30
/-! ### attestorlaw06_lives: function 16 -/
def attestorlaw06_lives.f (k : Nat)  : Option (Bool) := (sponge_Constant.f k 0 0 0).bind fun t231 => (if t231 = 12 then ((sponge_Constant.f k 0 7 3).bind fun t232 => (if t232 = 42 then ((sponge_Round.f k 0 0 0 0 0 0).bind fun bt233 => (if (bt233.1 == 59 && (bt233.2.1 == 59 && (bt233.2.2.1 == 94 && (bt233.2.2.2 == 40)))) = true then ((sponge_Perm.f 0 0 0 0 0).bind fun bt237 => (if (bt237.1 == 19 && (bt237.2.1 == 58 && (bt237.2.2.1 == 95 && (bt237.2.2.2 == 16)))) = true then ((sponge_Hash.f k 0 ([] : List Int)).bind fun bt241 => (some (bt241.1 == 19 && (bt241.2 == 58)))) else (some false))) else (some false))) else (some false))) else (some false))
theorem attestorlaw06_lives.mono : ∀ k, LeO (attestorlaw06_lives.f k ) (attestorlaw06_lives.f (k + 1) ) := by
  intro  k
  unfold attestorlaw06_lives.f
  repeat' first
      | (with_reducible exact sponge_Constant.mono _ _ _ _)
      | (with_reducible exact sponge_Hash.mono _ _ _)
      | (with_reducible exact sponge_Round.mono _ _ _ _ _ _ _)
      | (with_reducible exact LeO.refl _)
      | (with_reducible exact LeO.none _)
      | (with_reducible refine LeO.ite ?_ ?_)
      | (with_reducible refine LeO.bind ?_ (fun _ => ?_))
      | exact sponge_Constant.mono _ _ _ _
      | exact sponge_Hash.mono _ _ _
      | exact sponge_Round.mono _ _ _ _ _ _ _
      | exact LeO.none _
      | refine LeO.ite ?_ ?_
      | refine LeO.bind ?_ (fun _ => ?_)
set_option maxHeartbeats 8000000 in
set_option maxRecDepth 100000 in
theorem attestorlaw06_lives.calls (k : Nat)  (r : Bool) (w : World) (hrG : GL w) (h : attestorlaw06_lives.f k  = some r) :
    Calls Tryd.prog 16 #[] w fun e w' => e = .returned (.bool r) ∧ Below w.heap.size w w' := by
  have hu23 := Tryd.underlying23
  have hu30 := Tryd.underlying30
  have HRG := Aside0.mk hrG
  clear hrG
  have HB := Aside0.mk (Below.refl w.heap.size w)
  have H : ((sponge_Constant.f k 0 0 0).bind fun t231 => (if t231 = 12 then ((sponge_Constant.f k 0 7 3).bind fun t232 => (if t232 = 42 then ((sponge_Round.f k 0 0 0 0 0 0).bind fun bt233 => (if (bt233.1 == 59 && (bt233.2.1 == 59 && (bt233.2.2.1 == 94 && (bt233.2.2.2 == 40)))) = true then ((sponge_Perm.f 0 0 0 0 0).bind fun bt237 => (if (bt237.1 == 19 && (bt237.2.1 == 58 && (bt237.2.2.1 == 95 && (bt237.2.2.2 == 16)))) = true then ((sponge_Hash.f k 0 ([] : List Int)).bind fun bt241 => (some (bt241.1 == 19 && (bt241.2 == 58)))) else (some false))) else (some false))) else (some false))) else (some false))) = some r := h
  clear h
  replace H := Option.bind_eq_some_iff.mp H
  obtain ⟨t231, A10, H⟩ := H
  replace H : (if t231 = 12 then ((sponge_Constant.f k 0 7 3).bind fun t232 => (if t232 = 42 then ((sponge_Round.f k 0 0 0 0 0 0).bind fun bt233 => (if (bt233.1 == 59 && (bt233.2.1 == 59 && (bt233.2.2.1 == 94 && (bt233.2.2.2 == 40)))) = true then ((sponge_Perm.f 0 0 0 0 0).bind fun bt237 => (if (bt237.1 == 19 && (bt237.2.1 == 58 && (bt237.2.2.1 == 95 && (bt237.2.2.2 == 16)))) = true then ((sponge_Hash.f k 0 ([] : List Int)).bind fun bt241 => (some (bt241.1 == 19 && (bt241.2 == 58)))) else (some false))) else (some false))) else (some false))) else (some false)) = some r := H
  have A1 := Aside0.mk A10
  clear A10
  by_cases c2 : t231 = 12
  · rw [if_pos c2] at H
    have c2b0 : (t231 == 12) = true := beq_iff_eq.mpr c2
    have c2b1 : (t231 != 12) = false := bne_eq_false_iff_eq.mpr c2
    clear c2
    replace H := Option.bind_eq_some_iff.mp H
    obtain ⟨t232, A30, H⟩ := H
    replace H : (if t232 = 42 then ((sponge_Round.f k 0 0 0 0 0 0).bind fun bt233 => (if (bt233.1 == 59 && (bt233.2.1 == 59 && (bt233.2.2.1 == 94 && (bt233.2.2.2 == 40)))) = true then ((sponge_Perm.f 0 0 0 0 0).bind fun bt237 => (if (bt237.1 == 19 && (bt237.2.1 == 58 && (bt237.2.2.1 == 95 && (bt237.2.2.2 == 16)))) = true then ((sponge_Hash.f k 0 ([] : List Int)).bind fun bt241 => (some (bt241.1 == 19 && (bt241.2 == 58)))) else (some false))) else (some false))) else (some false)) = some r := H
    have A3 := Aside0.mk A30
    clear A30
    by_cases c4 : t232 = 42
    · rw [if_pos c4] at H
      have c4b0 : (t232 == 42) = true := beq_iff_eq.mpr c4
      have c4b1 : (t232 != 42) = false := bne_eq_false_iff_eq.mpr c4
      clear c4
      replace H := Option.bind_eq_some_iff.mp H
      obtain ⟨⟨t233, t234, t235, t236⟩, A50, H⟩ := H
      replace H : (if (t233 == 59 && (t234 == 59 && (t235 == 94 && (t236 == 40)))) = true then ((sponge_Perm.f 0 0 0 0 0).bind fun bt237 => (if (bt237.1 == 19 && (bt237.2.1 == 58 && (bt237.2.2.1 == 95 && (bt237.2.2.2 == 16)))) = true then ((sponge_Hash.f k 0 ([] : List Int)).bind fun bt241 => (some (bt241.1 == 19 && (bt241.2 == 58)))) else (some false))) else (some false)) = some r := H
      have A5 := Aside0.mk A50
      clear A50
      by_cases c6 : (t233 == 59 && (t234 == 59 && (t235 == 94 && (t236 == 40)))) = true
      · rw [if_pos c6] at H
        have c6b0 : (t233 == 59 && (t234 == 59 && (t235 == 94 && (t236 == 40)))) = true := c6
        (try (have c6b1 : decide (t233 = 59 && (t234 == 59 && (t235 == 94 && (t236 == 40)))) = true := by simpa using c6))
        (try (have c6b2 : (t233 == 59 && (t234 == 59 && (t235 == 94 && (t236 == 40)))) = true := by simpa using c6))
        clear c6
        replace H := Option.bind_eq_some_iff.mp H
        obtain ⟨⟨t237, t238, t239, t240⟩, A70, H⟩ := H
        replace H : (if (t237 == 19 && (t238 == 58 && (t239 == 95 && (t240 == 16)))) = true then ((sponge_Hash.f k 0 ([] : List Int)).bind fun bt241 => (some (bt241.1 == 19 && (bt241.2 == 58)))) else (some false)) = some r := H
        have A7 := Aside0.mk A70
        clear A70
        by_cases c8 : (t237 == 19 && (t238 == 58 && (t239 == 95 && (t240 == 16)))) = true
        · rw [if_pos c8] at H
          have c8b0 : (t237 == 19 && (t238 == 58 && (t239 == 95 && (t240 == 16)))) = true := c8
          (try (have c8b1 : decide (t237 = 19 && (t238 == 58 && (t239 == 95 && (t240 == 16)))) = true := by simpa using c8))
          (try (have c8b2 : (t237 == 19 && (t238 == 58 && (t239 == 95 && (t240 == 16)))) = true := by simpa using c8))
          clear c8
          replace H := Option.bind_eq_some_iff.mp H
          obtain ⟨⟨t241, t242⟩, A90, H⟩ := H
          replace H : (some (t241 == 19 && (t242 == 58))) = some r := H
          have A9 := Aside0.mk A90
          clear A90
          obtain rfl := Option.some.inj H
          go_enter Tryd.func16, Tryd.ntmps16
          go_wp2_with (first | ((with_reducible refine gate_callee (f := 12) rfl ?_); refine goesL_ (some 1) rfl rfl Tryd.func12 (by kernel_rfl) rfl #[.int .i64 0, .int .i64 0, .int .i64 0] rfl (by (try simp only [List.map_toArray, List.map_cons, List.map_nil]); first | done | rfl | (simp only [List.length_drop, List.length_take]; rfl) | (go_simp; done) | (go_simp; rw [Int.tmod_eq_emod_of_nonneg (by omega)]; omega)) ?_; (with_reducible refine (sponge_Constant.calls k 0 0 0 t231 _ ?side1 A1.out).mono ?_); (case side1 => repeat (first | exact HRG.out | (with_reducible refine GL.alloc ?_ _) | (with_reducible refine GL.drewN ?_ _) | (with_reducible refine GL.drew ?_))); rintro e w10 ⟨rfl, hb⟩; refine ⟨_, rfl, ?_⟩; have n0_ := Aside0.mk (below_step (by repeat (first | (with_reducible first | exact HB.out | apply below_alloc | apply pw_below_drewN | apply below_drew1) | exact HB.out)) hb); clear HB; have HB := n0_; clear n0_; (try clear hb); (try clear hb2); (try clear hk); (try clear hi)) | (go_at_call 12; (with_reducible refine (sponge_Constant.calls k 0 7 3 t232 _ ?side1 A3.out).mono ?_); (case side1 => repeat (first | exact (GL.below HRG.out HB.out) | (with_reducible refine GL.alloc ?_ _) | (with_reducible refine GL.drewN ?_ _) | (with_reducible refine GL.drew ?_))); rintro e w11 ⟨rfl, hb⟩; have n0_ := Aside0.mk (below_step (by repeat (first | (with_reducible first | exact HB.out | apply below_alloc | apply pw_below_drewN | apply below_drew1) | exact HB.out)) hb); clear HB; have HB := n0_; clear n0_; (try clear hb); (try clear hb2); (try clear hk); (try clear hi)) | (go_at_call 14; (with_reducible refine (sponge_Round.calls k 0 0 0 0 0 0 t233 t234 t235 t236 _ ?side1 A5.out).mono ?_); (case side1 => repeat (first | exact (GL.below HRG.out HB.out) | (with_reducible refine GL.alloc ?_ _) | (with_reducible refine GL.drewN ?_ _) | (with_reducible refine GL.drew ?_))); rintro e w12 ⟨rfl, hb⟩; have n0_ := Aside0.mk (below_step (by repeat (first | (with_reducible first | exact HB.out | apply below_alloc | apply pw_below_drewN | apply below_drew1) | exact HB.out)) hb); clear HB; have HB := n0_; clear n0_; (try clear hb); (try clear hb2); (try clear hk); (try clear hi)) | (go_at_call 19; (with_reducible refine (sponge_Perm.calls 0 0 0 0 0 t237 t238 t239 t240 _ ?side1 A7.out).mono ?_); (case side1 => repeat (first | exact (GL.below HRG.out HB.out) | (with_reducible refine GL.alloc ?_ _) | (with_reducible refine GL.drewN ?_ _) | (with_reducible refine GL.drew ?_))); rintro e w13 ⟨rfl, hb⟩; have n0_ := Aside0.mk (below_step (by repeat (first | (with_reducible first | exact HB.out | apply below_alloc | apply pw_below_drewN | apply below_drew1) | exact HB.out)) hb); clear HB; have HB := n0_; clear n0_; (try clear hb); (try clear hb2); (try clear hk); (try clear hi)) | (go_at_call 17; (refine (sponge_Hash.calls k 0 (fun k_ => False) _ _ ([] : List Int) t241 t242 _ ?side1 ?side2 A9.out).mono ?_); (case side1 => exact Kd.V_nil _ _ _ _ _); (case side2 => repeat (first | exact (GL.below HRG.out HB.out) | (with_reducible refine GL.alloc ?_ _) | (with_reducible refine GL.drewN ?_ _) | (with_reducible refine GL.drew ?_))); rintro e w14 ⟨rfl, hb⟩; have n0_ := Aside0.mk (below_step (by repeat (first | (with_reducible first | exact HB.out | apply below_alloc | apply pw_below_drewN | apply below_drew1) | exact HB.out)) hb); clear HB; have HB := n0_; clear n0_; (try clear hb); (try clear hb2); (try clear hk); (try clear hi)))
          go_ret
          exact ⟨by first | rfl | (simp [errW_none, errW_some] <;> rfl) | (simp [*, errW_none, errW_some] <;> rfl), by repeat (first | (with_reducible first | exact HB.out | apply below_alloc | apply pw_below_drewN | apply below_drew1) | exact HB.out)⟩
        · rw [if_neg c8] at H
          have c8b0 : (t237 == 19 && (t238 == 58 && (t239 == 95 && (t240 == 16)))) = false := by simpa using c8
          (try (have c8b1 : decide (t237 = 19 && (t238 == 58 && (t239 == 95 && (t240 == 16)))) = false := by simpa using c8))
          (try (have c8b2 : (t237 == 19 && (t238 == 58 && (t239 == 95 && (t240 == 16)))) = false := by simpa using c8))
          (try (have c8b3 : ¬ (t237 = 19 && (t238 == 58 && (t239 == 95 && (t240 == 16)))) := by simpa using c8))
          clear c8
          obtain rfl := Option.some.inj H
          go_enter Tryd.func16, Tryd.ntmps16
          go_wp2_with (first | ((with_reducible refine gate_callee (f := 12) rfl ?_); refine goesL_ (some 1) rfl rfl Tryd.func12 (by kernel_rfl) rfl #[.int .i64 0, .int .i64 0, .int .i64 0] rfl (by (try simp only [List.map_toArray, List.map_cons, List.map_nil]); first | done | rfl | (simp only [List.length_drop, List.length_take]; rfl) | (go_simp; done) | (go_simp; rw [Int.tmod_eq_emod_of_nonneg (by omega)]; omega)) ?_; (with_reducible refine (sponge_Constant.calls k 0 0 0 t231 _ ?side1 A1.out).mono ?_); (case side1 => repeat (first | exact HRG.out | (with_reducible refine GL.alloc ?_ _) | (with_reducible refine GL.drewN ?_ _) | (with_reducible refine GL.drew ?_))); rintro e w15 ⟨rfl, hb⟩; refine ⟨_, rfl, ?_⟩; have n0_ := Aside0.mk (below_step (by repeat (first | (with_reducible first | exact HB.out | apply below_alloc | apply pw_below_drewN | apply below_drew1) | exact HB.out)) hb); clear HB; have HB := n0_; clear n0_; (try clear hb); (try clear hb2); (try clear hk); (try clear hi)) | (go_at_call 12; (with_reducible refine (sponge_Constant.calls k 0 7 3 t232 _ ?side1 A3.out).mono ?_); (case side1 => repeat (first | exact (GL.below HRG.out HB.out) | (with_reducible refine GL.alloc ?_ _) | (with_reducible refine GL.drewN ?_ _) | (with_reducible refine GL.drew ?_))); rintro e w16 ⟨rfl, hb⟩; have n0_ := Aside0.mk (below_step (by repeat (first | (with_reducible first | exact HB.out | apply below_alloc | apply pw_below_drewN | apply below_drew1) | exact HB.out)) hb); clear HB; have HB := n0_; clear n0_; (try clear hb); (try clear hb2); (try clear hk); (try clear hi)) | (go_at_call 14; (with_reducible refine (sponge_Round.calls k 0 0 0 0 0 0 t233 t234 t235 t236 _ ?side1 A5.out).mono ?_); (case side1 => repeat (first | exact (GL.below HRG.out HB.out) | (with_reducible refine GL.alloc ?_ _) | (with_reducible refine GL.drewN ?_ _) | (with_reducible refine GL.drew ?_))); rintro e w17 ⟨rfl, hb⟩; have n0_ := Aside0.mk (below_step (by repeat (first | (with_reducible first | exact HB.out | apply below_alloc | apply pw_below_drewN | apply below_drew1) | exact HB.out)) hb); clear HB; have HB := n0_; clear n0_; (try clear hb); (try clear hb2); (try clear hk); (try clear hi)) | (go_at_call 19; (with_reducible refine (sponge_Perm.calls 0 0 0 0 0 t237 t238 t239 t240 _ ?side1 A7.out).mono ?_); (case side1 => repeat (first | exact (GL.below HRG.out HB.out) | (with_reducible refine GL.alloc ?_ _) | (with_reducible refine GL.drewN ?_ _) | (with_reducible refine GL.drew ?_))); rintro e w18 ⟨rfl, hb⟩; have n0_ := Aside0.mk (below_step (by repeat (first | (with_reducible first | exact HB.out | apply below_alloc | apply pw_below_drewN | apply below_drew1) | exact HB.out)) hb); clear HB; have HB := n0_; clear n0_; (try clear hb); (try clear hb2); (try clear hk); (try clear hi)))
          go_ret
          exact ⟨by first | rfl | (simp [errW_none, errW_some] <;> rfl) | (simp [*, errW_none, errW_some] <;> rfl), by repeat (first | (with_reducible first | exact HB.out | apply below_alloc | apply pw_below_drewN | apply below_drew1) | exact HB.out)⟩
      · rw [if_neg c6] at H
        have c6b0 : (t233 == 59 && (t234 == 59 && (t235 == 94 && (t236 == 40)))) = false := by simpa using c6
        (try (have c6b1 : decide (t233 = 59 && (t234 == 59 && (t235 == 94 && (t236 == 40)))) = false := by simpa using c6))
        (try (have c6b2 : (t233 == 59 && (t234 == 59 && (t235 == 94 && (t236 == 40)))) = false := by simpa using c6))
        (try (have c6b3 : ¬ (t233 = 59 && (t234 == 59 && (t235 == 94 && (t236 == 40)))) := by simpa using c6))
        clear c6
        obtain rfl := Option.some.inj H
        go_enter Tryd.func16, Tryd.ntmps16
        go_wp2_with (first | ((with_reducible refine gate_callee (f := 12) rfl ?_); refine goesL_ (some 1) rfl rfl Tryd.func12 (by kernel_rfl) rfl #[.int .i64 0, .int .i64 0, .int .i64 0] rfl (by (try simp only [List.map_toArray, List.map_cons, List.map_nil]); first | done | rfl | (simp only [List.length_drop, List.length_take]; rfl) | (go_simp; done) | (go_simp; rw [Int.tmod_eq_emod_of_nonneg (by omega)]; omega)) ?_; (with_reducible refine (sponge_Constant.calls k 0 0 0 t231 _ ?side1 A1.out).mono ?_); (case side1 => repeat (first | exact HRG.out | (with_reducible refine GL.alloc ?_ _) | (with_reducible refine GL.drewN ?_ _) | (with_reducible refine GL.drew ?_))); rintro e w19 ⟨rfl, hb⟩; refine ⟨_, rfl, ?_⟩; have n0_ := Aside0.mk (below_step (by repeat (first | (with_reducible first | exact HB.out | apply below_alloc | apply pw_below_drewN | apply below_drew1) | exact HB.out)) hb); clear HB; have HB := n0_; clear n0_; (try clear hb); (try clear hb2); (try clear hk); (try clear hi)) | (go_at_call 12; (with_reducible refine (sponge_Constant.calls k 0 7 3 t232 _ ?side1 A3.out).mono ?_); (case side1 => repeat (first | exact (GL.below HRG.out HB.out) | (with_reducible refine GL.alloc ?_ _) | (with_reducible refine GL.drewN ?_ _) | (with_reducible refine GL.drew ?_))); rintro e w20 ⟨rfl, hb⟩; have n0_ := Aside0.mk (below_step (by repeat (first | (with_reducible first | exact HB.out | apply below_alloc | apply pw_below_drewN | apply below_drew1) | exact HB.out)) hb); clear HB; have HB := n0_; clear n0_; (try clear hb); (try clear hb2); (try clear hk); (try clear hi)) | (go_at_call 14; (with_reducible refine (sponge_Round.calls k 0 0 0 0 0 0 t233 t234 t235 t236 _ ?side1 A5.out).mono ?_); (case side1 => repeat (first | exact (GL.below HRG.out HB.out) | (with_reducible refine GL.alloc ?_ _) | (with_reducible refine GL.drewN ?_ _) | (with_reducible refine GL.drew ?_))); rintro e w21 ⟨rfl, hb⟩; have n0_ := Aside0.mk (below_step (by repeat (first | (with_reducible first | exact HB.out | apply below_alloc | apply pw_below_drewN | apply below_drew1) | exact HB.out)) hb); clear HB; have HB := n0_; clear n0_; (try clear hb); (try clear hb2); (try clear hk); (try clear hi)))
        go_ret
        exact ⟨by first | rfl | (simp [errW_none, errW_some] <;> rfl) | (simp [*, errW_none, errW_some] <;> rfl), by repeat (first | (with_reducible first | exact HB.out | apply below_alloc | apply pw_below_drewN | apply below_drew1) | exact HB.out)⟩
    · rw [if_neg c4] at H
      have c4b0 : (t232 == 42) = false := beq_eq_false_iff_ne.mpr c4
      have c4b1 : (t232 != 42) = true := bne_iff_ne.mpr c4
      obtain rfl := Option.some.inj H
      go_enter Tryd.func16, Tryd.ntmps16
      go_wp2_with (first | ((with_reducible refine gate_callee (f := 12) rfl ?_); refine goesL_ (some 1) rfl rfl Tryd.func12 (by kernel_rfl) rfl #[.int .i64 0, .int .i64 0, .int .i64 0] rfl (by (try simp only [List.map_toArray, List.map_cons, List.map_nil]); first | done | rfl | (simp only [List.length_drop, List.length_take]; rfl) | (go_simp; done) | (go_simp; rw [Int.tmod_eq_emod_of_nonneg (by omega)]; omega)) ?_; (with_reducible refine (sponge_Constant.calls k 0 0 0 t231 _ ?side1 A1.out).mono ?_); (case side1 => repeat (first | exact HRG.out | (with_reducible refine GL.alloc ?_ _) | (with_reducible refine GL.drewN ?_ _) | (with_reducible refine GL.drew ?_))); rintro e w22 ⟨rfl, hb⟩; refine ⟨_, rfl, ?_⟩; have n0_ := Aside0.mk (below_step (by repeat (first | (with_reducible first | exact HB.out | apply below_alloc | apply pw_below_drewN | apply below_drew1) | exact HB.out)) hb); clear HB; have HB := n0_; clear n0_; (try clear hb); (try clear hb2); (try clear hk); (try clear hi)) | (go_at_call 12; (with_reducible refine (sponge_Constant.calls k 0 7 3 t232 _ ?side1 A3.out).mono ?_); (case side1 => repeat (first | exact (GL.below HRG.out HB.out) | (with_reducible refine GL.alloc ?_ _) | (with_reducible refine GL.drewN ?_ _) | (with_reducible refine GL.drew ?_))); rintro e w23 ⟨rfl, hb⟩; have n0_ := Aside0.mk (below_step (by repeat (first | (with_reducible first | exact HB.out | apply below_alloc | apply pw_below_drewN | apply below_drew1) | exact HB.out)) hb); clear HB; have HB := n0_; clear n0_; (try clear hb); (try clear hb2); (try clear hk); (try clear hi)))
      go_ret
      exact ⟨by first | rfl | (simp [errW_none, errW_some] <;> rfl) | (simp [*, errW_none, errW_some] <;> rfl), by repeat (first | (with_reducible first | exact HB.out | apply below_alloc | apply pw_below_drewN | apply below_drew1) | exact HB.out)⟩
  · rw [if_neg c2] at H
    have c2b0 : (t231 == 12) = false := beq_eq_false_iff_ne.mpr c2
    have c2b1 : (t231 != 12) = true := bne_iff_ne.mpr c2
    obtain rfl := Option.some.inj H
    go_enter Tryd.func16, Tryd.ntmps16
    go_wp2_with (first | ((with_reducible refine gate_callee (f := 12) rfl ?_); refine goesL_ (some 1) rfl rfl Tryd.func12 (by kernel_rfl) rfl #[.int .i64 0, .int .i64 0, .int .i64 0] rfl (by (try simp only [List.map_toArray, List.map_cons, List.map_nil]); first | done | rfl | (simp only [List.length_drop, List.length_take]; rfl) | (go_simp; done) | (go_simp; rw [Int.tmod_eq_emod_of_nonneg (by omega)]; omega)) ?_; (with_reducible refine (sponge_Constant.calls k 0 0 0 t231 _ ?side1 A1.out).mono ?_); (case side1 => repeat (first | exact HRG.out | (with_reducible refine GL.alloc ?_ _) | (with_reducible refine GL.drewN ?_ _) | (with_reducible refine GL.drew ?_))); rintro e w24 ⟨rfl, hb⟩; refine ⟨_, rfl, ?_⟩; have n0_ := Aside0.mk (below_step (by repeat (first | (with_reducible first | exact HB.out | apply below_alloc | apply pw_below_drewN | apply below_drew1) | exact HB.out)) hb); clear HB; have HB := n0_; clear n0_; (try clear hb); (try clear hb2); (try clear hk); (try clear hi)))
    go_ret
    exact ⟨by first | rfl | (simp [errW_none, errW_some] <;> rfl) | (simp [*, errW_none, errW_some] <;> rfl), by repeat (first | (with_reducible first | exact HB.out | apply below_alloc | apply pw_below_drewN | apply below_drew1) | exact HB.out)⟩

end Go.Proofs.YtjfekjblnoagkaaDoor.Q
end
section
namespace Go.Proofs.YtjfekjblnoagkaaDoor.Q
open Go.RowKit Go.Proofs.YtjfekjblnoagkaaDoorW.PrintWords Go.Proofs.YtjfekjblnoagkaaDoorW.PrintLast Go.Proofs.YtjfekjblnoagkaaDoorW.PrintMore
open Go.Proofs.YtjfekjblnoagkaaDoor.Num
set_option linter.unusedVariables false
set_option linter.unusedSimpArgs false

theorem lives_true (k : Nat) (hk : 200 ≤ k) : attestorlaw06_lives.f k = some true := by
  have h : attestorlaw06_lives.f 200 = some true := by decide +kernel
  exact at_rounds (g := fun k => attestorlaw06_lives.f k) attestorlaw06_lives.mono hk h
theorem nat4 {a b c d : Int} (ha : 0 ≤ a) (hb : 0 ≤ b) (hc : 0 ≤ c) (hd : 0 ≤ d) : ∃ s : S4, a = (s.a : Int) ∧ b = (s.b : Int) ∧ c = (s.c : Int) ∧ d = (s.d : Int) := by
  obtain ⟨a, rfl⟩ := Int.eq_ofNat_of_zero_le ha
  obtain ⟨b, rfl⟩ := Int.eq_ofNat_of_zero_le hb
  obtain ⟨c, rfl⟩ := Int.eq_ofNat_of_zero_le hc
  obtain ⟨d, rfl⟩ := Int.eq_ofNat_of_zero_le hd
  exact ⟨⟨a, b, c, d⟩, rfl, rfl, rfl, rfl⟩
/-- The field that the number 'which' names. -/
theorem which_f (a : Int) (ha : 0 ≤ a ∧ a < 256) : 0 ≤ wrap64 (Int.tmod a 4) ∧ wrap64 (Int.tmod a 4) < 4 := by
  rw [Int.tmod_eq_emod_of_nonneg ha.1, wrapS (by omega) (by omega)]
  omega
end Go.Proofs.YtjfekjblnoagkaaDoor.Q
end
section
namespace Go.Proofs.YtjfekjblnoagkaaDoor.Q
open Go.RowKit Go.Proofs.YtjfekjblnoagkaaDoorW.PrintWords Go.Proofs.YtjfekjblnoagkaaDoorW.PrintLast Go.Proofs.YtjfekjblnoagkaaDoorW.PrintMore
attribute [local go_sem] max2_int min2_int max_two min_two max_three min_three max_four min_four   -- for this text's walks alone
set_option linter.unusedVariables false
set_option linter.unusedSimpArgs false

/-! ### attestorlaw06_reduced: function 27 -/
def attestorlaw06_reduced.f (a0 : Int) (a1_0 : Int) (a1_1 : Int) (a1_2 : Int) (a1_3 : Int) : Option (Int × Int × Int × Int) := (attestorref01_P.f a0).bind fun t245 => (if t245 = 0 then (none) else ((attestorref01_P.f a0).bind fun t246 => (if t246 = 0 then (none) else ((attestorref01_P.f a0).bind fun t247 => (if t247 = 0 then (none) else ((attestorref01_P.f a0).bind fun t248 => (if t248 = 0 then (none) else (some (Int.tmod a1_0 t245, Int.tmod a1_1 t246, Int.tmod a1_2 t247, Int.tmod a1_3 t248)))))))))
def attestorlaw06_reduced.T4 : Bool × List (List Nat × List Nat) := (true, [([], []), ([], []), ([1], [1]), ([2], [2]), ([], []), ([4], [4]), ([3, 5], [3, 5]), ([0, 0, 1, 2, 3, 4, 5, 6], [0]), ([7, 6, 5, 0, 1, 2, 3, 4, 5, 6], [6, 7])])
def attestorlaw06_reduced.B4 : List Nat := [0, 0, 2, 6, 0, 16, 62, 127, 255]
theorem attestorlaw06_reduced.tab4 : rtab .any (opsOf Tryd.f27 4) = attestorlaw06_reduced.T4 := by kernel_rfl
theorem attestorlaw06_reduced.bits4 : waitsOk attestorlaw06_reduced.T4.2 attestorlaw06_reduced.B4 = true := by kernel_rfl
set_option maxHeartbeats 8000000 in
set_option maxRecDepth 100000 in
theorem attestorlaw06_reduced.calls (a0 : Int) (a1_0 : Int) (a1_1 : Int) (a1_2 : Int) (a1_3 : Int) (r1 : Int) (r2 : Int) (r3 : Int) (r4 : Int) (w : World) (h : attestorlaw06_reduced.f a0 a1_0 a1_1 a1_2 a1_3 = some (r1, r2, r3, r4)) :
    Calls Tryd.prog 27 #[.int .i64 a0, .agg #[.int .u64 a1_0, .int .u64 a1_1, .int .u64 a1_2, .int .u64 a1_3]] w fun e w' => e = .returned (.agg #[.int .u64 r1, .int .u64 r2, .int .u64 r3, .int .u64 r4]) ∧ Below w.heap.size w w' := by
  have hu23 := Tryd.underlying23
  have HB := Aside0.mk (Below.refl w.heap.size w)
  have H : ((attestorref01_P.f a0).bind fun t245 => (if t245 = 0 then (none) else ((attestorref01_P.f a0).bind fun t246 => (if t246 = 0 then (none) else ((attestorref01_P.f a0).bind fun t247 => (if t247 = 0 then (none) else ((attestorref01_P.f a0).bind fun t248 => (if t248 = 0 then (none) else (some (Int.tmod a1_0 t245, Int.tmod a1_1 t246, Int.tmod a1_2 t247, Int.tmod a1_3 t248)))))))))) = some (r1, r2, r3, r4) := h
  clear h
  have HC3 := Aside0.mk H
  clear H
  go_enter Tryd.func27, Tryd.ntmps27
  go_wp2_with (first | ((with_reducible refine gate_dst (N := 3) rfl ?_); refine box_event ?hg (N := 3) ?hd (cs := #[.int .u64 a1_0, .int .u64 a1_1, .int .u64 a1_2, .int .u64 a1_3]) (t := 23) ?hr ?_; (case hd => rfl); (case hg => rfl); (case hr => first | (go_simp; done) | (go_simp; rfl)); intro gb243 hg w4 hbox hb; have n0_ := Aside0.mk (below_step (by repeat (first | (with_reducible first | exact HB.out | apply below_alloc | apply pw_below_drewN | apply below_drew1) | exact HB.out)) hb); have n1_ := Aside0.mk (hbox); have n2_ := Aside0.mk ((by rw [hg]; exact (below_size (by repeat (first | (with_reducible first | exact HB.out | apply below_alloc | apply pw_below_drewN | apply below_drew1) | exact HB.out))) : w.heap.size ≤ gb243)); have n3_ := Aside0.mk ((by rw [hg]; exact (below_size (by repeat (first | (with_reducible first | exact HB.out | apply below_alloc | apply pw_below_drewN | apply below_drew1) | exact HB.out))) : w.heap.size ≤ gb243)); clear HB; have HB := n0_; have BK243 := n1_; have GW243 := n2_; have GE243 := n3_; clear n0_ n1_ n2_ n3_; clear hb hbox hg) | ((with_reducible refine gate_dst (N := 4) rfl ?_); refine box_event ?hg (N := 4) ?hd (cs := #[.int .u64 0, .int .u64 0, .int .u64 0, .int .u64 0]) (t := 23) ?hr ?_; (case hd => rfl); (case hg => rfl); (case hr => first | (go_simp; done) | (go_simp; rfl)); intro gb244 hg w5 hbox hb; have n0_ := Aside0.mk (blk_below (g := gb243) (o := .cells #[.int .u64 a1_0, .int .u64 a1_1, .int .u64 a1_2, .int .u64 a1_3] 23 (0, 0)) (by (with_reducible repeat (first | refine blk_drewN ?_ _ | refine blk_drew ?_ | refine blk_alloc ?_ _)); exact BK243.out) hb); have n1_ := Aside0.mk (below_step (by repeat (first | (with_reducible first | exact HB.out | apply below_alloc | apply pw_below_drewN | apply below_drew1 | refine below_set ?_ GE243.out) | exact HB.out)) hb); have n2_ := Aside0.mk (hbox); have n3_ := Aside0.mk ((by rw [hg]; exact (below_size (by repeat (first | (with_reducible first | exact HB.out | apply below_alloc | apply pw_below_drewN | apply below_drew1 | refine below_set ?_ GE243.out) | exact HB.out))) : w.heap.size ≤ gb244)); have n4_ := Aside0.mk ((by rw [hg]; exact (below_size (by repeat (first | (with_reducible first | exact HB.out | apply below_alloc | apply pw_below_drewN | apply below_drew1 | refine below_set ?_ GE243.out) | exact HB.out))) : w.heap.size ≤ gb244)); have n5_ := Aside0.mk ((by rw [hg]; exact Nat.ne_of_lt (blk_lt (g := gb243) (o := .cells #[.int .u64 a1_0, .int .u64 a1_1, .int .u64 a1_2, .int .u64 a1_3] 23 (0, 0)) (by (with_reducible repeat (first | refine blk_drewN ?_ _ | refine blk_drew ?_ | refine blk_alloc ?_ _)); exact BK243.out)) : gb243 ≠ gb244)); have n6_ := Aside0.mk ((by rw [hg]; exact Nat.ne_of_gt (blk_lt (g := gb243) (o := .cells #[.int .u64 a1_0, .int .u64 a1_1, .int .u64 a1_2, .int .u64 a1_3] 23 (0, 0)) (by (with_reducible repeat (first | refine blk_drewN ?_ _ | refine blk_drew ?_ | refine blk_alloc ?_ _)); exact BK243.out)) : gb244 ≠ gb243)); clear BK243; clear HB; have BK243 := n0_; have HB := n1_; have BK244 := n2_; have GW244 := n3_; have GE244 := n4_; have NB243_244 := n5_; have NB244_243 := n6_; clear n0_ n1_ n2_ n3_ n4_ n5_ n6_; clear hb hbox hg))
  refine wp_loop_rounds 5 ?_
  rw [rounds_succ]
  have H := HC3.out
  clear HC3
  replace H := Option.bind_eq_some_iff.mp H
  obtain ⟨t245, A60, H⟩ := H
  replace H : (if t245 = 0 then (none) else ((attestorref01_P.f a0).bind fun t246 => (if t246 = 0 then (none) else ((attestorref01_P.f a0).bind fun t247 => (if t247 = 0 then (none) else ((attestorref01_P.f a0).bind fun t248 => (if t248 = 0 then (none) else (some (Int.tmod a1_0 t245, Int.tmod a1_1 t246, Int.tmod a1_2 t247, Int.tmod a1_3 t248))))))))) = some (r1, r2, r3, r4) := H
  have A6 := Aside0.mk A60
  clear A60
  by_cases c7 : t245 = 0
  · rw [if_pos c7] at H
    exact absurd H (by simp)
  · rw [if_neg c7] at H
    have c7b0 : (t245 == 0) = false := beq_eq_false_iff_ne.mpr c7
    have c7b1 : (t245 != 0) = true := bne_iff_ne.mpr c7
    have HC8 := Aside0.mk H
    clear H
    try go_wp2
    have n0_ := Aside0.mk (blk_drew BK243.out)
    have n1_ := Aside0.mk (blk_drew BK244.out)
    have n2_ := Aside0.mk (below_drew1 HB.out)
    clear BK243
    clear BK244
    clear HB
    have BK243 := n0_
    have BK244 := n1_
    have HB := n2_
    clear n0_ n1_ n2_
    refine start_ (n := 9) (S := fun w' => w'.cell? ⟨gb243, 0, none⟩ = some (.int .u64 a1_0) ∧ w'.cell? ⟨gb243, 1, none⟩ = some (.int .u64 a1_1) ∧ w'.cell? ⟨gb243, 2, none⟩ = some (.int .u64 a1_2) ∧ w'.cell? ⟨gb243, 3, none⟩ = some (.int .u64 a1_3)) (ds := [8]) #[false, false, false, false, false, false, false, false, false] (by kernel_rfl) rfl rfl ⟨(blk_cell BK243.out 0).trans rfl, (blk_cell BK243.out 1).trans rfl, (blk_cell BK243.out 2).trans rfl, (blk_cell BK243.out 3).trans rfl⟩ (fun hHeld => ?_); refine with_tabW attestorlaw06_reduced.tab4 attestorlaw06_reduced.bits4 (fun HT_ HW_ => ?_)
    generalize w5.drew = w9 at BK243 BK244 HB hHeld ⊢
    refine pure_ (i := 0) (N := some 10) (v := ?_) (a' := ?_) #[true, false, false, false, false, false, false, false, false] rfl rfl (any_of HT_.out (by kernel_rfl)) (fun _ _ _ h => h) (Or.inl ⟨by rfl, ?_⟩) ?_ ?_
    rotate_left
    · intro w'
      go_simp
      with_reducible rfl
    rotate_left
    · simp only [Act.put, List.setIfInBounds_toArray, List.set_cons_zero, List.set_cons_succ, i64_w, i32_w]
      rfl
    refine pure_ (i := 1) (N := some 11) (v := ?_) (a' := ?_) #[true, true, false, false, false, false, false, false, false] rfl rfl (any_of HT_.out (by kernel_rfl)) (fun _ _ _ h => h) (Or.inl ⟨by rfl, ?_⟩) ?_ ?_
    rotate_left
    · intro w'
      go_simp
      with_reducible rfl
    rotate_left
    · simp only [Act.put, List.setIfInBounds_toArray, List.set_cons_zero, List.set_cons_succ, i64_w, i32_w]
      rfl
    refine pure_ (i := 2) (N := some 12) (v := ?_) (a' := ?_) #[true, true, true, false, false, false, false, false, false] rfl rfl (any_of HT_.out (by kernel_rfl)) (fun _ _ _ h => h) (Or.inl ⟨by rfl, ?_⟩) ?_ ?_
    rotate_left
    · intro w'
      go_simp
      with_reducible rfl
    rotate_left
    · simp only [Act.put, List.setIfInBounds_toArray, List.set_cons_zero, List.set_cons_succ, i64_w, i32_w]
      rfl
    refine pure_ (i := 4) (N := some 14) (v := ?_) (a' := ?_) #[true, true, true, false, true, false, false, false, false] rfl rfl (any_of HT_.out (by kernel_rfl)) (fun _ _ _ h => h) (Or.inl ⟨by rfl, ?_⟩) ?_ ?_
    rotate_left
    · intro w'
      go_simp
      with_reducible rfl
    rotate_left
    · simp only [Act.put, List.setIfInBounds_toArray, List.set_cons_zero, List.set_cons_succ, i64_w, i32_w]
      rfl
    refine take_ (i := 3) (N := some 13) (v := ?_) (a' := ?_) #[true, true, true, true, true, false, false, false, false] rfl rfl (take_ofW HT_.out HW_.out (by kernel_rfl)) (fun _ _ _ h => h) (Or.inl ⟨by rfl, ?_⟩) hHeld ?_ ?_
    rotate_left
    · rintro w' ⟨s0, s1, s2, s3⟩
      go_simp
      with_reducible rfl
    rotate_left
    · simp only [Act.put, List.setIfInBounds_toArray, List.set_cons_zero, List.set_cons_succ, i64_w, i32_w]
      rfl
    refine one_ (i := 5) (N := some 15) #[true, true, true, true, true, true, false, false, false] rfl rfl (one_of HT_.out (by kernel_rfl)) (by decide) (fun K hK => ?_)
    refine goes_ Tryd.func47 (by kernel_rfl) rfl #[.int .i64 a0] (by rfl) rfl rfl (by (try simp only [List.map_toArray, List.map_cons, List.map_nil]); first | done | rfl | (simp only [List.length_drop, List.length_take]; rfl) | (go_simp; done) | (go_simp; rw [Int.tmod_eq_emod_of_nonneg (by omega)]; omega)) ?_
    with_reducible refine (attestorref01_P.calls a0 t245 _ A6.out).mono ?_
    rintro e w' ⟨rfl, ⟨nd, rfl⟩⟩
    refine ⟨_, rfl, ?_⟩
    (try (rw [drewN_self w9]; generalize hq_ : World.drewN w9 _ = w9; have n0_ := Aside0.mk (blk_at hq_ BK243.out); have n1_ := Aside0.mk (blk_at hq_ BK244.out); have n2_ := Aside0.mk (below_at hq_ HB.out); clear hq_ BK243 BK244 HB; have BK243 := n0_; have BK244 := n1_; have HB := n2_; clear n0_ n1_ n2_))
    refine hK.out _ _ ⟨(blk_cell BK243.out 0).trans rfl, (blk_cell BK243.out 1).trans rfl, (blk_cell BK243.out 2).trans rfl, (blk_cell BK243.out 3).trans rfl⟩ (fun hHeld => ?_)
    clear hK K
    refine norm_ (a' := ?_) ?_ ?_
    rotate_left
    · show Act.put _ (some 15) _ = _
      simp only [Act.put, List.setIfInBounds_toArray, List.set_cons_zero, List.set_cons_succ, i64_w, i32_w]
      rfl
    refine pure_ (i := 6) (N := some 16) (v := ?_) (a' := ?_) #[true, true, true, true, true, true, true, false, false] rfl rfl (any_of HT_.out (by kernel_rfl)) (fun _ _ _ h => h) (Or.inl ⟨by rfl, ?_⟩) ?_ ?_
    rotate_left
    · intro w'
      go_simp
      with_reducible rfl
    rotate_left
    · simp only [Act.put, List.setIfInBounds_toArray, List.set_cons_zero, List.set_cons_succ, i64_w, i32_w]
      rfl
    refine pure_ (i := 7) (N := some 17) (v := ?_) (a' := ?_) #[true, true, true, true, true, true, true, true, false] rfl rfl (any_of HT_.out (by kernel_rfl)) (fun _ _ _ h => h) (Or.inl ⟨by rfl, ?_⟩) ?_ ?_
    rotate_left
    · intro w'
      go_simp
      with_reducible rfl
    rotate_left
    · simp only [Act.put, List.setIfInBounds_toArray, List.set_cons_zero, List.set_cons_succ, i64_w, i32_w]
      rfl
    refine last_ (i := 8) (N := none) #[true, true, true, true, true, true, true, true, true] rfl rfl (one_of HT_.out (by kernel_rfl)) (by decide) (fun K hK => ?_)
    have hs10 : w9.cell? ⟨gb243, 0, none⟩ = some (.int .u64 a1_0) := (blk_cell BK243.out 0).trans rfl
    have hfs10 := blk_frozen BK243.out 0
    have hns10_1 := NB244_243.out
    have hms10_1 := NB243_244.out
    refine skip_ (w1 := ?_) (by rfl) rfl ?_ ?_
    rotate_left
    · go_simp
      rfl
    refine hK.out _ _ ?_
    clear hK K
    refine done_ (done_of HT_.out (by kernel_rfl)) ?_
    try go_wp2
    rw [rounds_succ]
    have H := HC8.out
    clear HC8
    replace H := Option.bind_eq_some_iff.mp H
    obtain ⟨t246, A110, H⟩ := H
    replace H : (if t246 = 0 then (none) else ((attestorref01_P.f a0).bind fun t247 => (if t247 = 0 then (none) else ((attestorref01_P.f a0).bind fun t248 => (if t248 = 0 then (none) else (some (Int.tmod a1_0 t245, Int.tmod a1_1 t246, Int.tmod a1_2 t247, Int.tmod a1_3 t248))))))) = some (r1, r2, r3, r4) := H
    have A11 := Aside0.mk A110
    clear A110
    by_cases c12 : t246 = 0
    · rw [if_pos c12] at H
      exact absurd H (by simp)
    · rw [if_neg c12] at H
      have c12b0 : (t246 == 0) = false := beq_eq_false_iff_ne.mpr c12
      have c12b1 : (t246 != 0) = true := bne_iff_ne.mpr c12
      have HC13 := Aside0.mk H
      clear H
      try go_wp2
      have n0_ : Aside0 ((w9.setCell ⟨gb243, 0, none⟩ (.int .u64 (Int.tmod a1_0 t245))).heap[gb243]? = some (.cells #[.int .u64 (Int.tmod a1_0 t245), .int .u64 a1_1, .int .u64 a1_2, .int .u64 a1_3] 23 (0, 0))) := ⟨by (with_reducible repeat (first | refine blk_drewN ?_ _ | refine blk_drew ?_ | refine blk_alloc ?_ _)); refine blk_put (cs := #[.int .u64 a1_0, .int .u64 a1_1, .int .u64 a1_2, .int .u64 a1_3]) ?_ 0 _ rfl; (with_reducible repeat (first | refine blk_drewN ?_ _ | refine blk_drew ?_ | refine blk_alloc ?_ _)); exact BK243.out⟩
      have n1_ : Aside0 ((w9.setCell ⟨gb243, 0, none⟩ (.int .u64 (Int.tmod a1_0 t245))).heap[gb244]? = some (.cells #[.int .u64 0, .int .u64 0, .int .u64 0, .int .u64 0] 23 (0, 0))) := ⟨by (with_reducible repeat (first | refine blk_drewN ?_ _ | refine blk_drew ?_ | refine blk_alloc ?_ _)); refine blk_far ?_ NB244_243.out _; (with_reducible repeat (first | refine blk_drewN ?_ _ | refine blk_drew ?_ | refine blk_alloc ?_ _)); exact BK244.out⟩
      have n2_ : Aside0 (Below w.heap.size w (w9.setCell ⟨gb243, 0, none⟩ (.int .u64 (Int.tmod a1_0 t245)))) := ⟨by repeat (first | (with_reducible first | exact HB.out | apply below_alloc | apply pw_below_drewN | apply below_drew1 | refine below_set ?_ GE243.out | refine below_set ?_ GE244.out) | exact HB.out)⟩
      (try clear BK243)
      (try clear BK244)
      (try clear HB)
      generalize (w9.setCell ⟨gb243, 0, none⟩ (.int .u64 (Int.tmod a1_0 t245))) = w14 at n0_ n1_ n2_ ⊢
      have BK243 := n0_
      have BK244 := n1_
      have HB := n2_
      clear n0_ n1_ n2_
      have n0_ := Aside0.mk (blk_drew BK243.out)
      have n1_ := Aside0.mk (blk_drew BK244.out)
      have n2_ := Aside0.mk (below_drew1 HB.out)
      clear BK243
      clear BK244
      clear HB
      have BK243 := n0_
      have BK244 := n1_
      have HB := n2_
      clear n0_ n1_ n2_
      refine start_ (n := 9) (S := fun w' => w'.cell? ⟨gb243, 0, none⟩ = some (.int .u64 (Int.tmod a1_0 t245)) ∧ w'.cell? ⟨gb243, 1, none⟩ = some (.int .u64 a1_1) ∧ w'.cell? ⟨gb243, 2, none⟩ = some (.int .u64 a1_2) ∧ w'.cell? ⟨gb243, 3, none⟩ = some (.int .u64 a1_3)) (ds := [8]) #[false, false, false, false, false, false, false, false, false] (by kernel_rfl) rfl rfl ⟨(blk_cell BK243.out 0).trans rfl, (blk_cell BK243.out 1).trans rfl, (blk_cell BK243.out 2).trans rfl, (blk_cell BK243.out 3).trans rfl⟩ (fun hHeld => ?_); refine with_tabW attestorlaw06_reduced.tab4 attestorlaw06_reduced.bits4 (fun HT_ HW_ => ?_)
      generalize w14.drew = w15 at BK243 BK244 HB hHeld ⊢
      refine pure_ (i := 0) (N := some 10) (v := ?_) (a' := ?_) #[true, false, false, false, false, false, false, false, false] rfl rfl (any_of HT_.out (by kernel_rfl)) (fun _ _ _ h => h) (Or.inl ⟨by rfl, ?_⟩) ?_ ?_
      rotate_left
      · intro w'
        go_simp
        with_reducible rfl
      rotate_left
      · simp only [Act.put, List.setIfInBounds_toArray, List.set_cons_zero, List.set_cons_succ, i64_w, i32_w]
        rfl
      refine pure_ (i := 1) (N := some 11) (v := ?_) (a' := ?_) #[true, true, false, false, false, false, false, false, false] rfl rfl (any_of HT_.out (by kernel_rfl)) (fun _ _ _ h => h) (Or.inl ⟨by rfl, ?_⟩) ?_ ?_
      rotate_left
      · intro w'
        go_simp
        with_reducible rfl
      rotate_left
      · simp only [Act.put, List.setIfInBounds_toArray, List.set_cons_zero, List.set_cons_succ, i64_w, i32_w]
        rfl
      refine pure_ (i := 2) (N := some 12) (v := ?_) (a' := ?_) #[true, true, true, false, false, false, false, false, false] rfl rfl (any_of HT_.out (by kernel_rfl)) (fun _ _ _ h => h) (Or.inl ⟨by rfl, ?_⟩) ?_ ?_
      rotate_left
      · intro w'
        go_simp
        with_reducible rfl
      rotate_left
      · simp only [Act.put, List.setIfInBounds_toArray, List.set_cons_zero, List.set_cons_succ, i64_w, i32_w]
        rfl
      refine pure_ (i := 4) (N := some 14) (v := ?_) (a' := ?_) #[true, true, true, false, true, false, false, false, false] rfl rfl (any_of HT_.out (by kernel_rfl)) (fun _ _ _ h => h) (Or.inl ⟨by rfl, ?_⟩) ?_ ?_
      rotate_left
      · intro w'
        go_simp
        with_reducible rfl
      rotate_left
      · simp only [Act.put, List.setIfInBounds_toArray, List.set_cons_zero, List.set_cons_succ, i64_w, i32_w]
        rfl
      refine take_ (i := 3) (N := some 13) (v := ?_) (a' := ?_) #[true, true, true, true, true, false, false, false, false] rfl rfl (take_ofW HT_.out HW_.out (by kernel_rfl)) (fun _ _ _ h => h) (Or.inl ⟨by rfl, ?_⟩) hHeld ?_ ?_
      rotate_left
      · rintro w' ⟨s0, s1, s2, s3⟩
        go_simp
        with_reducible rfl
      rotate_left
      · simp only [Act.put, List.setIfInBounds_toArray, List.set_cons_zero, List.set_cons_succ, i64_w, i32_w]
        rfl
      refine one_ (i := 5) (N := some 15) #[true, true, true, true, true, true, false, false, false] rfl rfl (one_of HT_.out (by kernel_rfl)) (by decide) (fun K hK => ?_)
      refine goes_ Tryd.func47 (by kernel_rfl) rfl #[.int .i64 a0] (by rfl) rfl rfl (by (try simp only [List.map_toArray, List.map_cons, List.map_nil]); first | done | rfl | (simp only [List.length_drop, List.length_take]; rfl) | (go_simp; done) | (go_simp; rw [Int.tmod_eq_emod_of_nonneg (by omega)]; omega)) ?_
      with_reducible refine (attestorref01_P.calls a0 t246 _ A11.out).mono ?_
      rintro e w' ⟨rfl, ⟨nd, rfl⟩⟩
      refine ⟨_, rfl, ?_⟩
      (try (rw [drewN_self w15]; generalize hq_ : World.drewN w15 _ = w15; have n0_ := Aside0.mk (blk_at hq_ BK243.out); have n1_ := Aside0.mk (blk_at hq_ BK244.out); have n2_ := Aside0.mk (below_at hq_ HB.out); clear hq_ BK243 BK244 HB; have BK243 := n0_; have BK244 := n1_; have HB := n2_; clear n0_ n1_ n2_))
      refine hK.out _ _ ⟨(blk_cell BK243.out 0).trans rfl, (blk_cell BK243.out 1).trans rfl, (blk_cell BK243.out 2).trans rfl, (blk_cell BK243.out 3).trans rfl⟩ (fun hHeld => ?_)
      clear hK K
      refine norm_ (a' := ?_) ?_ ?_
      rotate_left
      · show Act.put _ (some 15) _ = _
        simp only [Act.put, List.setIfInBounds_toArray, List.set_cons_zero, List.set_cons_succ, i64_w, i32_w]
        rfl
      refine pure_ (i := 6) (N := some 16) (v := ?_) (a' := ?_) #[true, true, true, true, true, true, true, false, false] rfl rfl (any_of HT_.out (by kernel_rfl)) (fun _ _ _ h => h) (Or.inl ⟨by rfl, ?_⟩) ?_ ?_
      rotate_left
      · intro w'
        go_simp
        with_reducible rfl
      rotate_left
      · simp only [Act.put, List.setIfInBounds_toArray, List.set_cons_zero, List.set_cons_succ, i64_w, i32_w]
        rfl
      refine pure_ (i := 7) (N := some 17) (v := ?_) (a' := ?_) #[true, true, true, true, true, true, true, true, false] rfl rfl (any_of HT_.out (by kernel_rfl)) (fun _ _ _ h => h) (Or.inl ⟨by rfl, ?_⟩) ?_ ?_
      rotate_left
      · intro w'
        go_simp
        with_reducible rfl
      rotate_left
      · simp only [Act.put, List.setIfInBounds_toArray, List.set_cons_zero, List.set_cons_succ, i64_w, i32_w]
        rfl
      refine last_ (i := 8) (N := none) #[true, true, true, true, true, true, true, true, true] rfl rfl (one_of HT_.out (by kernel_rfl)) (by decide) (fun K hK => ?_)
      have hs16 : w15.cell? ⟨gb243, 1, none⟩ = some (.int .u64 a1_1) := (blk_cell BK243.out 1).trans rfl
      have hfs16 := blk_frozen BK243.out 1
      have hns16_1 := NB244_243.out
      have hms16_1 := NB243_244.out
      refine skip_ (w1 := ?_) (by rfl) rfl ?_ ?_
      rotate_left
      · go_simp
        rfl
      refine hK.out _ _ ?_
      clear hK K
      refine done_ (done_of HT_.out (by kernel_rfl)) ?_
      try go_wp2
      rw [rounds_succ]
      have H := HC13.out
      clear HC13
      replace H := Option.bind_eq_some_iff.mp H
      obtain ⟨t247, A170, H⟩ := H
      replace H : (if t247 = 0 then (none) else ((attestorref01_P.f a0).bind fun t248 => (if t248 = 0 then (none) else (some (Int.tmod a1_0 t245, Int.tmod a1_1 t246, Int.tmod a1_2 t247, Int.tmod a1_3 t248))))) = some (r1, r2, r3, r4) := H
      have A17 := Aside0.mk A170
      clear A170
      by_cases c18 : t247 = 0
      · rw [if_pos c18] at H
        exact absurd H (by simp)
      · rw [if_neg c18] at H
        have c18b0 : (t247 == 0) = false := beq_eq_false_iff_ne.mpr c18
        have c18b1 : (t247 != 0) = true := bne_iff_ne.mpr c18
        have HC19 := Aside0.mk H
        clear H
        try go_wp2
        have n0_ : Aside0 ((w15.setCell ⟨gb243, 1, none⟩ (.int .u64 (Int.tmod a1_1 t246))).heap[gb243]? = some (.cells #[.int .u64 (Int.tmod a1_0 t245), .int .u64 (Int.tmod a1_1 t246), .int .u64 a1_2, .int .u64 a1_3] 23 (0, 0))) := ⟨by (with_reducible repeat (first | refine blk_drewN ?_ _ | refine blk_drew ?_ | refine blk_alloc ?_ _)); refine blk_put (cs := #[.int .u64 (Int.tmod a1_0 t245), .int .u64 a1_1, .int .u64 a1_2, .int .u64 a1_3]) ?_ 1 _ rfl; (with_reducible repeat (first | refine blk_drewN ?_ _ | refine blk_drew ?_ | refine blk_alloc ?_ _)); exact BK243.out⟩
        have n1_ : Aside0 ((w15.setCell ⟨gb243, 1, none⟩ (.int .u64 (Int.tmod a1_1 t246))).heap[gb244]? = some (.cells #[.int .u64 0, .int .u64 0, .int .u64 0, .int .u64 0] 23 (0, 0))) := ⟨by (with_reducible repeat (first | refine blk_drewN ?_ _ | refine blk_drew ?_ | refine blk_alloc ?_ _)); refine blk_far ?_ NB244_243.out _; (with_reducible repeat (first | refine blk_drewN ?_ _ | refine blk_drew ?_ | refine blk_alloc ?_ _)); exact BK244.out⟩
        have n2_ : Aside0 (Below w.heap.size w (w15.setCell ⟨gb243, 1, none⟩ (.int .u64 (Int.tmod a1_1 t246)))) := ⟨by repeat (first | (with_reducible first | exact HB.out | apply below_alloc | apply pw_below_drewN | apply below_drew1 | refine below_set ?_ GE243.out | refine below_set ?_ GE244.out) | exact HB.out)⟩
        (try clear BK243)
        (try clear BK244)
        (try clear HB)
        generalize (w15.setCell ⟨gb243, 1, none⟩ (.int .u64 (Int.tmod a1_1 t246))) = w20 at n0_ n1_ n2_ ⊢
        have BK243 := n0_
        have BK244 := n1_
        have HB := n2_
        clear n0_ n1_ n2_
        have n0_ := Aside0.mk (blk_drew BK243.out)
        have n1_ := Aside0.mk (blk_drew BK244.out)
        have n2_ := Aside0.mk (below_drew1 HB.out)
        clear BK243
        clear BK244
        clear HB
        have BK243 := n0_
        have BK244 := n1_
        have HB := n2_
        clear n0_ n1_ n2_
        refine start_ (n := 9) (S := fun w' => w'.cell? ⟨gb243, 0, none⟩ = some (.int .u64 (Int.tmod a1_0 t245)) ∧ w'.cell? ⟨gb243, 1, none⟩ = some (.int .u64 (Int.tmod a1_1 t246)) ∧ w'.cell? ⟨gb243, 2, none⟩ = some (.int .u64 a1_2) ∧ w'.cell? ⟨gb243, 3, none⟩ = some (.int .u64 a1_3)) (ds := [8]) #[false, false, false, false, false, false, false, false, false] (by kernel_rfl) rfl rfl ⟨(blk_cell BK243.out 0).trans rfl, (blk_cell BK243.out 1).trans rfl, (blk_cell BK243.out 2).trans rfl, (blk_cell BK243.out 3).trans rfl⟩ (fun hHeld => ?_); refine with_tabW attestorlaw06_reduced.tab4 attestorlaw06_reduced.bits4 (fun HT_ HW_ => ?_)
        generalize w20.drew = w21 at BK243 BK244 HB hHeld ⊢
        refine pure_ (i := 0) (N := some 10) (v := ?_) (a' := ?_) #[true, false, false, false, false, false, false, false, false] rfl rfl (any_of HT_.out (by kernel_rfl)) (fun _ _ _ h => h) (Or.inl ⟨by rfl, ?_⟩) ?_ ?_
        rotate_left
        · intro w'
          go_simp
          with_reducible rfl
        rotate_left
        · simp only [Act.put, List.setIfInBounds_toArray, List.set_cons_zero, List.set_cons_succ, i64_w, i32_w]
          rfl
        refine pure_ (i := 1) (N := some 11) (v := ?_) (a' := ?_) #[true, true, false, false, false, false, false, false, false] rfl rfl (any_of HT_.out (by kernel_rfl)) (fun _ _ _ h => h) (Or.inl ⟨by rfl, ?_⟩) ?_ ?_
        rotate_left
        · intro w'
          go_simp
          with_reducible rfl
        rotate_left
        · simp only [Act.put, List.setIfInBounds_toArray, List.set_cons_zero, List.set_cons_succ, i64_w, i32_w]
          rfl
        refine pure_ (i := 2) (N := some 12) (v := ?_) (a' := ?_) #[true, true, true, false, false, false, false, false, false] rfl rfl (any_of HT_.out (by kernel_rfl)) (fun _ _ _ h => h) (Or.inl ⟨by rfl, ?_⟩) ?_ ?_
        rotate_left
        · intro w'
          go_simp
          with_reducible rfl
        rotate_left
        · simp only [Act.put, List.setIfInBounds_toArray, List.set_cons_zero, List.set_cons_succ, i64_w, i32_w]
          rfl
        refine pure_ (i := 4) (N := some 14) (v := ?_) (a' := ?_) #[true, true, true, false, true, false, false, false, false] rfl rfl (any_of HT_.out (by kernel_rfl)) (fun _ _ _ h => h) (Or.inl ⟨by rfl, ?_⟩) ?_ ?_
        rotate_left
        · intro w'
          go_simp
          with_reducible rfl
        rotate_left
        · simp only [Act.put, List.setIfInBounds_toArray, List.set_cons_zero, List.set_cons_succ, i64_w, i32_w]
          rfl
        refine take_ (i := 3) (N := some 13) (v := ?_) (a' := ?_) #[true, true, true, true, true, false, false, false, false] rfl rfl (take_ofW HT_.out HW_.out (by kernel_rfl)) (fun _ _ _ h => h) (Or.inl ⟨by rfl, ?_⟩) hHeld ?_ ?_
        rotate_left
        · rintro w' ⟨s0, s1, s2, s3⟩
          go_simp
          with_reducible rfl
        rotate_left
        · simp only [Act.put, List.setIfInBounds_toArray, List.set_cons_zero, List.set_cons_succ, i64_w, i32_w]
          rfl
        refine one_ (i := 5) (N := some 15) #[true, true, true, true, true, true, false, false, false] rfl rfl (one_of HT_.out (by kernel_rfl)) (by decide) (fun K hK => ?_)
        refine goes_ Tryd.func47 (by kernel_rfl) rfl #[.int .i64 a0] (by rfl) rfl rfl (by (try simp only [List.map_toArray, List.map_cons, List.map_nil]); first | done | rfl | (simp only [List.length_drop, List.length_take]; rfl) | (go_simp; done) | (go_simp; rw [Int.tmod_eq_emod_of_nonneg (by omega)]; omega)) ?_
        with_reducible refine (attestorref01_P.calls a0 t247 _ A17.out).mono ?_
        rintro e w' ⟨rfl, ⟨nd, rfl⟩⟩
        refine ⟨_, rfl, ?_⟩
        (try (rw [drewN_self w21]; generalize hq_ : World.drewN w21 _ = w21; have n0_ := Aside0.mk (blk_at hq_ BK243.out); have n1_ := Aside0.mk (blk_at hq_ BK244.out); have n2_ := Aside0.mk (below_at hq_ HB.out); clear hq_ BK243 BK244 HB; have BK243 := n0_; have BK244 := n1_; have HB := n2_; clear n0_ n1_ n2_))
        refine hK.out _ _ ⟨(blk_cell BK243.out 0).trans rfl, (blk_cell BK243.out 1).trans rfl, (blk_cell BK243.out 2).trans rfl, (blk_cell BK243.out 3).trans rfl⟩ (fun hHeld => ?_)
        clear hK K
        refine norm_ (a' := ?_) ?_ ?_
        rotate_left
        · show Act.put _ (some 15) _ = _
          simp only [Act.put, List.setIfInBounds_toArray, List.set_cons_zero, List.set_cons_succ, i64_w, i32_w]
          rfl
        refine pure_ (i := 6) (N := some 16) (v := ?_) (a' := ?_) #[true, true, true, true, true, true, true, false, false] rfl rfl (any_of HT_.out (by kernel_rfl)) (fun _ _ _ h => h) (Or.inl ⟨by rfl, ?_⟩) ?_ ?_
        rotate_left
        · intro w'
          go_simp
          with_reducible rfl
        rotate_left
        · simp only [Act.put, List.setIfInBounds_toArray, List.set_cons_zero, List.set_cons_succ, i64_w, i32_w]
          rfl
        refine pure_ (i := 7) (N := some 17) (v := ?_) (a' := ?_) #[true, true, true, true, true, true, true, true, false] rfl rfl (any_of HT_.out (by kernel_rfl)) (fun _ _ _ h => h) (Or.inl ⟨by rfl, ?_⟩) ?_ ?_
        rotate_left
        · intro w'
          go_simp
          with_reducible rfl
        rotate_left
        · simp only [Act.put, List.setIfInBounds_toArray, List.set_cons_zero, List.set_cons_succ, i64_w, i32_w]
          rfl
        refine last_ (i := 8) (N := none) #[true, true, true, true, true, true, true, true, true] rfl rfl (one_of HT_.out (by kernel_rfl)) (by decide) (fun K hK => ?_)
        have hs22 : w21.cell? ⟨gb243, 2, none⟩ = some (.int .u64 a1_2) := (blk_cell BK243.out 2).trans rfl
        have hfs22 := blk_frozen BK243.out 2
        have hns22_1 := NB244_243.out
        have hms22_1 := NB243_244.out
        refine skip_ (w1 := ?_) (by rfl) rfl ?_ ?_
        rotate_left
        · go_simp
          rfl
        refine hK.out _ _ ?_
        clear hK K
        refine done_ (done_of HT_.out (by kernel_rfl)) ?_
        try go_wp2
        rw [rounds_succ]
        have H := HC19.out
        clear HC19
        replace H := Option.bind_eq_some_iff.mp H
        obtain ⟨t248, A230, H⟩ := H
        replace H : (if t248 = 0 then (none) else (some (Int.tmod a1_0 t245, Int.tmod a1_1 t246, Int.tmod a1_2 t247, Int.tmod a1_3 t248))) = some (r1, r2, r3, r4) := H
        have A23 := Aside0.mk A230
        clear A230
        by_cases c24 : t248 = 0
        · rw [if_pos c24] at H
          exact absurd H (by simp)
        · rw [if_neg c24] at H
          have c24b0 : (t248 == 0) = false := beq_eq_false_iff_ne.mpr c24
          have c24b1 : (t248 != 0) = true := bne_iff_ne.mpr c24
          have HC25 := Aside0.mk H
          clear H
          try go_wp2
          have n0_ : Aside0 ((w21.setCell ⟨gb243, 2, none⟩ (.int .u64 (Int.tmod a1_2 t247))).heap[gb243]? = some (.cells #[.int .u64 (Int.tmod a1_0 t245), .int .u64 (Int.tmod a1_1 t246), .int .u64 (Int.tmod a1_2 t247), .int .u64 a1_3] 23 (0, 0))) := ⟨by (with_reducible repeat (first | refine blk_drewN ?_ _ | refine blk_drew ?_ | refine blk_alloc ?_ _)); refine blk_put (cs := #[.int .u64 (Int.tmod a1_0 t245), .int .u64 (Int.tmod a1_1 t246), .int .u64 a1_2, .int .u64 a1_3]) ?_ 2 _ rfl; (with_reducible repeat (first | refine blk_drewN ?_ _ | refine blk_drew ?_ | refine blk_alloc ?_ _)); exact BK243.out⟩
          have n1_ : Aside0 ((w21.setCell ⟨gb243, 2, none⟩ (.int .u64 (Int.tmod a1_2 t247))).heap[gb244]? = some (.cells #[.int .u64 0, .int .u64 0, .int .u64 0, .int .u64 0] 23 (0, 0))) := ⟨by (with_reducible repeat (first | refine blk_drewN ?_ _ | refine blk_drew ?_ | refine blk_alloc ?_ _)); refine blk_far ?_ NB244_243.out _; (with_reducible repeat (first | refine blk_drewN ?_ _ | refine blk_drew ?_ | refine blk_alloc ?_ _)); exact BK244.out⟩
          have n2_ : Aside0 (Below w.heap.size w (w21.setCell ⟨gb243, 2, none⟩ (.int .u64 (Int.tmod a1_2 t247)))) := ⟨by repeat (first | (with_reducible first | exact HB.out | apply below_alloc | apply pw_below_drewN | apply below_drew1 | refine below_set ?_ GE243.out | refine below_set ?_ GE244.out) | exact HB.out)⟩
          (try clear BK243)
          (try clear BK244)
          (try clear HB)
          generalize (w21.setCell ⟨gb243, 2, none⟩ (.int .u64 (Int.tmod a1_2 t247))) = w26 at n0_ n1_ n2_ ⊢
          have BK243 := n0_
          have BK244 := n1_
          have HB := n2_
          clear n0_ n1_ n2_
          have n0_ := Aside0.mk (blk_drew BK243.out)
          have n1_ := Aside0.mk (blk_drew BK244.out)
          have n2_ := Aside0.mk (below_drew1 HB.out)
          clear BK243
          clear BK244
          clear HB
          have BK243 := n0_
          have BK244 := n1_
          have HB := n2_
          clear n0_ n1_ n2_
          refine start_ (n := 9) (S := fun w' => w'.cell? ⟨gb243, 0, none⟩ = some (.int .u64 (Int.tmod a1_0 t245)) ∧ w'.cell? ⟨gb243, 1, none⟩ = some (.int .u64 (Int.tmod a1_1 t246)) ∧ w'.cell? ⟨gb243, 2, none⟩ = some (.int .u64 (Int.tmod a1_2 t247)) ∧ w'.cell? ⟨gb243, 3, none⟩ = some (.int .u64 a1_3)) (ds := [8]) #[false, false, false, false, false, false, false, false, false] (by kernel_rfl) rfl rfl ⟨(blk_cell BK243.out 0).trans rfl, (blk_cell BK243.out 1).trans rfl, (blk_cell BK243.out 2).trans rfl, (blk_cell BK243.out 3).trans rfl⟩ (fun hHeld => ?_); refine with_tabW attestorlaw06_reduced.tab4 attestorlaw06_reduced.bits4 (fun HT_ HW_ => ?_)
          generalize w26.drew = w27 at BK243 BK244 HB hHeld ⊢
          refine pure_ (i := 0) (N := some 10) (v := ?_) (a' := ?_) #[true, false, false, false, false, false, false, false, false] rfl rfl (any_of HT_.out (by kernel_rfl)) (fun _ _ _ h => h) (Or.inl ⟨by rfl, ?_⟩) ?_ ?_
          rotate_left
          · intro w'
            go_simp
            with_reducible rfl
          rotate_left
          · simp only [Act.put, List.setIfInBounds_toArray, List.set_cons_zero, List.set_cons_succ, i64_w, i32_w]
            rfl
          refine pure_ (i := 1) (N := some 11) (v := ?_) (a' := ?_) #[true, true, false, false, false, false, false, false, false] rfl rfl (any_of HT_.out (by kernel_rfl)) (fun _ _ _ h => h) (Or.inl ⟨by rfl, ?_⟩) ?_ ?_
          rotate_left
          · intro w'
            go_simp
            with_reducible rfl
          rotate_left
          · simp only [Act.put, List.setIfInBounds_toArray, List.set_cons_zero, List.set_cons_succ, i64_w, i32_w]
            rfl
          refine pure_ (i := 2) (N := some 12) (v := ?_) (a' := ?_) #[true, true, true, false, false, false, false, false, false] rfl rfl (any_of HT_.out (by kernel_rfl)) (fun _ _ _ h => h) (Or.inl ⟨by rfl, ?_⟩) ?_ ?_
          rotate_left
          · intro w'
            go_simp
            with_reducible rfl
          rotate_left
          · simp only [Act.put, List.setIfInBounds_toArray, List.set_cons_zero, List.set_cons_succ, i64_w, i32_w]
            rfl
          refine pure_ (i := 4) (N := some 14) (v := ?_) (a' := ?_) #[true, true, true, false, true, false, false, false, false] rfl rfl (any_of HT_.out (by kernel_rfl)) (fun _ _ _ h => h) (Or.inl ⟨by rfl, ?_⟩) ?_ ?_
          rotate_left
          · intro w'
            go_simp
            with_reducible rfl
          rotate_left
          · simp only [Act.put, List.setIfInBounds_toArray, List.set_cons_zero, List.set_cons_succ, i64_w, i32_w]
            rfl
          refine take_ (i := 3) (N := some 13) (v := ?_) (a' := ?_) #[true, true, true, true, true, false, false, false, false] rfl rfl (take_ofW HT_.out HW_.out (by kernel_rfl)) (fun _ _ _ h => h) (Or.inl ⟨by rfl, ?_⟩) hHeld ?_ ?_
          rotate_left
          · rintro w' ⟨s0, s1, s2, s3⟩
            go_simp
            with_reducible rfl
          rotate_left
          · simp only [Act.put, List.setIfInBounds_toArray, List.set_cons_zero, List.set_cons_succ, i64_w, i32_w]
            rfl
          refine one_ (i := 5) (N := some 15) #[true, true, true, true, true, true, false, false, false] rfl rfl (one_of HT_.out (by kernel_rfl)) (by decide) (fun K hK => ?_)
          refine goes_ Tryd.func47 (by kernel_rfl) rfl #[.int .i64 a0] (by rfl) rfl rfl (by (try simp only [List.map_toArray, List.map_cons, List.map_nil]); first | done | rfl | (simp only [List.length_drop, List.length_take]; rfl) | (go_simp; done) | (go_simp; rw [Int.tmod_eq_emod_of_nonneg (by omega)]; omega)) ?_
          with_reducible refine (attestorref01_P.calls a0 t248 _ A23.out).mono ?_
          rintro e w' ⟨rfl, ⟨nd, rfl⟩⟩
          refine ⟨_, rfl, ?_⟩
          (try (rw [drewN_self w27]; generalize hq_ : World.drewN w27 _ = w27; have n0_ := Aside0.mk (blk_at hq_ BK243.out); have n1_ := Aside0.mk (blk_at hq_ BK244.out); have n2_ := Aside0.mk (below_at hq_ HB.out); clear hq_ BK243 BK244 HB; have BK243 := n0_; have BK244 := n1_; have HB := n2_; clear n0_ n1_ n2_))
          refine hK.out _ _ ⟨(blk_cell BK243.out 0).trans rfl, (blk_cell BK243.out 1).trans rfl, (blk_cell BK243.out 2).trans rfl, (blk_cell BK243.out 3).trans rfl⟩ (fun hHeld => ?_)
          clear hK K
          refine norm_ (a' := ?_) ?_ ?_
          rotate_left
          · show Act.put _ (some 15) _ = _
            simp only [Act.put, List.setIfInBounds_toArray, List.set_cons_zero, List.set_cons_succ, i64_w, i32_w]
            rfl
          refine pure_ (i := 6) (N := some 16) (v := ?_) (a' := ?_) #[true, true, true, true, true, true, true, false, false] rfl rfl (any_of HT_.out (by kernel_rfl)) (fun _ _ _ h => h) (Or.inl ⟨by rfl, ?_⟩) ?_ ?_
          rotate_left
          · intro w'
            go_simp
            with_reducible rfl
          rotate_left
          · simp only [Act.put, List.setIfInBounds_toArray, List.set_cons_zero, List.set_cons_succ, i64_w, i32_w]
            rfl
          refine pure_ (i := 7) (N := some 17) (v := ?_) (a' := ?_) #[true, true, true, true, true, true, true, true, false] rfl rfl (any_of HT_.out (by kernel_rfl)) (fun _ _ _ h => h) (Or.inl ⟨by rfl, ?_⟩) ?_ ?_
          rotate_left
          · intro w'
            go_simp
            with_reducible rfl
          rotate_left
          · simp only [Act.put, List.setIfInBounds_toArray, List.set_cons_zero, List.set_cons_succ, i64_w, i32_w]
            rfl
          refine last_ (i := 8) (N := none) #[true, true, true, true, true, true, true, true, true] rfl rfl (one_of HT_.out (by kernel_rfl)) (by decide) (fun K hK => ?_)
          have hs28 : w27.cell? ⟨gb243, 3, none⟩ = some (.int .u64 a1_3) := (blk_cell BK243.out 3).trans rfl
          have hfs28 := blk_frozen BK243.out 3
          have hns28_1 := NB244_243.out
          have hms28_1 := NB243_244.out
          refine skip_ (w1 := ?_) (by rfl) rfl ?_ ?_
          rotate_left
          · go_simp
            rfl
          refine hK.out _ _ ?_
          clear hK K
          refine done_ (done_of HT_.out (by kernel_rfl)) ?_
          try go_wp2
          rw [rounds_succ]
          have H := HC25.out
          clear HC25
          simp only [Option.some.injEq, Prod.mk.injEq] at H
          obtain ⟨rfl, rfl, rfl, rfl⟩ := H
          have hnb29 := NB243_244.out
          have hnc29 := NB244_243.out
          have hcz30_0 : w27.cell? ⟨gb243, 0, none⟩ = some (.int .u64 (Int.tmod a1_0 t245)) := (blk_cell BK243.out 0).trans rfl
          have hcz30_1 : w27.cell? ⟨gb243, 1, none⟩ = some (.int .u64 (Int.tmod a1_1 t246)) := (blk_cell BK243.out 1).trans rfl
          have hcz30_2 : w27.cell? ⟨gb243, 2, none⟩ = some (.int .u64 (Int.tmod a1_2 t247)) := (blk_cell BK243.out 2).trans rfl
          have hcz30_3 : w27.cell? ⟨gb243, 3, none⟩ = some (.int .u64 a1_3) := (blk_cell BK243.out 3).trans rfl
          have hfz30_0 := blk_frozen BK243.out 0
          have hfz30_1 := blk_frozen BK243.out 1
          have hfz30_2 := blk_frozen BK243.out 2
          have hfz30_3 := blk_frozen BK243.out 3
          have hcz31_0 : w27.cell? ⟨gb244, 0, none⟩ = some (.int .u64 0) := (blk_cell BK244.out 0).trans rfl
          have hcz31_1 : w27.cell? ⟨gb244, 1, none⟩ = some (.int .u64 0) := (blk_cell BK244.out 1).trans rfl
          have hcz31_2 : w27.cell? ⟨gb244, 2, none⟩ = some (.int .u64 0) := (blk_cell BK244.out 2).trans rfl
          have hcz31_3 : w27.cell? ⟨gb244, 3, none⟩ = some (.int .u64 0) := (blk_cell BK244.out 3).trans rfl
          have hfz31_0 := blk_frozen BK244.out 0
          have hfz31_1 := blk_frozen BK244.out 1
          have hfz31_2 := blk_frozen BK244.out 2
          have hfz31_3 := blk_frozen BK244.out 3
          go_wp2
          refine bodyPost_ret (results_cell_row rfl _ _ gb244 23 #[.int .u64 (Int.tmod a1_0 t245), .int .u64 (Int.tmod a1_1 t246), .int .u64 (Int.tmod a1_2 t247), .int .u64 (Int.tmod a1_3 t248)] (0, 0) _ rfl (by (with_reducible repeat (first | refine blk_drewN ?_ _ | refine blk_drew ?_ | refine blk_alloc ?_ _)); refine blk_put (cs := #[.int .u64 (Int.tmod a1_0 t245), .int .u64 (Int.tmod a1_1 t246), .int .u64 (Int.tmod a1_2 t247), .int .u64 0]) ?_ 3 _ rfl; (with_reducible repeat (first | refine blk_drewN ?_ _ | refine blk_drew ?_ | refine blk_alloc ?_ _)); refine blk_put (cs := #[.int .u64 (Int.tmod a1_0 t245), .int .u64 (Int.tmod a1_1 t246), .int .u64 0, .int .u64 0]) ?_ 2 _ rfl; (with_reducible repeat (first | refine blk_drewN ?_ _ | refine blk_drew ?_ | refine blk_alloc ?_ _)); refine blk_put (cs := #[.int .u64 (Int.tmod a1_0 t245), .int .u64 0, .int .u64 0, .int .u64 0]) ?_ 1 _ rfl; (with_reducible repeat (first | refine blk_drewN ?_ _ | refine blk_drew ?_ | refine blk_alloc ?_ _)); refine blk_put (cs := #[.int .u64 0, .int .u64 0, .int .u64 0, .int .u64 0]) ?_ 0 _ rfl; (with_reducible repeat (first | refine blk_drewN ?_ _ | refine blk_drew ?_ | refine blk_alloc ?_ _)); refine blk_far ?_ NB244_243.out _; (with_reducible repeat (first | refine blk_drewN ?_ _ | refine blk_drew ?_ | refine blk_alloc ?_ _)); exact BK244.out) Tryd.underlying23 rfl (by kernel_rfl)) rfl ?_
          exact ⟨by first | rfl | (simp [errW_none, errW_some] <;> rfl) | (simp [*, errW_none, errW_some] <;> rfl), by repeat (first | (with_reducible first | exact HB.out | apply below_alloc | apply pw_below_drewN | apply below_drew1 | refine below_set ?_ GE243.out | refine below_set ?_ GE244.out) | exact HB.out)⟩

end Go.Proofs.YtjfekjblnoagkaaDoor.Q
end
section
namespace Go.Proofs.YtjfekjblnoagkaaDoor.Q
open Go.RowKit Go.Proofs.YtjfekjblnoagkaaDoorW.PrintWords Go.Proofs.YtjfekjblnoagkaaDoorW.PrintLast Go.Proofs.YtjfekjblnoagkaaDoorW.PrintMore
attribute [local go_sem] max2_int min2_int max_two min_two max_three min_three max_four min_four   -- for this text's walks alone
set_option linter.unusedVariables false
set_option linter.unusedSimpArgs false

attribute [local go_sem high] eqA23
/-! ### attestorlaw06_within: function 20 -/
def attestorlaw06_within.f (a0 : Int) (a1_0 : Int) (a1_1 : Int) (a1_2 : Int) (a1_3 : Int) : Option (Bool) := (attestorlaw06_reduced.f a0 a1_0 a1_1 a1_2 a1_3).bind fun bt250 => (some (a1_0 == bt250.1 && (a1_1 == bt250.2.1 && (a1_2 == bt250.2.2.1 && (a1_3 == bt250.2.2.2)))))
set_option maxHeartbeats 8000000 in
set_option maxRecDepth 100000 in
theorem attestorlaw06_within.calls (a0 : Int) (a1_0 : Int) (a1_1 : Int) (a1_2 : Int) (a1_3 : Int) (r : Bool) (w : World) (h : attestorlaw06_within.f a0 a1_0 a1_1 a1_2 a1_3 = some r) :
    Calls Tryd.prog 20 #[.int .i64 a0, .agg #[.int .u64 a1_0, .int .u64 a1_1, .int .u64 a1_2, .int .u64 a1_3]] w fun e w' => e = .returned (.bool r) ∧ Below w.heap.size w w' := by
  have hu23 := Tryd.underlying23
  have HB := Aside0.mk (Below.refl w.heap.size w)
  have H : ((attestorlaw06_reduced.f a0 a1_0 a1_1 a1_2 a1_3).bind fun bt250 => (some (a1_0 == bt250.1 && (a1_1 == bt250.2.1 && (a1_2 == bt250.2.2.1 && (a1_3 == bt250.2.2.2)))))) = some r := h
  clear h
  replace H := Option.bind_eq_some_iff.mp H
  obtain ⟨⟨t250, t251, t252, t253⟩, A30, H⟩ := H
  replace H : (some (a1_0 == t250 && (a1_1 == t251 && (a1_2 == t252 && (a1_3 == t253))))) = some r := H
  have A3 := Aside0.mk A30
  clear A30
  obtain rfl := Option.some.inj H
  go_enter Tryd.func20, Tryd.ntmps20
  try go_wp2_with (first | ((with_reducible refine gate_dst (N := 3) rfl ?_); refine box_event ?hg (N := 3) ?hd (cs := #[.int .u64 a1_0, .int .u64 a1_1, .int .u64 a1_2, .int .u64 a1_3]) (t := 23) ?hr ?_; (case hd => rfl); (case hg => rfl); (case hr => first | (go_simp; done) | (go_simp; rfl)); intro gb249 hg w4 hbox hb; have n0_ := Aside0.mk (below_step (by repeat (first | (with_reducible first | exact HB.out | apply below_alloc | apply pw_below_drewN | apply below_drew1) | exact HB.out)) hb); have n1_ := Aside0.mk (hbox); have n2_ := Aside0.mk ((by rw [hg]; exact (below_size (by repeat (first | (with_reducible first | exact HB.out | apply below_alloc | apply pw_below_drewN | apply below_drew1) | exact HB.out))) : w.heap.size ≤ gb249)); have n3_ := Aside0.mk ((by rw [hg]; exact (below_size (by repeat (first | (with_reducible first | exact HB.out | apply below_alloc | apply pw_below_drewN | apply below_drew1) | exact HB.out))) : w.heap.size ≤ gb249)); clear HB; have HB := n0_; have BK249 := n1_; have GW249 := n2_; have GE249 := n3_; clear n0_ n1_ n2_ n3_; clear hb hbox hg))
  have n0_ := Aside0.mk (blk_drew BK249.out)
  have n1_ := Aside0.mk (below_drew1 HB.out)
  clear BK249
  clear HB
  have BK249 := n0_
  have HB := n1_
  clear n0_ n1_
  refine start_ (n := 6) (S := fun w' => w'.cell? ⟨gb249, 0, none⟩ = some (.int .u64 a1_0) ∧ w'.cell? ⟨gb249, 1, none⟩ = some (.int .u64 a1_1) ∧ w'.cell? ⟨gb249, 2, none⟩ = some (.int .u64 a1_2) ∧ w'.cell? ⟨gb249, 3, none⟩ = some (.int .u64 a1_3)) (ds := []) #[false, false, false, false, false, false] (by kernel_rfl) rfl rfl ⟨(blk_cell BK249.out 0).trans rfl, (blk_cell BK249.out 1).trans rfl, (blk_cell BK249.out 2).trans rfl, (blk_cell BK249.out 3).trans rfl⟩ (fun hHeld => ?_)
  generalize w4.drew = w5 at BK249 HB hHeld ⊢
  refine pure_ (i := 1) (N := some 6) (v := ?_) (a' := ?_) #[false, true, false, false, false, false] rfl rfl (by kernel_rfl) (fun _ _ _ h => h) (Or.inl ⟨by rfl, ?_⟩) ?_ ?_
  rotate_left
  · intro w'
    go_simp
    with_reducible rfl
  rotate_left
  · simp only [Act.put, List.setIfInBounds_toArray, List.set_cons_zero, List.set_cons_succ, i64_w, i32_w]
    rfl
  refine take_ (i := 0) (N := some 5) (v := ?_) (a' := ?_) #[true, true, false, false, false, false] rfl rfl (by kernel_rfl) (fun _ _ _ h => h) (Or.inl ⟨by rfl, ?_⟩) hHeld ?_ ?_
  rotate_left
  · rintro w' ⟨s0, s1, s2, s3⟩
    go_simp
    with_reducible rfl
  rotate_left
  · simp only [Act.put, List.setIfInBounds_toArray, List.set_cons_zero, List.set_cons_succ, i64_w, i32_w]
    rfl
  refine take_ (i := 2) (N := some 7) (v := ?_) (a' := ?_) #[true, true, true, false, false, false] rfl rfl (by kernel_rfl) (fun _ _ _ h => h) (Or.inl ⟨by rfl, ?_⟩) hHeld ?_ ?_
  rotate_left
  · rintro w' ⟨s0, s1, s2, s3⟩
    go_simp
    with_reducible rfl
  rotate_left
  · simp only [Act.put, List.setIfInBounds_toArray, List.set_cons_zero, List.set_cons_succ, i64_w, i32_w]
    rfl
  refine one_ (i := 3) (N := some 8) #[true, true, true, true, false, false] rfl rfl (by kernel_rfl) (by decide) (fun K hK => ?_)
  refine goes_ Tryd.func27 (by kernel_rfl) rfl #[.int .i64 a0, .agg #[.int .u64 a1_0, .int .u64 a1_1, .int .u64 a1_2, .int .u64 a1_3]] (by rfl) rfl rfl (by (try simp only [List.map_toArray, List.map_cons, List.map_nil]); first | done | rfl | (simp only [List.length_drop, List.length_take]; rfl) | (go_simp; done) | (go_simp; rw [Int.tmod_eq_emod_of_nonneg (by omega)]; omega)) ?_
  with_reducible refine (attestorlaw06_reduced.calls a0 a1_0 a1_1 a1_2 a1_3 t250 t251 t252 t253 _ A3.out).mono ?_
  rintro e w6 ⟨rfl, hb⟩
  refine ⟨_, rfl, ?_⟩
  have n0_ := Aside0.mk (blk_below (g := gb249) (o := .cells #[.int .u64 a1_0, .int .u64 a1_1, .int .u64 a1_2, .int .u64 a1_3] 23 (0, 0)) (by (with_reducible repeat (first | refine blk_drewN ?_ _ | refine blk_drew ?_ | refine blk_alloc ?_ _)); exact BK249.out) hb)
  have n1_ := Aside0.mk (below_step (by repeat (first | (with_reducible first | exact HB.out | apply below_alloc | apply pw_below_drewN | apply below_drew1 | refine below_set ?_ GE249.out) | exact HB.out)) hb)
  clear BK249
  clear HB
  have BK249 := n0_
  have HB := n1_
  clear n0_ n1_
  (try clear hb)
  (try clear hb2)
  (try clear hk)
  (try clear hi)
  refine hK.out _ _ ⟨(blk_cell BK249.out 0).trans rfl, (blk_cell BK249.out 1).trans rfl, (blk_cell BK249.out 2).trans rfl, (blk_cell BK249.out 3).trans rfl⟩ (fun hHeld => ?_)
  clear hK K
  refine norm_ (a' := ?_) ?_ ?_
  rotate_left
  · show Act.put _ (some 8) _ = _
    simp only [Act.put, List.setIfInBounds_toArray, List.set_cons_zero, List.set_cons_succ, i64_w, i32_w]
    rfl
  refine pure_ (i := 4) (N := some 9) (v := ?_) (a' := ?_) #[true, true, true, true, true, false] rfl rfl (by kernel_rfl) (fun _ _ _ h => h) (Or.inl ⟨by rfl, ?_⟩) ?_ ?_
  rotate_left
  · intro w'
    go_simp
    with_reducible rfl
  rotate_left
  · simp only [Act.put, List.setIfInBounds_toArray, List.set_cons_zero, List.set_cons_succ, i64_w, i32_w]
    rfl
  refine pure_ (i := 5) (N := some 4) (v := ?_) (a' := ?_) #[true, true, true, true, true, true] rfl rfl (by kernel_rfl) (fun _ _ _ h => h) (Or.inl ⟨by rfl, ?_⟩) ?_ ?_
  rotate_left
  · intro w'
    go_simp
    with_reducible rfl
  rotate_left
  · simp only [Act.put, List.setIfInBounds_toArray, List.set_cons_zero, List.set_cons_succ, i64_w, i32_w]
    rfl
  refine done_ (by kernel_rfl) ?_
  try go_wp2
  go_ret
  exact ⟨by first | rfl | (simp [errW_none, errW_some] <;> rfl) | (simp [*, errW_none, errW_some] <;> rfl), by repeat (first | (with_reducible first | exact HB.out | apply below_alloc | apply pw_below_drewN | apply below_drew1 | refine below_set ?_ GE249.out) | exact HB.out)⟩

/-! ### field_Neg: function 52 -/
def field_Neg.f (a0 : Int) (a1 : Int) : Option (Int) := (field_P.f a0).bind fun t254 => (if t254 = 0 then (some 0) else (if (Int.tmod a1 t254) = 0 then (some 0) else (some (IntKind.u64.wrap (t254 - (Int.tmod a1 t254))))))
set_option maxHeartbeats 8000000 in
set_option maxRecDepth 100000 in
theorem field_Neg.calls (a0 : Int) (a1 : Int) (r : Int) (w : World) (hrG : GL w) (h : field_Neg.f a0 a1 = some r) :
    Calls Tryd.prog 52 #[.int .i64 a0, .int .u64 a1] w fun e w' => e = .returned (.int .u64 r) ∧ Below w.heap.size w w' := by
  have HRG := Aside0.mk hrG
  clear hrG
  have HB := Aside0.mk (Below.refl w.heap.size w)
  have H : ((field_P.f a0).bind fun t254 => (if t254 = 0 then (some 0) else (if (Int.tmod a1 t254) = 0 then (some 0) else (some (IntKind.u64.wrap (t254 - (Int.tmod a1 t254))))))) = some r := h
  clear h
  replace H := Option.bind_eq_some_iff.mp H
  obtain ⟨t254, A30, H⟩ := H
  replace H : (if t254 = 0 then (some 0) else (if (Int.tmod a1 t254) = 0 then (some 0) else (some (IntKind.u64.wrap (t254 - (Int.tmod a1 t254)))))) = some r := H
  have A3 := Aside0.mk A30
  clear A30
  by_cases c4 : t254 = 0
  · rw [if_pos c4] at H
    have c4b0 : (t254 == 0) = true := beq_iff_eq.mpr c4
    have c4b1 : (t254 != 0) = false := bne_eq_false_iff_eq.mpr c4
    clear c4
    obtain rfl := Option.some.inj H
    go_enter Tryd.func52, Tryd.ntmps52
    go_wp2_with (first | ((with_reducible refine gate_callee (f := 43) rfl ?_); refine goesL_ (some 7) rfl rfl Tryd.func43 (by kernel_rfl) rfl #[.int .i64 a0] rfl (by (try simp only [List.map_toArray, List.map_cons, List.map_nil]); first | done | rfl | (simp only [List.length_drop, List.length_take]; rfl) | (go_simp; done) | (go_simp; rw [Int.tmod_eq_emod_of_nonneg (by omega)]; omega)) ?_; (with_reducible refine (field_P.calls a0 t254 _ ?side1 A3.out).mono ?_); (case side1 => repeat (first | exact HRG.out | (with_reducible refine GL.alloc ?_ _) | (with_reducible refine GL.drewN ?_ _) | (with_reducible refine GL.drew ?_))); rintro e w5 ⟨rfl, hb⟩; refine ⟨_, rfl, ?_⟩; have n0_ := Aside0.mk (below_step (by repeat (first | (with_reducible first | exact HB.out | apply below_alloc | apply pw_below_drewN | apply below_drew1) | exact HB.out)) hb); clear HB; have HB := n0_; clear n0_; (try clear hb); (try clear hb2); (try clear hk); (try clear hi)))
    go_ret
    exact ⟨by first | rfl | (simp [errW_none, errW_some] <;> rfl) | (simp [*, errW_none, errW_some] <;> rfl), by repeat (first | (with_reducible first | exact HB.out | apply below_alloc | apply pw_below_drewN | apply below_drew1) | exact HB.out)⟩
  · rw [if_neg c4] at H
    have c4b0 : (t254 == 0) = false := beq_eq_false_iff_ne.mpr c4
    have c4b1 : (t254 != 0) = true := bne_iff_ne.mpr c4
    by_cases c6 : (Int.tmod a1 t254) = 0
    · rw [if_pos c6] at H
      have c6b0 : ((Int.tmod a1 t254) == 0) = true := beq_iff_eq.mpr c6
      have c6b1 : ((Int.tmod a1 t254) != 0) = false := bne_eq_false_iff_eq.mpr c6
      clear c6
      obtain rfl := Option.some.inj H
      go_enter Tryd.func52, Tryd.ntmps52
      go_wp2_with (first | ((with_reducible refine gate_callee (f := 43) rfl ?_); refine goesL_ (some 7) rfl rfl Tryd.func43 (by kernel_rfl) rfl #[.int .i64 a0] rfl (by (try simp only [List.map_toArray, List.map_cons, List.map_nil]); first | done | rfl | (simp only [List.length_drop, List.length_take]; rfl) | (go_simp; done) | (go_simp; rw [Int.tmod_eq_emod_of_nonneg (by omega)]; omega)) ?_; (with_reducible refine (field_P.calls a0 t254 _ ?side1 A3.out).mono ?_); (case side1 => repeat (first | exact HRG.out | (with_reducible refine GL.alloc ?_ _) | (with_reducible refine GL.drewN ?_ _) | (with_reducible refine GL.drew ?_))); rintro e w7 ⟨rfl, hb⟩; refine ⟨_, rfl, ?_⟩; have n0_ := Aside0.mk (below_step (by repeat (first | (with_reducible first | exact HB.out | apply below_alloc | apply pw_below_drewN | apply below_drew1) | exact HB.out)) hb); clear HB; have HB := n0_; clear n0_; (try clear hb); (try clear hb2); (try clear hk); (try clear hi)))
      go_ret
      exact ⟨by first | rfl | (simp [errW_none, errW_some] <;> rfl) | (simp [*, errW_none, errW_some] <;> rfl), by repeat (first | (with_reducible first | exact HB.out | apply below_alloc | apply pw_below_drewN | apply below_drew1) | exact HB.out)⟩
    · rw [if_neg c6] at H
      have c6b0 : ((Int.tmod a1 t254) == 0) = false := beq_eq_false_iff_ne.mpr c6
      have c6b1 : ((Int.tmod a1 t254) != 0) = true := bne_iff_ne.mpr c6
      obtain rfl := Option.some.inj H
      go_enter Tryd.func52, Tryd.ntmps52
      go_wp2_with (first | ((with_reducible refine gate_callee (f := 43) rfl ?_); refine goesL_ (some 7) rfl rfl Tryd.func43 (by kernel_rfl) rfl #[.int .i64 a0] rfl (by (try simp only [List.map_toArray, List.map_cons, List.map_nil]); first | done | rfl | (simp only [List.length_drop, List.length_take]; rfl) | (go_simp; done) | (go_simp; rw [Int.tmod_eq_emod_of_nonneg (by omega)]; omega)) ?_; (with_reducible refine (field_P.calls a0 t254 _ ?side1 A3.out).mono ?_); (case side1 => repeat (first | exact HRG.out | (with_reducible refine GL.alloc ?_ _) | (with_reducible refine GL.drewN ?_ _) | (with_reducible refine GL.drew ?_))); rintro e w8 ⟨rfl, hb⟩; refine ⟨_, rfl, ?_⟩; have n0_ := Aside0.mk (below_step (by repeat (first | (with_reducible first | exact HB.out | apply below_alloc | apply pw_below_drewN | apply below_drew1) | exact HB.out)) hb); clear HB; have HB := n0_; clear n0_; (try clear hb); (try clear hb2); (try clear hk); (try clear hi)))
      go_ret
      exact ⟨by first | rfl | (simp [errW_none, errW_some] <;> rfl) | (simp [*, errW_none, errW_some] <;> rfl), by repeat (first | (with_reducible first | exact HB.out | apply below_alloc | apply pw_below_drewN | apply below_drew1) | exact HB.out)⟩

end Go.Proofs.YtjfekjblnoagkaaDoor.Q
end
section
namespace Go.Proofs.YtjfekjblnoagkaaDoor.Q
open Go.RowKit Go.Proofs.YtjfekjblnoagkaaDoorW.PrintWords Go.Proofs.YtjfekjblnoagkaaDoorW.PrintLast Go.Proofs.YtjfekjblnoagkaaDoorW.PrintMore
attribute [local go_sem] max2_int min2_int max_two min_two max_three min_three max_four min_four   -- for this text's walks alone
set_option linter.unusedVariables false
set_option linter.unusedSimpArgs false

/-! ### field_Sub: function 45 -/
def field_Sub.f (a0 : Int) (a1 : Int) (a2 : Int) : Option (Int) := (field_Neg.f a0 a2).bind fun t289 => ((field_Add.f a0 a1 t289).bind fun t290 => (some t290))
set_option maxHeartbeats 8000000 in
set_option maxRecDepth 100000 in
theorem field_Sub.calls (a0 : Int) (a1 : Int) (a2 : Int) (r : Int) (w : World) (hrG : GL w) (h : field_Sub.f a0 a1 a2 = some r) :
    Calls Tryd.prog 45 #[.int .i64 a0, .int .u64 a1, .int .u64 a2] w fun e w' => e = .returned (.int .u64 r) ∧ Below w.heap.size w w' := by
  have HRG := Aside0.mk hrG
  clear hrG
  have HB := Aside0.mk (Below.refl w.heap.size w)
  have H : ((field_Neg.f a0 a2).bind fun t289 => ((field_Add.f a0 a1 t289).bind fun t290 => (some t290))) = some r := h
  clear h
  replace H := Option.bind_eq_some_iff.mp H
  obtain ⟨t289, A40, H⟩ := H
  replace H : ((field_Add.f a0 a1 t289).bind fun t290 => (some t290)) = some r := H
  have A4 := Aside0.mk A40
  clear A40
  replace H := Option.bind_eq_some_iff.mp H
  obtain ⟨t290, A50, H⟩ := H
  replace H : (some t290) = some r := H
  have A5 := Aside0.mk A50
  clear A50
  obtain rfl := Option.some.inj H
  go_enter Tryd.func45, Tryd.ntmps45
  go_wp2_with (first | ((with_reducible refine gate_callee (f := 52) rfl ?_); refine goesL_ (some 11) rfl rfl Tryd.func52 (by kernel_rfl) rfl #[.int .i64 a0, .int .u64 a2] rfl (by (try simp only [List.map_toArray, List.map_cons, List.map_nil]); first | done | rfl | (simp only [List.length_drop, List.length_take]; rfl) | (go_simp; done) | (go_simp; rw [Int.tmod_eq_emod_of_nonneg (by omega)]; omega)) ?_; (with_reducible refine (field_Neg.calls a0 a2 t289 _ ?side1 A4.out).mono ?_); (case side1 => repeat (first | exact HRG.out | (with_reducible refine GL.alloc ?_ _) | (with_reducible refine GL.drewN ?_ _) | (with_reducible refine GL.drew ?_))); rintro e w6 ⟨rfl, hb⟩; refine ⟨_, rfl, ?_⟩; have n0_ := Aside0.mk (below_step (by repeat (first | (with_reducible first | exact HB.out | apply below_alloc | apply pw_below_drewN | apply below_drew1) | exact HB.out)) hb); clear HB; have HB := n0_; clear n0_; (try clear hb); (try clear hb2); (try clear hk); (try clear hi)) | ((with_reducible refine gate_callee (f := 23) rfl ?_); refine goesL_ (some 12) rfl rfl Tryd.func23 (by kernel_rfl) rfl #[.int .i64 a0, .int .u64 a1, .int .u64 t289] rfl (by (try simp only [List.map_toArray, List.map_cons, List.map_nil]); first | done | rfl | (simp only [List.length_drop, List.length_take]; rfl) | (go_simp; done) | (go_simp; rw [Int.tmod_eq_emod_of_nonneg (by omega)]; omega)) ?_; (with_reducible refine (field_Add.calls a0 a1 t289 t290 _ ?side1 A5.out).mono ?_); (case side1 => repeat (first | exact (GL.below HRG.out HB.out) | (with_reducible refine GL.alloc ?_ _) | (with_reducible refine GL.drewN ?_ _) | (with_reducible refine GL.drew ?_))); rintro e w7 ⟨rfl, hb⟩; refine ⟨_, rfl, ?_⟩; have n0_ := Aside0.mk (below_step (by repeat (first | (with_reducible first | exact HB.out | apply below_alloc | apply pw_below_drewN | apply below_drew1) | exact HB.out)) hb); clear HB; have HB := n0_; clear n0_; (try clear hb); (try clear hb2); (try clear hk); (try clear hi)))
  go_ret
  exact ⟨by first | rfl | (simp [errW_none, errW_some] <;> rfl) | (simp [*, errW_none, errW_some] <;> rfl), by repeat (first | (with_reducible first | exact HB.out | apply below_alloc | apply pw_below_drewN | apply below_drew1) | exact HB.out)⟩

end Go.Proofs.YtjfekjblnoagkaaDoor.Q
end
section
namespace Go.Proofs.YtjfekjblnoagkaaDoor.Q
open Go.RowKit Go.Proofs.YtjfekjblnoagkaaDoorW.PrintWords Go.Proofs.YtjfekjblnoagkaaDoorW.PrintLast Go.Proofs.YtjfekjblnoagkaaDoorW.PrintMore
attribute [local go_sem] max2_int min2_int max_two min_two max_three min_three max_four min_four   -- for this text's walks alone
set_option linter.unusedVariables false
set_option linter.unusedSimpArgs false

/-! ### field_Inv: function 53 -/
mutual
def field_Inv.j0 : Nat → Int → Int → Bool → Option (Int)
  | 0, _, _, _ => none
  | k + 1, x1, x5, x20 => if x20 = true then (some 0) else (if x5 = 0 then (none) else (field_Inv.l0 k x5 (wrap64 (x5)) (wrap64 (Int.tmod x1 x5)) 0 1))
def field_Inv.l0 : Nat → Int → Int → Int → Int → Int → Option (Int)
  | 0, _, _, _, _, _ => none
  | k + 1, x5, x6, x7, x8, x9 => if x7 = 0 then (if x8 < 0 then (some (IntKind.u64.wrap (wrap64 (x8 + (wrap64 (x5)))))) else (some (IntKind.u64.wrap (x8)))) else (field_Inv.l0 k x5 x7 (wrap64 (x6 - (wrap64 ((wrap64 (Int.tdiv x6 x7)) * x7)))) x9 (wrap64 (x8 - (wrap64 ((wrap64 (Int.tdiv x6 x7)) * x9)))))
end
def field_Inv.f (k : Nat) (a0 : Int) (a1 : Int) : Option (Int) := (field_P.f a0).bind fun t255 => (if t255 = 0 then (field_Inv.j0 k a1 t255 true) else (field_Inv.j0 k a1 t255 ((Int.tmod a1 t255) == 0)))
theorem field_Inv.mono_l : ∀ k, (∀ y0 y1 y2, LeO (field_Inv.j0 k y0 y1 y2) (field_Inv.j0 (k + 1) y0 y1 y2)) ∧ (∀ y0 y1 y2 y3 y4, LeO (field_Inv.l0 k y0 y1 y2 y3 y4) (field_Inv.l0 (k + 1) y0 y1 y2 y3 y4))
  | 0 => ⟨fun _ _ _ r h => by simp [field_Inv.j0] at h, fun _ _ _ _ _ r h => by simp [field_Inv.l0] at h⟩
  | k + 1 => by
    obtain ⟨ih0, ih1⟩ := field_Inv.mono_l k
    refine ⟨?_, ?_⟩
    · intro y0 y1 y2
      unfold field_Inv.j0
      repeat' first
      | (with_reducible exact ih0 _ _ _)
      | (with_reducible exact ih1 _ _ _ _ _)
      | (with_reducible exact LeO.refl _)
      | (with_reducible exact LeO.none _)
      | (with_reducible refine LeO.ite ?_ ?_)
      | (with_reducible refine LeO.bind ?_ (fun _ => ?_))
      | exact ih0 _ _ _
      | exact ih1 _ _ _ _ _
      | exact LeO.none _
      | refine LeO.ite ?_ ?_
      | refine LeO.bind ?_ (fun _ => ?_)
    · intro y0 y1 y2 y3 y4
      unfold field_Inv.l0
      repeat' first
      | (with_reducible exact ih0 _ _ _)
      | (with_reducible exact ih1 _ _ _ _ _)
      | (with_reducible exact LeO.refl _)
      | (with_reducible exact LeO.none _)
      | (with_reducible refine LeO.ite ?_ ?_)
      | (with_reducible refine LeO.bind ?_ (fun _ => ?_))
      | exact ih0 _ _ _
      | exact ih1 _ _ _ _ _
      | exact LeO.none _
      | refine LeO.ite ?_ ?_
      | refine LeO.bind ?_ (fun _ => ?_)
theorem field_Inv.mono : ∀ a0 a1 k, LeO (field_Inv.f k a0 a1) (field_Inv.f (k + 1) a0 a1) := by
  intro a0 a1 k
  obtain ⟨ih0, ih1⟩ := field_Inv.mono_l k
  unfold field_Inv.f
  repeat' first
      | (with_reducible exact ih0 _ _ _)
      | (with_reducible exact ih1 _ _ _ _ _)
      | (with_reducible exact LeO.refl _)
      | (with_reducible exact LeO.none _)
      | (with_reducible refine LeO.ite ?_ ?_)
      | (with_reducible refine LeO.bind ?_ (fun _ => ?_))
      | exact ih0 _ _ _
      | exact ih1 _ _ _ _ _
      | exact LeO.none _
      | refine LeO.ite ?_ ?_
      | refine LeO.bind ?_ (fun _ => ?_)
set_option maxHeartbeats 8000000 in
set_option maxRecDepth 100000 in
theorem field_Inv.calls (k : Nat) (a0 : Int) (a1 : Int) (r : Int) (w : World) (hrG : GL w) (h : field_Inv.f k a0 a1 = some r) :
    Calls Tryd.prog 53 #[.int .i64 a0, .int .u64 a1] w fun e w' => e = .returned (.int .u64 r) ∧ Below w.heap.size w w' := by
  have HRG := Aside0.mk hrG
  clear hrG
  have HB := Aside0.mk (Below.refl w.heap.size w)
  have H : ((field_P.f a0).bind fun t255 => (if t255 = 0 then (field_Inv.j0 k a1 t255 true) else (field_Inv.j0 k a1 t255 ((Int.tmod a1 t255) == 0)))) = some r := h
  clear h
  replace H := Option.bind_eq_some_iff.mp H
  obtain ⟨t255, A30, H⟩ := H
  replace H : (if t255 = 0 then (field_Inv.j0 k a1 t255 true) else (field_Inv.j0 k a1 t255 ((Int.tmod a1 t255) == 0))) = some r := H
  have A3 := Aside0.mk A30
  clear A30
  have HC4 := Aside0.mk H
  clear H
  go_enter Tryd.func53, Tryd.ntmps53
  go_upto_region 2 with (first | (go_at_call 43; (with_reducible refine (field_P.calls a0 t255 _ ?side1 A3.out).mono ?_); (case side1 => repeat (first | exact HRG.out | (with_reducible refine GL.alloc ?_ _) | (with_reducible refine GL.drewN ?_ _) | (with_reducible refine GL.drew ?_))); rintro e w5 ⟨rfl, hb⟩; have n0_ := Aside0.mk (below_step (by repeat (first | (with_reducible first | exact HB.out | apply below_alloc | apply pw_below_drewN | apply below_drew1) | exact HB.out)) hb); clear HB; have HB := n0_; clear n0_; (try clear hb); (try clear hb2); (try clear hk); (try clear hi)))
  repeat (go_quiet (first | (go_at_call 43; (with_reducible refine (field_P.calls a0 t255 _ ?side1 A3.out).mono ?_); (case side1 => repeat (first | exact HRG.out | (with_reducible refine GL.alloc ?_ _) | (with_reducible refine GL.drewN ?_ _) | (with_reducible refine GL.drew ?_))); rintro e w5 ⟨rfl, hb⟩; have n0_ := Aside0.mk (below_step (by repeat (first | (with_reducible first | exact HB.out | apply below_alloc | apply pw_below_drewN | apply below_drew1) | exact HB.out)) hb); clear HB; have HB := n0_; clear n0_; (try clear hb); (try clear hb2); (try clear hk); (try clear hi))); go_upto_region 2 with (first | (go_at_call 43; (with_reducible refine (field_P.calls a0 t255 _ ?side1 A3.out).mono ?_); (case side1 => repeat (first | exact HRG.out | (with_reducible refine GL.alloc ?_ _) | (with_reducible refine GL.drewN ?_ _) | (with_reducible refine GL.drew ?_))); rintro e w5 ⟨rfl, hb⟩; have n0_ := Aside0.mk (below_step (by repeat (first | (with_reducible first | exact HB.out | apply below_alloc | apply pw_below_drewN | apply below_drew1) | exact HB.out)) hb); clear HB; have HB := n0_; clear n0_; (try clear hb); (try clear hb2); (try clear hk); (try clear hi))))
  (try simp only [Act.put, List.setIfInBounds_toArray, List.set_cons_zero, List.set_cons_succ])
  go_cut [20] (fun v20 wc => ∃ (kq : Nat) (x20_3 : Bool), v20 = .bool x20_3 ∧ Aside0 (field_Inv.j0 kq a1 t255 x20_3 = some r) ∧ Aside0 (kq ≤ k) ∧ Aside0 (Below w.heap.size w wc))
  case first =>
    have H := HC4.out
    clear HC4
    by_cases c6 : t255 = 0
    · rw [if_pos c6] at H
      have c6b0 : (t255 == 0) = true := beq_iff_eq.mpr c6
      have c6b1 : (t255 != 0) = false := bne_eq_false_iff_eq.mpr c6
      clear c6
      (first | rw [c6b0] | (simp only [i64_w, i32_w]; rw [c6b0]) | skip)
      have H' := Aside0.mk H
      clear H
      go_wp2
      repeat (go_quiet (fail); try go_wp2)
      go_meet
      case rel => exact ⟨_, (true), (by first | rfl | (simp; done) | (simp [*]; done) | (simp; rfl) | (simp; decide +kernel)), H', ⟨by first | omega | exact Nat.le_refl _⟩, ⟨by repeat (first | (with_reducible first | exact HB.out | apply below_alloc | apply pw_below_drewN | apply below_drew1) | exact HB.out)⟩⟩
    · rw [if_neg c6] at H
      have c6b0 : (t255 == 0) = false := beq_eq_false_iff_ne.mpr c6
      have c6b1 : (t255 != 0) = true := bne_iff_ne.mpr c6
      (first | rw [c6b0] | (simp only [i64_w, i32_w]; rw [c6b0]) | skip)
      have H' := Aside0.mk H
      clear H
      go_wp2
      repeat (go_quiet (fail); try go_wp2)
      go_meet
      case rel => exact ⟨_, (((Int.tmod a1 t255) == 0)), (by first | rfl | (simp; done) | (simp [*]; done) | (simp; rfl) | (simp; decide +kernel)), H', ⟨by first | omega | exact Nat.le_refl _⟩, ⟨by repeat (first | (with_reducible first | exact HB.out | apply below_alloc | apply pw_below_drewN | apply below_drew1) | exact HB.out)⟩⟩
  case rest =>
    clear HC4
    try clear p2
    try clear c5
    try clear c6
    try clear c6b0
    try clear c6b1
    obtain ⟨kq, x20_3, rfl, HA, HJ3, HB⟩ := hcut
    cases kq with
    | zero => exact absurd HA.out (by simp [field_Inv.j0])
    | succ kj3 =>
      have H := HA.out
      clear HA
      simp only [field_Inv.j0] at H
      by_cases c7 : x20_3 = true
      · subst c7
        have H1 : (some 0) = some r := by rw [if_pos rfl] at H; exact H
        clear H
        have H := H1
        clear H1
        obtain rfl := Option.some.inj H
        go_wp2
        repeat (go_quiet (fail); try go_wp2)
        go_ret
        exact ⟨by first | rfl | (simp [errW_none, errW_some] <;> rfl) | (simp [*, errW_none, errW_some] <;> rfl), by repeat (first | (with_reducible first | exact HB.out | apply below_alloc | apply pw_below_drewN | apply below_drew1) | exact HB.out)⟩
      · replace c7 := Bool.eq_false_iff.mpr c7
        subst c7
        have H1 : (if t255 = 0 then (none) else (field_Inv.l0 kj3 t255 (wrap64 (t255)) (wrap64 (Int.tmod a1 t255)) 0 1)) = some r := by rw [if_neg (show ¬ (false = true) by decide)] at H; exact H
        clear H
        have H := H1
        clear H1
        by_cases c8 : t255 = 0
        · rw [if_pos c8] at H
          exact absurd H (by simp)
        · rw [if_neg c8] at H
          have c8b0 : (t255 == 0) = false := beq_eq_false_iff_ne.mpr c8
          have c8b1 : (t255 != 0) = true := bne_iff_ne.mpr c8
          have H' := Aside0.mk H
          clear H
          go_wp2
          repeat (go_quiet (fail); try go_wp2)
          go_loopg [6, 7, 8, 9] kj3 (fun kq v6 v7 v8 v9 w' => ∃ (x6_2 : Int) (x7_2 : Int) (x8_2 : Int) (x9_2 : Int), v6 = .int .i64 x6_2 ∧ v7 = .int .i64 x7_2 ∧ v8 = .int .i64 x8_2 ∧ v9 = .int .i64 x9_2 ∧ Aside0 (field_Inv.l0 kq t255 x6_2 x7_2 x8_2 x9_2 = some r) ∧ Aside0 (kq ≤ kj3) ∧ Aside0 (Below w.heap.size w w'))
          case atStart => exact ⟨(wrap64 (t255)), (wrap64 (Int.tmod a1 t255)), (0), (1), (by first | rfl | (simp; done) | (simp [*]; done) | (simp; rfl) | (simp; decide +kernel)), (by first | rfl | (simp; done) | (simp [*]; done) | (simp; rfl) | (simp; decide +kernel)), (by first | rfl | (simp; done) | (simp [*]; done) | (simp; rfl) | (simp; decide +kernel)), (by first | rfl | (simp; done) | (simp [*]; done) | (simp; rfl) | (simp; decide +kernel)), H', ⟨Nat.le_refl _⟩, ⟨by repeat (first | (with_reducible first | exact HB.out | apply below_alloc | apply pw_below_drewN | apply below_drew1) | exact HB.out)⟩⟩
          case round =>
            clear H'
            try clear p2
            try clear c5
            try clear c6
            try clear c6b0
            try clear c6b1
            try clear p6
            try clear c7
            try clear c8
            try clear c8b0
            try clear c8b1
            try clear p2
            obtain ⟨x6_2, x7_2, x8_2, x9_2, rfl, rfl, rfl, rfl, HA, HK2, HB⟩ := hrel
            cases gk with
            | zero => exact absurd HA.out (by simp [field_Inv.l0])
            | succ k2 =>
              have H := HA.out
              clear HA
              simp only [field_Inv.l0] at H
              by_cases c9 : x7_2 = 0
              · rw [if_pos c9] at H
                have c9b0 : (x7_2 == 0) = true := beq_iff_eq.mpr c9
                have c9b1 : (x7_2 != 0) = false := bne_eq_false_iff_eq.mpr c9
                clear c9
                by_cases c10 : x8_2 < 0
                · rw [if_pos c10] at H
                  have c10b0 : decide (x8_2 < 0) = true := decide_eq_true c10
                  clear c10
                  obtain rfl := Option.some.inj H
                  go_wp2
                  repeat (go_quiet (fail); try go_wp2)
                  go_ret
                  exact ⟨by first | rfl | (simp [errW_none, errW_some] <;> rfl) | (simp [*, errW_none, errW_some] <;> rfl), by repeat (first | (with_reducible first | exact HB.out | apply below_alloc | apply pw_below_drewN | apply below_drew1) | exact HB.out)⟩
                · rw [if_neg c10] at H
                  have c10b0 : decide (x8_2 < 0) = false := decide_eq_false c10
                  clear c10
                  obtain rfl := Option.some.inj H
                  go_wp2
                  repeat (go_quiet (fail); try go_wp2)
                  go_ret
                  exact ⟨by first | rfl | (simp [errW_none, errW_some] <;> rfl) | (simp [*, errW_none, errW_some] <;> rfl), by repeat (first | (with_reducible first | exact HB.out | apply below_alloc | apply pw_below_drewN | apply below_drew1) | exact HB.out)⟩
              · rw [if_neg c9] at H
                have c9b0 : (x7_2 == 0) = false := beq_eq_false_iff_ne.mpr c9
                have c9b1 : (x7_2 != 0) = true := bne_iff_ne.mpr c9
                have H' := Aside0.mk H
                clear H
                go_wp2
                repeat (go_quiet (fail); try go_wp2)
                go_roundg k2
                case measure => have := HJ3.out; have := HK2.out; omega
                case rel => exact ⟨(x7_2), (wrap64 (x6_2 - (wrap64 ((wrap64 (Int.tdiv x6_2 x7_2)) * x7_2)))), (x9_2), (wrap64 (x8_2 - (wrap64 ((wrap64 (Int.tdiv x6_2 x7_2)) * x9_2)))), (by first | rfl | (simp; done) | (simp [*]; done) | (simp; rfl) | (simp; decide +kernel)), (by first | rfl | (simp; done) | (simp [*]; done) | (simp; rfl) | (simp; decide +kernel)), (by first | rfl | (simp; done) | (simp [*]; done) | (simp; rfl) | (simp; decide +kernel)), (by first | rfl | (simp; done) | (simp [*]; done) | (simp; rfl) | (simp; decide +kernel)), H', ⟨by have := HJ3.out; have := HK2.out; omega⟩, ⟨by repeat (first | (with_reducible first | exact HB.out | apply below_alloc | apply pw_below_drewN | apply below_drew1) | exact HB.out)⟩⟩

end Go.Proofs.YtjfekjblnoagkaaDoor.Q
end
section
namespace Go.Proofs.YtjfekjblnoagkaaDoor.Num
/-! ### Euclid's extended algorithm, one step and the end -/
structure Inv (p a r s x y : Int) : Prop where
  s0 : 0 ≤ s
  sr : s < r
  rp : r ≤ p
  st : r < p ∨ 0 < s
  sg : (x ≤ 0 ∧ 0 ≤ y ∧ y * r - x * s = p) ∨ (0 ≤ x ∧ y ≤ 0 ∧ x * s - y * r = p)
  xb : -p ≤ x ∧ x ≤ p
  dx : p ∣ a * x - r
  dy : p ∣ a * y - s
theorem Inv.y_le {p a r s x y : Int} (h : Inv p a r s x y) : -p ≤ y ∧ y ≤ p := by
  have hr : 1 ≤ r := by have := h.s0; have := h.sr; omega
  rcases h.sg with ⟨hx, hy, e⟩ | ⟨hx, hy, e⟩
  · have h1 : 0 ≤ (-x) * s := Int.mul_nonneg (by omega) h.s0
    have h2 : y * 1 ≤ y * r := Int.mul_le_mul_of_nonneg_left hr hy
    have h3 : (-x) * s = -(x * s) := Int.neg_mul ..
    omega
  · have h1 : 0 ≤ x * s := Int.mul_nonneg hx h.s0
    have h2 : (-y) * 1 ≤ (-y) * r := Int.mul_le_mul_of_nonneg_left hr (by omega)
    have h3 : (-y) * r = -(y * r) := Int.neg_mul ..
    omega
theorem Inv.step {p a r s x y : Int} (h : Inv p a r s x y) (hs : s ≠ 0) : Inv p a s (r - r / s * s) y (x - r / s * y) := by
  have hs0 : 0 < s := by have := h.s0; omega
  have e := Int.mul_ediv_add_emod r s
  have t0 := Int.emod_nonneg r hs
  have t1 := Int.emod_lt_of_pos r hs0
  have q0 : 0 ≤ r / s := Int.ediv_nonneg (by have := h.s0; have := h.sr; omega) (by omega)
  have hrp := h.rp
  have hsr := h.sr
  generalize r / s = q at *
  have et : r - q * s = r % s := by rw [Int.mul_comm] at e; omega
  rw [et]
  generalize r % s = t at *
  obtain rfl : r = q * s + t := by omega
  clear e et
  refine ⟨t0, t1, by omega, Or.inl (by omega), ?_, h.y_le, h.dy, ?_⟩
  · rcases h.sg with ⟨hx, hy, e⟩ | ⟨hx, hy, e⟩
    · have h1 : 0 ≤ q * y := Int.mul_nonneg q0 hy
      refine Or.inr ⟨hy, by omega, ?_⟩
      grind
    · have h1 : 0 ≤ q * (-y) := Int.mul_nonneg q0 (by omega)
      have h2 : q * (-y) = -(q * y) := Int.mul_neg ..
      refine Or.inl ⟨hy, by omega, ?_⟩
      grind
  · have e1 : a * (x - q * y) - t = (a * x - (q * s + t)) - q * (a * y - s) := by grind
    rw [e1]
    exact Int.dvd_sub h.dx (Int.dvd_trans h.dy (Int.dvd_mul_left ..))
theorem Inv.last {p : Nat} {a r x y : Int} (hp : Pr p) (h : Inv p a r 0 x y) : r = 1 := by
  have hr : 0 < r := h.sr
  have hlt : r < p := by rcases h.st with h1 | h1 <;> omega
  have hd : r ∣ (p : Int) := by
    rcases h.sg with ⟨_, _, e⟩ | ⟨_, _, e⟩
    · exact ⟨y, by rw [← e]; grind⟩
    · exact ⟨-y, by rw [← e]; grind⟩
  obtain ⟨n, rfl⟩ := Int.eq_ofNat_of_zero_le (by omega : 0 ≤ r)
  have := hp.2 n (Int.ofNat_dvd.1 hd)
  omega
end Go.Proofs.YtjfekjblnoagkaaDoor.Num
namespace Go.Proofs.YtjfekjblnoagkaaDoor.Q
open Go.RowKit Go.Proofs.YtjfekjblnoagkaaDoorW.PrintWords Go.Proofs.YtjfekjblnoagkaaDoorW.PrintLast Go.Proofs.YtjfekjblnoagkaaDoorW.PrintMore
open Go.Proofs.YtjfekjblnoagkaaDoor.Num
set_option linter.unusedVariables false
set_option linter.unusedSimpArgs false

theorem neg_f {f : Int} {p : Nat} (F : Fld f p) (a : Nat) : field_Neg.f f a = some (((p - a % p) % p : Nat) : Int) := by
  have h1 := F.md a
  have h3 := F.big
  unfold field_Neg.f
  rw [P_eq, F.eq, Option.bind_some, if_neg F.ne, tmodN]
  by_cases h : a % p = 0
  · rw [if_pos (by omega), h, Nat.sub_zero, Nat.mod_self]; rfl
  · have e : (p - a % p) % p = p - a % p := Nat.mod_eq_of_lt (by omega)
    rw [if_neg (by omega), ← Int.natCast_sub (by omega), wrapU (by omega), e]
/-- a - b modulo p. -/
def sb (p a b : Nat) : Nat := (a % p + p - b % p) % p
theorem sub_f {f : Int} {p : Nat} (F : Fld f p) (a b : Nat) : field_Sub.f f a b = some ((sb p a b : Nat) : Int) := by
  unfold field_Sub.f
  rw [neg_f F, Option.bind_some, add_f F, Option.bind_some, Nat.add_mod, Nat.mod_mod, ← Nat.add_mod]
  have h1 := F.md b
  unfold sb
  rw [Nat.add_sub_assoc (by omega), Nat.add_mod (a % p), Nat.mod_mod, ← Nat.add_mod]
/-- The inverse modulo p, and 0 for 0. -/
def iv (p a : Nat) : Nat := a ^ (p - 2) % p
theorem euclid {f : Int} {p : Nat} (F : Fld f p) (a : Nat) : ∀ (k d : Nat) (r s x y : Int), Inv p a r s x y → s ≤ d → d < k →
    ∃ z : Nat, z < p ∧ a * z % p = 1 ∧ field_Inv.l0 k p r s x y = some (z : Int)
  | k + 1, d, r, s, x, y, h, hs, hk => by
    have h2 := F.two
    have h3 := F.big
    unfold field_Inv.l0
    by_cases h0 : s = 0
    · subst h0
      have hr := h.last F.pr
      subst hr
      have hdx := h.dx
      have hx := h.xb
      rw [if_pos rfl, wrapS (x := (p : Int)) (by omega) (by omega)]
      have key : ∀ z : Nat, (p : Int) ∣ (a : Int) * z - 1 → a * z % p = 1 := by
        intro z hz
        obtain ⟨c, hc⟩ := hz
        have e : ((a * z : Nat) : Int) = 1 + p * c := by rw [Int.natCast_mul]; omega
        have : ((a * z % p : Nat) : Int) = 1 := by
          rw [Int.natCast_emod, e, Int.add_mul_emod_self_left]
          exact Int.emod_eq_of_lt (by omega) (by omega)
        omega
      have hne : ∀ z : Int, (p : Int) ∣ (a : Int) * z - 1 → (p : Int) ∣ z → False := by
        intro z h1 h4
        have : (p : Int) ∣ 1 := by
          have h5 := Int.dvd_sub (Int.dvd_trans h4 (Int.dvd_mul_left (a : Int) z)) h1
          rwa [show (a : Int) * z - (a * z - 1) = 1 by omega] at h5
        have := Int.le_of_dvd (by decide) this
        omega
      by_cases hx0 : x < 0
      · have hz : x ≠ -p := fun e => hne x hdx ⟨-1, by omega⟩
        obtain ⟨z, hz2⟩ := Int.eq_ofNat_of_zero_le (by omega : 0 ≤ x + p)
        rw [if_pos hx0, wrapS (by omega) (by omega), hz2, wrapU (by omega)]
        refine ⟨z, by omega, key z ?_, rfl⟩
        have e : (a : Int) * z - 1 = (a * x - 1) + p * a := by rw [← hz2]; grind
        rw [e]
        exact Int.dvd_add hdx (Int.dvd_mul_right ..)
      · have hz : x ≠ p := fun e => hne x hdx ⟨1, by omega⟩
        obtain ⟨z, rfl⟩ := Int.eq_ofNat_of_zero_le (by omega : 0 ≤ x)
        rw [if_neg hx0, wrapU (by omega)]
        exact ⟨z, by omega, key z hdx, rfl⟩
    · have hst := h.step h0
      have e0 : Int.tdiv r s = r / s := Int.tdiv_eq_ediv_of_nonneg (by have := h.s0; have := h.sr; omega)
      have q0 : 0 ≤ r / s := Int.ediv_nonneg (by have := h.s0; have := h.sr; omega) h.s0
      have q1 : r / s ≤ r := Int.ediv_le_self _ (by have := h.s0; have := h.sr; omega)
      have hrp := h.rp
      have hs0 := h.s0
      have hsr := h.sr
      have hx := h.xb
      have hy := hst.y_le
      have hr2 := hst.s0
      have hr3 := hst.sr
      rw [if_neg h0, e0, wrapS (x := r / s) (by omega) (by omega), wrapS (x := r / s * s) (by omega) (by omega), wrapS (x := r - r / s * s) (by omega) (by omega), wrapS (x := r / s * y) (by omega) (by omega), wrapS (x := x - r / s * y) (by omega) (by omega)]
      exact euclid F a k (d - 1) _ _ _ _ hst (by omega) (by omega)
theorem inv_f {f : Int} {p : Nat} (F : Fld f p) (k a : Nat) (hk : 1073741824 < k) : field_Inv.f k f a = some ((iv p a : Nat) : Int) := by
  have h2 := F.two
  have h3 := F.big
  have ha := F.md a
  obtain ⟨k, rfl⟩ : ∃ m, k = m + 1 := ⟨k - 1, by omega⟩
  unfold field_Inv.f
  rw [P_eq, F.eq, Option.bind_some, if_neg F.ne, tmodN]
  simp only [field_Inv.j0]
  by_cases h0 : a % p = 0
  · rw [if_pos (by rw [h0]; rfl)]
    unfold iv
    rw [Nat.pow_mod, h0]
    have : p - 2 ≠ 0 := by rcases fld_p F with h | h | h | h <;> omega
    rw [Nat.zero_pow (by omega), Nat.zero_mod]
    rfl
  · rw [if_neg (by simp; omega), if_neg F.ne, tmodN, wrapS (x := (p : Int)) (by omega) (by omega), wrapS (x := ((a % p : Nat) : Int)) (by omega) (by omega)]
    have hi : Inv p a p ((a % p : Nat) : Int) 0 1 := by
      refine ⟨by omega, by omega, by omega, Or.inr (by omega), Or.inl ⟨by omega, by omega, by omega⟩, by omega, ?_, ?_⟩
      · exact ⟨-1, by omega⟩
      · rw [Int.natCast_emod, Int.mul_one]
        exact Int.dvd_self_sub_emod
    obtain ⟨z, hz, e1, e2⟩ := euclid F a k 1073741823 p _ 0 1 hi (by omega) (by omega)
    rw [e2]
    have : z = iv p a := F.pr.inv_one h0 hz (F.md _) (by rw [e1]; exact (F.pr.inv_pow h0).symm)
    rw [this]
end Go.Proofs.YtjfekjblnoagkaaDoor.Q
end
section
namespace Go.Proofs.YtjfekjblnoagkaaDoor.Q
open Go.RowKit
theorem w64_0 : wrap64 0 = 0 := by decide +kernel
theorem w64_1 : wrap64 1 = 1 := by decide +kernel
theorem w64_2 : wrap64 2 = 2 := by decide +kernel
theorem w64_3 : wrap64 3 = 3 := by decide +kernel
theorem w64_4 : wrap64 4 = 4 := by decide +kernel
theorem w64_5 : wrap64 5 = 5 := by decide +kernel
theorem w64_6 : wrap64 6 = 6 := by decide +kernel
theorem w64_7 : wrap64 7 = 7 := by decide +kernel
theorem tm4_0 : Int.tmod 0 4 = 0 := by decide
theorem tm4_1 : Int.tmod 1 4 = 1 := by decide
theorem tm4_2 : Int.tmod 2 4 = 2 := by decide
theorem tm4_3 : Int.tmod 3 4 = 3 := by decide
theorem tm4_4 : Int.tmod 4 4 = 0 := by decide
theorem tm4_5 : Int.tmod 5 4 = 1 := by decide
theorem tm4_6 : Int.tmod 6 4 = 2 := by decide
theorem tm4_7 : Int.tmod 7 4 = 3 := by decide
end Go.Proofs.YtjfekjblnoagkaaDoor.Q
end
section
namespace Go.Proofs.YtjfekjblnoagkaaDoor.Q
open Go.RowKit Go.Proofs.YtjfekjblnoagkaaDoorW.PrintWords Go.Proofs.YtjfekjblnoagkaaDoorW.PrintLast Go.Proofs.YtjfekjblnoagkaaDoorW.PrintMore
attribute [local go_sem] max2_int min2_int max_two min_two max_three min_three max_four min_four   -- for this text's walks alone
set_option linter.unusedVariables false
set_option linter.unusedSimpArgs false

/-! ### field_Dot: function 54 -/
def field_Dot.l0 : Nat → Int → List Int → List Int → Int → Int → Int → Option (Int)
  | 0, _, _, _, _, _, _ => none
  | k + 1, x0, x1, x2, x7, x13, x14 => if x14 < x13 then (if 0 ≤ x14 then (if x14 < (x1.length : Int) then (if x14 < (x2.length : Int) then ((field_Mul.f x0 (rd x1 x14) (rd x2 x14)).bind fun t258 => ((field_Add.f x0 x7 t258).bind fun t259 => (field_Dot.l0 k x0 x1 x2 t259 x13 (wrap64 (x14 + 1))))) else (none)) else (none)) else (none)) else (some x7)
def field_Dot.f (k : Nat) (a0 : Int) (l1 : List Int) (l2 : List Int) : Option (Int) := field_Dot.l0 k a0 l1 l2 0 (mn (l1.length : Int) (l2.length : Int)) 0
theorem field_Dot.mono_l : ∀ k, (∀ y0 y1 y2 y3 y4 y5, LeO (field_Dot.l0 k y0 y1 y2 y3 y4 y5) (field_Dot.l0 (k + 1) y0 y1 y2 y3 y4 y5))
  | 0 => fun _ _ _ _ _ _ r h => by simp [field_Dot.l0] at h
  | k + 1 => by
    have ih0 := field_Dot.mono_l k
    · intro y0 y1 y2 y3 y4 y5
      unfold field_Dot.l0
      repeat' first
      | (with_reducible exact ih0 _ _ _ _ _ _)
      | (with_reducible exact LeO.refl _)
      | (with_reducible exact LeO.none _)
      | (with_reducible refine LeO.ite ?_ ?_)
      | (with_reducible refine LeO.bind ?_ (fun _ => ?_))
      | exact ih0 _ _ _ _ _ _
      | exact LeO.none _
      | refine LeO.ite ?_ ?_
      | refine LeO.bind ?_ (fun _ => ?_)
theorem field_Dot.mono : ∀ a0 a1 a2 k, LeO (field_Dot.f k a0 a1 a2) (field_Dot.f (k + 1) a0 a1 a2) := by
  intro a0 a1 a2 k
  have ih0 := field_Dot.mono_l k
  unfold field_Dot.f
  repeat' first
      | (with_reducible exact ih0 _ _ _ _ _ _)
      | (with_reducible exact LeO.refl _)
      | (with_reducible exact LeO.none _)
      | (with_reducible refine LeO.ite ?_ ?_)
      | (with_reducible refine LeO.bind ?_ (fun _ => ?_))
      | exact ih0 _ _ _ _ _ _
      | exact LeO.none _
      | refine LeO.ite ?_ ?_
      | refine LeO.bind ?_ (fun _ => ?_)
def field_Dot.T5 : Bool × List (List Nat × List Nat) := (true, [([], []), ([], []), ([], []), ([], []), ([], []), ([3, 4], [3, 4]), ([5], [5]), ([], []), ([], []), ([7, 8], [7, 8]), ([9], [9]), ([2, 6, 10], [2, 6, 10]), ([0, 1, 11, 11], [0, 1, 11]), ([12, 12, 0, 1, 2, 3, 4, 5, 6, 7, 8, 9, 10, 11, 12], [1, 12])])
def field_Dot.B5 : List Nat := [0, 0, 0, 0, 0, 24, 56, 0, 0, 384, 896, 2044, 4095, 8191]
theorem field_Dot.tab5 : rtab .any (opsOf Tryd.f54 5) = field_Dot.T5 := by kernel_rfl
theorem field_Dot.bits5 : waitsOk field_Dot.T5.2 field_Dot.B5 = true := by kernel_rfl
set_option maxHeartbeats 8000000 in
set_option maxRecDepth 100000 in
theorem field_Dot.calls (k : Nat) (a0 : Int) (A1 : Option Addr) (c1 : Nat) (l1 : List Int) (A2 : Option Addr) (c2 : Nat) (l2 : List Int) (r : Int) (w : World) (hr1 : Kd.C (Kd.int .u64) w A1 l1.length l1) (hc1 : l1.length ≤ c1) (hr2 : Kd.C (Kd.int .u64) w A2 l2.length l2) (hc2 : l2.length ≤ c2) (hrG : GL w) (h : field_Dot.f k a0 l1 l2 = some r) :
    Calls Tryd.prog 54 #[.int .i64 a0, .slice A1 l1.length c1, .slice A2 l2.length c2] w fun e w' => e = .returned (.int .u64 r) ∧ Below w.heap.size w w' := by
  have HRG := Aside0.mk hrG
  clear hrG
  have HR1 := Aside0.mk hr1
  have HC1 := Aside0.mk hc1
  clear hr1 hc1
  have HR2 := Aside0.mk hr2
  have HC2 := Aside0.mk hc2
  clear hr2 hc2
  have HB := Aside0.mk (Below.refl w.heap.size w)
  have H : (field_Dot.l0 k a0 l1 l2 0 (mn (l1.length : Int) (l2.length : Int)) 0) = some r := h
  clear h
  obtain ⟨ji4, hji4⟩ : ∃ j_ : Int, (mn (l1.length : Int) (l2.length : Int)) = j_ := ⟨_, rfl⟩
  replace H : (field_Dot.l0 k a0 l1 l2 0 ji4 0) = some r := by first | (rw [hji4] at H; exact H) | (simp only [hji4] at H ⊢; exact H)
  (try (have hji4l : 0 ≤ ji4 := by (rw [← hji4]; unfold mn; (repeat' split) <;> omega)))
  (try (have hji4m : 0 ≤ ji4 := by omega))
  have hji4_ : (if (l2.length : Int) < (l1.length : Int) then (l2.length : Int) else (l1.length : Int)) = ji4 := hji4
  have hji4N : (if l2.length < l1.length then (l2.length : Int) else (l1.length : Int)) = ji4 := by rw [← hji4_]; simp only [Int.ofNat_lt]
  have H' := Aside0.mk H
  clear H
  go_enter Tryd.func54, Tryd.ntmps54
  go_wp2
  go_loopg [7, 14] k (fun kq v7 v14 w' => ∃ (x7_1 : Int) (x14_1 : Int), v7 = .int .u64 x7_1 ∧ v14 = .int .i64 x14_1 ∧ Aside0 (field_Dot.l0 kq a0 l1 l2 x7_1 ji4 x14_1 = some r) ∧ Aside0 (kq ≤ k) ∧ Aside0 (Below w.heap.size w w'))
  case atStart => exact ⟨(0), (0), (by first | rfl | (simp; done) | (simp [*]; done) | (simp; rfl) | (simp; decide +kernel)), (by first | rfl | (simp; done) | (simp [*]; done) | (simp; rfl) | (simp; decide +kernel)), H', ⟨Nat.le_refl _⟩, ⟨by repeat (first | (with_reducible first | exact HB.out | apply below_alloc | apply pw_below_drewN | apply below_drew1) | exact HB.out)⟩⟩
  case round =>
    clear H'
    try clear c1
    try clear c2
    try clear p2
    obtain ⟨x7_1, x14_1, rfl, rfl, HA, HK1, HB⟩ := hrel
    cases gk with
    | zero => exact absurd HA.out (by simp [field_Dot.l0])
    | succ k1 =>
      have H := HA.out
      clear HA
      simp only [field_Dot.l0] at H
      by_cases c5 : x14_1 < ji4
      · rw [if_pos c5] at H
        have c5b0 : decide (x14_1 < ji4) = true := decide_eq_true c5
        clear c5
        by_cases c6 : 0 ≤ x14_1
        · rw [if_pos c6] at H
          have c6b0 : decide (0 ≤ x14_1) = true := decide_eq_true c6
          clear c6
          by_cases c7 : x14_1 < (l1.length : Int)
          · rw [if_pos c7] at H
            have c7b0 : decide (x14_1 < (l1.length : Int)) = true := decide_eq_true c7
            clear c7
            by_cases c8 : x14_1 < (l2.length : Int)
            · rw [if_pos c8] at H
              have c8b0 : decide (x14_1 < (l2.length : Int)) = true := decide_eq_true c8
              clear c8
              replace H := Option.bind_eq_some_iff.mp H
              obtain ⟨t258, A90, H⟩ := H
              replace H : ((field_Add.f a0 x7_1 t258).bind fun t259 => (field_Dot.l0 k1 a0 l1 l2 t259 ji4 (wrap64 (x14_1 + 1)))) = some r := H
              have A9 := Aside0.mk A90
              clear A90
              replace H := Option.bind_eq_some_iff.mp H
              obtain ⟨t259, A100, H⟩ := H
              replace H : (field_Dot.l0 k1 a0 l1 l2 t259 ji4 (wrap64 (x14_1 + 1))) = some r := H
              have A10 := Aside0.mk A100
              clear A100
              have H' := Aside0.mk H
              clear H
              try go_wp2
              have n0_ := Aside0.mk (below_drew1 HB.out)
              clear HB
              have HB := n0_
              clear n0_
              have p256 : 0 ≤ (x14_1 : Int) := of_decide_eq_true (by first | (with_reducible assumption) | assumption)
              have q256 : x14_1 < (l1.length : Int) := of_decide_eq_true (by first | (with_reducible assumption) | assumption)
              obtain ⟨ad256, e256, hx256_0⟩ := Kd.at_int HR1.out x14_1 p256 q256
              have hw256_0 := hx256_0
              cases e256
              replace hx256_0 := (HB.out.cell (World.block_lt_of_cell? w _ hx256_0)).trans hx256_0
              replace p256 := eq_true p256
              replace q256 := eq_true q256
              have p257 : 0 ≤ (x14_1 : Int) := of_decide_eq_true (by first | (with_reducible assumption) | assumption)
              have q257 : x14_1 < (l2.length : Int) := of_decide_eq_true (by first | (with_reducible assumption) | assumption)
              obtain ⟨ad257, e257, hx257_0⟩ := Kd.at_int HR2.out x14_1 p257 q257
              have hw257_0 := hx257_0
              cases e257
              replace hx257_0 := (HB.out.cell (World.block_lt_of_cell? w _ hx257_0)).trans hx257_0
              replace p257 := eq_true p257
              replace q257 := eq_true q257
              refine start_ (n := 14) (S := fun w' => w'.cell? (ad256.add (x14_1).toNat) = some (.int .u64 (rd l1 x14_1)) ∧ w'.cell? (ad257.add (x14_1).toNat) = some (.int .u64 (rd l2 x14_1))) (ds := []) #[false, false, false, false, false, false, false, false, false, false, false, false, false, false] (by kernel_rfl) rfl rfl ⟨((HB.out.cell (World.block_lt_of_cell? w _ hw256_0)).trans hw256_0), ((HB.out.cell (World.block_lt_of_cell? w _ hw257_0)).trans hw257_0)⟩ (fun hHeld => ?_); refine with_tabW field_Dot.tab5 field_Dot.bits5 (fun HT_ HW_ => ?_)
              generalize wr.drew = w11 at HB hx256_0 hx257_0 hHeld ⊢
              refine pure_ (i := 0) (N := some 17) (v := ?_) (a' := ?_) #[true, false, false, false, false, false, false, false, false, false, false, false, false, false] rfl rfl (any_of HT_.out (by kernel_rfl)) (fun _ _ _ h => h) (Or.inl ⟨by rfl, ?_⟩) ?_ ?_
              rotate_left
              · intro w'
                go_simp
                with_reducible rfl
              rotate_left
              · simp only [Act.put, List.setIfInBounds_toArray, List.set_cons_zero, List.set_cons_succ, i64_w, i32_w]
                rfl
              refine pure_ (i := 1) (N := some 18) (v := ?_) (a' := ?_) #[true, true, false, false, false, false, false, false, false, false, false, false, false, false] rfl rfl (any_of HT_.out (by kernel_rfl)) (fun _ _ _ h => h) (Or.inl ⟨by rfl, ?_⟩) ?_ ?_
              rotate_left
              · intro w'
                go_simp
                with_reducible rfl
              rotate_left
              · simp only [Act.put, List.setIfInBounds_toArray, List.set_cons_zero, List.set_cons_succ, i64_w, i32_w]
                rfl
              refine pure_ (i := 2) (N := some 19) (v := ?_) (a' := ?_) #[true, true, true, false, false, false, false, false, false, false, false, false, false, false] rfl rfl (any_of HT_.out (by kernel_rfl)) (fun _ _ _ h => h) (Or.inl ⟨by rfl, ?_⟩) ?_ ?_
              rotate_left
              · intro w'
                go_simp
                with_reducible rfl
              rotate_left
              · simp only [Act.put, List.setIfInBounds_toArray, List.set_cons_zero, List.set_cons_succ, i64_w, i32_w]
                rfl
              refine pure_ (i := 3) (N := some 20) (v := ?_) (a' := ?_) #[true, true, true, true, false, false, false, false, false, false, false, false, false, false] rfl rfl (any_of HT_.out (by kernel_rfl)) (fun _ _ _ h => h) (Or.inl ⟨by rfl, ?_⟩) ?_ ?_
              rotate_left
              · intro w'
                go_simp
                with_reducible rfl
              rotate_left
              · simp only [Act.put, List.setIfInBounds_toArray, List.set_cons_zero, List.set_cons_succ, i64_w, i32_w]
                rfl
              refine pure_ (i := 4) (N := some 21) (v := ?_) (a' := ?_) #[true, true, true, true, true, false, false, false, false, false, false, false, false, false] rfl rfl (any_of HT_.out (by kernel_rfl)) (fun _ _ _ h => h) (Or.inl ⟨by rfl, ?_⟩) ?_ ?_
              rotate_left
              · intro w'
                go_simp
                with_reducible rfl
              rotate_left
              · simp only [Act.put, List.setIfInBounds_toArray, List.set_cons_zero, List.set_cons_succ, i64_w, i32_w]
                rfl
              refine pure_ (i := 5) (N := some 22) (v := ?_) (a' := ?_) #[true, true, true, true, true, true, false, false, false, false, false, false, false, false] rfl rfl (any_of HT_.out (by kernel_rfl)) (fun _ _ _ h => h) (Or.inl ⟨by rfl, ?_⟩) ?_ ?_
              rotate_left
              · intro w'
                go_simp
                with_reducible rfl
              rotate_left
              · simp only [Act.put, List.setIfInBounds_toArray, List.set_cons_zero, List.set_cons_succ, i64_w, i32_w]
                rfl
              refine pure_ (i := 7) (N := some 24) (v := ?_) (a' := ?_) #[true, true, true, true, true, true, false, true, false, false, false, false, false, false] rfl rfl (any_of HT_.out (by kernel_rfl)) (fun _ _ _ h => h) (Or.inl ⟨by rfl, ?_⟩) ?_ ?_
              rotate_left
              · intro w'
                go_simp
                with_reducible rfl
              rotate_left
              · simp only [Act.put, List.setIfInBounds_toArray, List.set_cons_zero, List.set_cons_succ, i64_w, i32_w]
                rfl
              refine pure_ (i := 8) (N := some 25) (v := ?_) (a' := ?_) #[true, true, true, true, true, true, false, true, true, false, false, false, false, false] rfl rfl (any_of HT_.out (by kernel_rfl)) (fun _ _ _ h => h) (Or.inl ⟨by rfl, ?_⟩) ?_ ?_
              rotate_left
              · intro w'
                go_simp
                with_reducible rfl
              rotate_left
              · simp only [Act.put, List.setIfInBounds_toArray, List.set_cons_zero, List.set_cons_succ, i64_w, i32_w]
                rfl
              refine pure_ (i := 9) (N := some 26) (v := ?_) (a' := ?_) #[true, true, true, true, true, true, false, true, true, true, false, false, false, false] rfl rfl (any_of HT_.out (by kernel_rfl)) (fun _ _ _ h => h) (Or.inl ⟨by rfl, ?_⟩) ?_ ?_
              rotate_left
              · intro w'
                go_simp
                with_reducible rfl
              rotate_left
              · simp only [Act.put, List.setIfInBounds_toArray, List.set_cons_zero, List.set_cons_succ, i64_w, i32_w]
                rfl
              refine take_ (i := 6) (N := some 23) (v := ?_) (a' := ?_) #[true, true, true, true, true, true, true, true, true, true, false, false, false, false] rfl rfl (take_ofW HT_.out HW_.out (by kernel_rfl)) (fun _ _ _ h => h) (Or.inl ⟨by rfl, ?_⟩) hHeld ?_ ?_
              rotate_left
              · rintro w' ⟨s0, s1⟩
                go_simp
                with_reducible rfl
              rotate_left
              · simp only [Act.put, List.setIfInBounds_toArray, List.set_cons_zero, List.set_cons_succ, i64_w, i32_w]
                rfl
              refine take_ (i := 10) (N := some 27) (v := ?_) (a' := ?_) #[true, true, true, true, true, true, true, true, true, true, true, false, false, false] rfl rfl (take_ofW HT_.out HW_.out (by kernel_rfl)) (fun _ _ _ h => h) (Or.inl ⟨by rfl, ?_⟩) hHeld ?_ ?_
              rotate_left
              · rintro w' ⟨s0, s1⟩
                go_simp
                with_reducible rfl
              rotate_left
              · simp only [Act.put, List.setIfInBounds_toArray, List.set_cons_zero, List.set_cons_succ, i64_w, i32_w]
                rfl
              refine one_ (i := 11) (N := some 28) #[true, true, true, true, true, true, true, true, true, true, true, true, false, false] rfl rfl (one_of HT_.out (by kernel_rfl)) (by decide) (fun K hK => ?_)
              refine goes_ Tryd.func48 (by kernel_rfl) rfl #[.int .i64 a0, .int .u64 (rd l1 x14_1), .int .u64 (rd l2 x14_1)] (by rfl) rfl rfl (by (try simp only [List.map_toArray, List.map_cons, List.map_nil]); first | done | rfl | (simp only [List.length_drop, List.length_take]; rfl) | (go_simp; done) | (go_simp; rw [Int.tmod_eq_emod_of_nonneg (by omega)]; omega)) ?_
              with_reducible refine (field_Mul.calls a0 (rd l1 x14_1) (rd l2 x14_1) t258 _ ?side1 A9.out).mono ?_
              (case side1 => repeat (first | exact (GL.below HRG.out HB.out) | (with_reducible refine GL.alloc ?_ _) | (with_reducible refine GL.drewN ?_ _) | (with_reducible refine GL.drew ?_)))
              rintro e w12 ⟨rfl, hb⟩
              refine ⟨_, rfl, ?_⟩
              have n0_ := Aside0.mk (below_step (by repeat (first | (with_reducible first | exact HB.out | apply below_alloc | apply pw_below_drewN | apply below_drew1) | exact HB.out)) hb)
              clear HB
              have HB := n0_
              clear n0_
              (try clear hb)
              (try clear hb2)
              (try clear hk)
              (try clear hi)
              refine hK.out _ _ ⟨((HB.out.cell (World.block_lt_of_cell? w _ hw256_0)).trans hw256_0), ((HB.out.cell (World.block_lt_of_cell? w _ hw257_0)).trans hw257_0)⟩ (fun hHeld => ?_)
              clear hK K
              refine norm_ (a' := ?_) ?_ ?_
              rotate_left
              · show Act.put _ (some 28) _ = _
                simp only [Act.put, List.setIfInBounds_toArray, List.set_cons_zero, List.set_cons_succ, i64_w, i32_w]
                rfl
              refine one_ (i := 12) (N := some 29) #[true, true, true, true, true, true, true, true, true, true, true, true, true, false] rfl rfl (one_of HT_.out (by kernel_rfl)) (by decide) (fun K hK => ?_)
              refine goes_ Tryd.func23 (by kernel_rfl) rfl #[.int .i64 a0, .int .u64 x7_1, .int .u64 t258] (by rfl) rfl rfl (by (try simp only [List.map_toArray, List.map_cons, List.map_nil]); first | done | rfl | (simp only [List.length_drop, List.length_take]; rfl) | (go_simp; done) | (go_simp; rw [Int.tmod_eq_emod_of_nonneg (by omega)]; omega)) ?_
              with_reducible refine (field_Add.calls a0 x7_1 t258 t259 _ ?side1 A10.out).mono ?_
              (case side1 => repeat (first | exact (GL.below HRG.out HB.out) | (with_reducible refine GL.alloc ?_ _) | (with_reducible refine GL.drewN ?_ _) | (with_reducible refine GL.drew ?_)))
              rintro e w13 ⟨rfl, hb⟩
              refine ⟨_, rfl, ?_⟩
              have n0_ := Aside0.mk (below_step (by repeat (first | (with_reducible first | exact HB.out | apply below_alloc | apply pw_below_drewN | apply below_drew1) | exact HB.out)) hb)
              clear HB
              have HB := n0_
              clear n0_
              (try clear hb)
              (try clear hb2)
              (try clear hk)
              (try clear hi)
              refine hK.out _ _ ⟨((HB.out.cell (World.block_lt_of_cell? w _ hw256_0)).trans hw256_0), ((HB.out.cell (World.block_lt_of_cell? w _ hw257_0)).trans hw257_0)⟩ (fun hHeld => ?_)
              clear hK K
              refine norm_ (a' := ?_) ?_ ?_
              rotate_left
              · show Act.put _ (some 29) _ = _
                simp only [Act.put, List.setIfInBounds_toArray, List.set_cons_zero, List.set_cons_succ, i64_w, i32_w]
                rfl
              refine pure_ (i := 13) (N := some 7) (v := ?_) (a' := ?_) #[true, true, true, true, true, true, true, true, true, true, true, true, true, true] rfl rfl (any_of HT_.out (by kernel_rfl)) (fun _ _ _ h => h) (Or.inl ⟨by rfl, ?_⟩) ?_ ?_
              rotate_left
              · intro w'
                go_simp
                with_reducible rfl
              rotate_left
              · simp only [Act.put, List.setIfInBounds_toArray, List.set_cons_zero, List.set_cons_succ, i64_w, i32_w]
                rfl
              refine done_ (done_of HT_.out (by kernel_rfl)) ?_
              try go_wp2
              go_roundg k1
              case measure => have := HK1.out; omega
              case rel => exact ⟨(t259), (wrap64 (x14_1 + 1)), (by first | rfl | (simp; done) | (simp [*]; done) | (simp; rfl) | (simp; decide +kernel)), (by first | rfl | (simp; done) | (simp [*]; done) | (simp; rfl) | (simp; decide +kernel)), H', ⟨by have := HK1.out; omega⟩, ⟨by repeat (first | (with_reducible first | exact HB.out | apply below_alloc | apply pw_below_drewN | apply below_drew1) | exact HB.out)⟩⟩
            · rw [if_neg c8] at H
              exact absurd H (by simp)
          · rw [if_neg c7] at H
            exact absurd H (by simp)
        · rw [if_neg c6] at H
          exact absurd H (by simp)
      · rw [if_neg c5] at H
        have c5b0 : decide (x14_1 < ji4) = false := decide_eq_false c5
        clear c5
        obtain rfl := Option.some.inj H
        go_wp2
        go_ret
        exact ⟨by first | rfl | (simp [errW_none, errW_some] <;> rfl) | (simp only [← hji4]; first | rfl | (simp [errW_none, errW_some] <;> rfl)) | (simp [*, errW_none, errW_some] <;> rfl), by repeat (first | (with_reducible first | exact HB.out | apply below_alloc | apply pw_below_drewN | apply below_drew1) | exact HB.out)⟩

end Go.Proofs.YtjfekjblnoagkaaDoor.Q
end
