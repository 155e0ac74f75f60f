/- Several texts in one, in build order. What they prove, each by its own first remark:
Written by our own copy of a printing program (a twelfth state) out of the translation. Not trusted: Lean checks it. -/
import Derived.Test.YtjfekjblnoagkaaDoorM2
import Derived.Test.YtjfekjblnoagkaaDoorM3
import Derived.Test.YtjfekjblnoagkaaDoorM4
section
namespace Go.Proofs.YtjfekjblnoagkaaDoor.Q
open Go.RowKit Go.Proofs.YtjfekjblnoagkaaDoorW.PrintWords Go.Proofs.YtjfekjblnoagkaaDoorW.PrintLast Go.Proofs.YtjfekjblnoagkaaDoorW.PrintMore
attribute [local go_sem] max2_int min2_int max_two min_two max_three min_three max_four min_four   -- for this text's walks alone
set_option linter.unusedVariables false
set_option linter.unusedSimpArgs false

abbrev z15_0_ : Array Bool := #[false, false, false, false, false, false, false, false, false, false, false, false]
abbrev z15_1_ : Array Bool := #[true, false, false, false, false, false, false, false, false, false, false, false]
abbrev z15_2_ : Array Bool := #[true, true, false, false, false, false, false, false, false, false, false, false]
abbrev z15_3_ : Array Bool := #[true, true, true, false, false, false, false, false, false, false, false, false]
abbrev z15_4_ : Array Bool := #[true, true, true, true, false, false, false, false, false, false, false, false]
abbrev z15_5_ : Array Bool := #[true, true, true, true, false, true, false, false, false, false, false, false]
abbrev z15_6_ : Array Bool := #[true, true, true, true, false, true, true, false, false, false, false, false]
abbrev z15_7_ : Array Bool := #[true, true, true, true, false, true, true, true, false, false, false, false]
abbrev z15_8_ : Array Bool := #[true, true, true, true, true, true, true, true, false, false, false, false]
abbrev z15_9_ : Array Bool := #[true, true, true, true, true, true, true, true, true, false, false, false]
abbrev z15_10_ : Array Bool := #[true, true, true, true, true, true, true, true, true, true, false, false]
abbrev z15_11_ : Array Bool := #[true, true, true, true, true, true, true, true, true, true, true, false]
abbrev z15_12_ : Array Bool := #[true, true, true, true, true, true, true, true, true, true, true, true]
abbrev z15_13_ : Array Bool := #[false, false, false, false, false, false, false, false, false, false, false]
abbrev z15_14_ : Array Bool := #[true, false, false, false, false, false, false, false, false, false, false]
abbrev z15_15_ : Array Bool := #[true, true, false, false, false, false, false, false, false, false, false]
abbrev z15_16_ : Array Bool := #[true, true, true, false, false, false, false, false, false, false, false]
abbrev z15_17_ : Array Bool := #[true, true, true, true, false, false, false, false, false, false, false]
abbrev z15_18_ : Array Bool := #[true, true, true, true, false, true, false, false, false, false, false]
abbrev z15_19_ : Array Bool := #[true, true, true, true, true, true, false, false, false, false, false]
abbrev z15_20_ : Array Bool := #[true, true, true, true, true, true, true, false, false, false, false]
abbrev z15_21_ : Array Bool := #[true, true, true, true, true, true, true, true, false, false, false]
abbrev z15_22_ : Array Bool := #[true, true, true, true, true, true, true, true, true, false, false]
abbrev z15_23_ : Array Bool := #[true, true, true, true, true, true, true, true, true, true, false]
abbrev z15_24_ : Array Bool := #[true, true, true, true, true, true, true, true, true, true, true]
abbrev z15_25_ : Array Bool := #[false, false, false, false, false, false, false, false, false, false, false, false, false, false, false, false]
abbrev z15_26_ : Array Bool := #[true, false, false, false, false, false, false, false, false, false, false, false, false, false, false, false]
abbrev z15_27_ : Array Bool := #[true, true, false, false, false, false, false, false, false, false, false, false, false, false, false, false]
abbrev z15_28_ : Array Bool := #[true, true, true, false, false, false, false, false, false, false, false, false, false, false, false, false]
abbrev z15_29_ : Array Bool := #[true, true, true, true, false, false, false, false, false, false, false, false, false, false, false, false]
abbrev z15_30_ : Array Bool := #[true, true, true, true, false, true, false, false, false, false, false, false, false, false, false, false]
abbrev z15_31_ : Array Bool := #[true, true, true, true, false, true, true, false, false, false, false, false, false, false, false, false]
abbrev z15_32_ : Array Bool := #[true, true, true, true, false, true, true, true, false, false, false, false, false, false, false, false]
abbrev z15_33_ : Array Bool := #[true, true, true, true, false, true, true, true, false, true, false, false, false, false, false, false]
abbrev z15_34_ : Array Bool := #[true, true, true, true, false, true, true, true, false, true, true, false, false, false, false, false]
abbrev z15_35_ : Array Bool := #[true, true, true, true, true, true, true, true, false, true, true, false, false, false, false, false]
abbrev z15_36_ : Array Bool := #[true, true, true, true, true, true, true, true, true, true, true, false, false, false, false, false]
abbrev z15_37_ : Array Bool := #[true, true, true, true, true, true, true, true, true, true, true, true, false, false, false, false]
abbrev z15_38_ : Array Bool := #[true, true, true, true, true, true, true, true, true, true, true, true, true, false, false, false]
abbrev z15_39_ : Array Bool := #[true, true, true, true, true, true, true, true, true, true, true, true, true, true, false, false]
abbrev z15_40_ : Array Bool := #[true, true, true, true, true, true, true, true, true, true, true, true, true, true, true, false]
abbrev z15_41_ : Array Bool := #[true, true, true, true, true, true, true, true, true, true, true, true, true, true, true, true]
/-! ### attestorref06_Round: function 15 -/
def attestorref06_Round.j0 : Nat → Int → Int → Bool → Int → Int → Int → Int → Option (Int × Int × Int × Int)
  | 0, _, _, _, _, _, _, _ => none
  | k + 1, x0, x1, x23, x162000, x162001, x162002, x162003 => if x23 = true then (some (0, 0, 0, 0)) else ((attestorref06_Constant.f k x0 x1 0).bind fun t164 => ((attestorref01_Add.f x0 x162000 t164).bind fun t165 => ((attestorref06_Constant.f k x0 x1 1).bind fun t166 => ((attestorref01_Add.f x0 x162001 t166).bind fun t167 => ((attestorref06_Constant.f k x0 x1 2).bind fun t168 => ((attestorref01_Add.f x0 x162002 t168).bind fun t169 => ((attestorref06_Constant.f k x0 x1 3).bind fun t170 => ((attestorref01_Add.f x0 x162003 t170).bind fun t171 => ((attestorref01_Exponent.f k x0).bind fun t172 => ((attestorref01_Pow.f k x0 t165 (IntKind.u64.wrap (t172))).bind fun t173 => ((attestorref01_Exponent.f k x0).bind fun t174 => ((attestorref01_Pow.f k x0 t167 (IntKind.u64.wrap (t174))).bind fun t175 => ((attestorref01_Exponent.f k x0).bind fun t176 => ((attestorref01_Pow.f k x0 t169 (IntKind.u64.wrap (t176))).bind fun t177 => ((attestorref01_Exponent.f k x0).bind fun t178 => ((attestorref01_Pow.f k x0 t171 (IntKind.u64.wrap (t178))).bind fun t179 => ((attestorref06_row.f 0).bind fun bt181 => ((attestorref01_Mul.f x0 bt181.1 t173).bind fun t186 => ((attestorref01_Add.f x0 0 t186).bind fun t187 => ((attestorref01_Mul.f x0 bt181.2.1 t175).bind fun t188 => ((attestorref01_Add.f x0 t187 t188).bind fun t189 => ((attestorref01_Mul.f x0 bt181.2.2.1 t177).bind fun t190 => ((attestorref01_Add.f x0 t189 t190).bind fun t191 => ((attestorref01_Mul.f x0 bt181.2.2.2 t179).bind fun t192 => ((attestorref01_Add.f x0 t191 t192).bind fun t193 => ((attestorref06_row.f 1).bind fun bt194 => ((attestorref01_Mul.f x0 bt194.1 t173).bind fun t199 => ((attestorref01_Add.f x0 0 t199).bind fun t200 => ((attestorref01_Mul.f x0 bt194.2.1 t175).bind fun t201 => ((attestorref01_Add.f x0 t200 t201).bind fun t202 => ((attestorref01_Mul.f x0 bt194.2.2.1 t177).bind fun t203 => ((attestorref01_Add.f x0 t202 t203).bind fun t204 => ((attestorref01_Mul.f x0 bt194.2.2.2 t179).bind fun t205 => ((attestorref01_Add.f x0 t204 t205).bind fun t206 => ((attestorref06_row.f 2).bind fun bt207 => ((attestorref01_Mul.f x0 bt207.1 t173).bind fun t212 => ((attestorref01_Add.f x0 0 t212).bind fun t213 => ((attestorref01_Mul.f x0 bt207.2.1 t175).bind fun t214 => ((attestorref01_Add.f x0 t213 t214).bind fun t215 => ((attestorref01_Mul.f x0 bt207.2.2.1 t177).bind fun t216 => ((attestorref01_Add.f x0 t215 t216).bind fun t217 => ((attestorref01_Mul.f x0 bt207.2.2.2 t179).bind fun t218 => ((attestorref01_Add.f x0 t217 t218).bind fun t219 => ((attestorref06_row.f 3).bind fun bt220 => ((attestorref01_Mul.f x0 bt220.1 t173).bind fun t225 => ((attestorref01_Add.f x0 0 t225).bind fun t226 => ((attestorref01_Mul.f x0 bt220.2.1 t175).bind fun t227 => ((attestorref01_Add.f x0 t226 t227).bind fun t228 => ((attestorref01_Mul.f x0 bt220.2.2.1 t177).bind fun t229 => ((attestorref01_Add.f x0 t228 t229).bind fun t230 => ((attestorref01_Mul.f x0 bt220.2.2.2 t179).bind fun t231 => ((attestorref01_Add.f x0 t230 t231).bind fun t232 => (some (t193, t206, t219, t232))))))))))))))))))))))))))))))))))))))))))))))))))))))
def attestorref06_Round.f (k : Nat) (a0 : Int) (a1 : Int) (a2_0 : Int) (a2_1 : Int) (a2_2 : Int) (a2_3 : Int) : Option (Int × Int × Int × Int) := (attestorref01_Valid.f a0).bind fun t163 => (if t163 = true then (if a1 < 0 then (attestorref06_Round.j0 k a0 a1 true a2_0 a2_1 a2_2 a2_3) else (attestorref06_Round.j0 k a0 a1 (decide (a1 > 7)) a2_0 a2_1 a2_2 a2_3)) else (attestorref06_Round.j0 k a0 a1 true a2_0 a2_1 a2_2 a2_3))
theorem attestorref06_Round.mono_l : ∀ k, (∀ y0 y1 y2 y3 y4 y5 y6, LeO (attestorref06_Round.j0 k y0 y1 y2 y3 y4 y5 y6) (attestorref06_Round.j0 (k + 1) y0 y1 y2 y3 y4 y5 y6))
  | 0 => fun _ _ _ _ _ _ _ r h => by simp [attestorref06_Round.j0] at h
  | k + 1 => by
    have ih0 := attestorref06_Round.mono_l k
    · intro y0 y1 y2 y3 y4 y5 y6
      unfold attestorref06_Round.j0
      repeat' first
      | (with_reducible exact ih0 _ _ _ _ _ _ _)
      | (with_reducible exact attestorref01_Exponent.mono _ _)
      | (with_reducible exact attestorref01_Pow.mono _ _ _ _)
      | (with_reducible exact attestorref06_Constant.mono _ _ _ _)
      | (with_reducible exact LeO.refl _)
      | (with_reducible exact LeO.none _)
      | (with_reducible refine LeO.ite ?_ ?_)
      | (with_reducible refine LeO.bind ?_ (fun _ => ?_))
      | exact ih0 _ _ _ _ _ _ _
      | exact attestorref01_Exponent.mono _ _
      | exact attestorref01_Pow.mono _ _ _ _
      | exact attestorref06_Constant.mono _ _ _ _
      | exact LeO.none _
      | refine LeO.ite ?_ ?_
      | refine LeO.bind ?_ (fun _ => ?_)
theorem attestorref06_Round.mono : ∀ a0 a1 a2 a3 a4 a5 k, LeO (attestorref06_Round.f k a0 a1 a2 a3 a4 a5) (attestorref06_Round.f (k + 1) a0 a1 a2 a3 a4 a5) := by
  intro a0 a1 a2 a3 a4 a5 k
  have ih0 := attestorref06_Round.mono_l k
  unfold attestorref06_Round.f
  repeat' first
      | (with_reducible exact ih0 _ _ _ _ _ _ _)
      | (with_reducible exact attestorref01_Exponent.mono _ _)
      | (with_reducible exact attestorref01_Pow.mono _ _ _ _)
      | (with_reducible exact attestorref06_Constant.mono _ _ _ _)
      | (with_reducible exact LeO.refl _)
      | (with_reducible exact LeO.none _)
      | (with_reducible refine LeO.ite ?_ ?_)
      | (with_reducible refine LeO.bind ?_ (fun _ => ?_))
      | exact ih0 _ _ _ _ _ _ _
      | exact attestorref01_Exponent.mono _ _
      | exact attestorref01_Pow.mono _ _ _ _
      | exact attestorref06_Constant.mono _ _ _ _
      | exact LeO.none _
      | refine LeO.ite ?_ ?_
      | refine LeO.bind ?_ (fun _ => ?_)
def attestorref06_Round.T6 : Bool × List (List Nat × List Nat) := (true, [([], []), ([], []), ([], []), ([2], [2]), ([3], [3]), ([], []), ([], []), ([], []), ([5, 6, 7], [5, 6, 7]), ([1, 4, 8, 8], [1, 4, 8]), ([0, 0, 1, 2, 3, 4, 5, 6, 7, 8, 9], [0]), ([10, 9, 9, 0, 1, 2, 3, 4, 5, 6, 7, 8, 9], [9, 10])])
def attestorref06_Round.B6 : List Nat := [0, 0, 0, 4, 12, 0, 0, 0, 224, 510, 1023, 2047]
theorem attestorref06_Round.tab6 : rtab .any (opsOf Tryd.f15 6) = attestorref06_Round.T6 := by kernel_rfl
theorem attestorref06_Round.bits6 : waitsOk attestorref06_Round.T6.2 attestorref06_Round.B6 = true := by kernel_rfl
def attestorref06_Round.T10 : Bool × List (List Nat × List Nat) := (true, [([], []), ([], []), ([], []), ([2], [2]), ([3], [3]), ([], []), ([5], [5]), ([6], [6]), ([1, 4, 7, 6], [1, 4, 7]), ([0, 0, 1, 2, 3, 4, 5, 6, 7, 8], [0]), ([9, 8, 8, 0, 1, 2, 3, 4, 5, 6, 7, 8], [8, 9])])
def attestorref06_Round.B10 : List Nat := [0, 0, 0, 4, 12, 0, 32, 96, 254, 511, 1023]
theorem attestorref06_Round.tab10 : rtab .any (opsOf Tryd.f15 10) = attestorref06_Round.T10 := by kernel_rfl
theorem attestorref06_Round.bits10 : waitsOk attestorref06_Round.T10.2 attestorref06_Round.B10 = true := by kernel_rfl
def attestorref06_Round.T19 : Bool × List (List Nat × List Nat) := (true, [([], []), ([], []), ([], []), ([2], [2]), ([3], [3]), ([], []), ([], []), ([6], [6]), ([7], [7]), ([], []), ([9], [9]), ([10], [10]), ([5, 8, 11], [5, 8, 11]), ([1, 4, 12, 12], [1, 4, 12]), ([0, 0, 1, 2, 3, 4, 5, 6, 7, 8, 9, 10, 11, 12, 13], [0]), ([14, 13, 13, 0, 1, 2, 3, 4, 5, 6, 7, 8, 9, 10, 11, 12, 13], [13, 14])])
def attestorref06_Round.B19 : List Nat := [0, 0, 0, 4, 12, 0, 0, 64, 192, 0, 512, 1536, 4064, 8190, 16383, 32767]
theorem attestorref06_Round.tab19 : rtab .any (opsOf Tryd.f15 19) = attestorref06_Round.T19 := by kernel_rfl
theorem attestorref06_Round.bits19 : waitsOk attestorref06_Round.T19.2 attestorref06_Round.B19 = true := by kernel_rfl
set_option maxHeartbeats 8000000 in
set_option maxRecDepth 100000 in
theorem attestorref06_Round.calls (k : Nat) (a0 : Int) (a1 : Int) (a2_0 : Int) (a2_1 : Int) (a2_2 : Int) (a2_3 : Int) (r1 : Int) (r2 : Int) (r3 : Int) (r4 : Int) (w : World) (h : attestorref06_Round.f k a0 a1 a2_0 a2_1 a2_2 a2_3 = some (r1, r2, r3, r4)) :
  Calls Tryd.prog 15 #[.int .i64 a0, .int .i64 a1, .agg #[.int .u64 a2_0, .int .u64 a2_1, .int .u64 a2_2, .int .u64 a2_3]] w fun e w' => e = .returned (.agg #[.int .u64 r1, .int .u64 r2, .int .u64 r3, .int .u64 r4]) ∧ Below w.heap.size w w' := by
 have hu23 := Tryd.underlying23
 have HB := Aside0.mk (Below.refl w.heap.size w)
 have H : ((attestorref01_Valid.f a0).bind fun t163 => (if t163 = true then (if a1 < 0 then (attestorref06_Round.j0 k a0 a1 true a2_0 a2_1 a2_2 a2_3) else (attestorref06_Round.j0 k a0 a1 (decide (a1 > 7)) a2_0 a2_1 a2_2 a2_3)) else (attestorref06_Round.j0 k a0 a1 true a2_0 a2_1 a2_2 a2_3))) = some (r1, r2, r3, r4) := h
 clear h
 have HC4 := Aside0.mk H
 clear H
 go_enter Tryd.func15, Tryd.ntmps15
 go_upto_region 1 with (first | ((with_reducible refine gate_dst (N := 5) rfl ?_); refine box_event ?hg (N := 5) ?hd (cs := #[.int .u64 a2_0, .int .u64 a2_1, .int .u64 a2_2, .int .u64 a2_3]) (t := 23) ?hr ?_; (case hd => rfl); (case hg => rfl); (case hr => first | (go_simp; done) | (go_simp; rfl)); intro g161 hg w5 hbox hb; have n0_ := Aside0.mk (below_step (by repeat (first | (with_reducible first | exact HB.out | apply below_alloc | apply pw_below_drewN | apply below_drew1) | exact HB.out)) hb); have n1_ := Aside0.mk (hbox); have n2_ := Aside0.mk ((by rw [hg]; exact (below_size (by repeat (first | (with_reducible first | exact HB.out | apply below_alloc | apply pw_below_drewN | apply below_drew1) | exact HB.out))) : w.heap.size ≤ g161)); have n3_ := Aside0.mk ((by rw [hg]; exact (below_size (by repeat (first | (with_reducible first | exact HB.out | apply below_alloc | apply pw_below_drewN | apply below_drew1) | exact HB.out))) : w.heap.size ≤ g161)); clear HB; have HB := n0_; have B161 := n1_; have GW161 := n2_; have GE161 := n3_; clear n0_ n1_ n2_ n3_; clear hb hbox hg) | ((with_reducible refine gate_dst (N := 6) rfl ?_); refine box_event ?hg (N := 6) ?hd (cs := #[.int .u64 0, .int .u64 0, .int .u64 0, .int .u64 0]) (t := 23) ?hr ?_; (case hd => rfl); (case hg => rfl); (case hr => first | (go_simp; done) | (go_simp; rfl)); intro g162 hg w6 hbox hb; have n0_ := Aside0.mk (blk_below (g := g161) (o := .cells #[.int .u64 a2_0, .int .u64 a2_1, .int .u64 a2_2, .int .u64 a2_3] 23 (0, 0)) (by exact B161.out) hb); have n1_ := Aside0.mk (below_step (by repeat (first | (with_reducible first | exact HB.out | apply below_alloc | apply pw_below_drewN | apply below_drew1 | refine below_set ?_ GE161.out) | exact HB.out)) hb); have n2_ := Aside0.mk (hbox); have n3_ := Aside0.mk ((by rw [hg]; exact (below_size (by repeat (first | (with_reducible first | exact HB.out | apply below_alloc | apply pw_below_drewN | apply below_drew1 | refine below_set ?_ GE161.out) | exact HB.out))) : w.heap.size ≤ g162)); have n4_ := Aside0.mk ((by rw [hg]; exact (below_size (by repeat (first | (with_reducible first | exact HB.out | apply below_alloc | apply pw_below_drewN | apply below_drew1 | refine below_set ?_ GE161.out) | exact HB.out))) : w.heap.size ≤ g162)); have n5_ := Aside0.mk ((by rw [hg]; exact Nat.ne_of_lt (blk_lt (g := g161) (o := .cells #[.int .u64 a2_0, .int .u64 a2_1, .int .u64 a2_2, .int .u64 a2_3] 23 (0, 0)) (by exact B161.out)) : g161 ≠ g162)); have n6_ := Aside0.mk ((by rw [hg]; exact Nat.ne_of_gt (blk_lt (g := g161) (o := .cells #[.int .u64 a2_0, .int .u64 a2_1, .int .u64 a2_2, .int .u64 a2_3] 23 (0, 0)) (by exact B161.out)) : g162 ≠ g161)); clear B161; clear HB; have B161 := n0_; have HB := n1_; have B162 := n2_; have GW162 := n3_; have GE162 := n4_; have NB161_162 := n5_; have NB162_161 := n6_; clear n0_ n1_ n2_ n3_ n4_ n5_ n6_; clear hb hbox hg))
 (try simp only [Act.put, sa_, sb_, sc_])
 go_cut [23] (fun v23 wc => ∃ (kq : Nat) (x23_3 : Bool), v23 = .bool x23_3 ∧ Aside0 (attestorref06_Round.j0 kq a0 a1 x23_3 a2_0 a2_1 a2_2 a2_3 = some (r1, r2, r3, r4)) ∧ Aside0 (kq ≤ k) ∧ Aside0 (wc.heap[g161]? = some (.cells #[.int .u64 a2_0, .int .u64 a2_1, .int .u64 a2_2, .int .u64 a2_3] 23 (0, 0))) ∧ Aside0 (wc.heap[g162]? = some (.cells #[.int .u64 0, .int .u64 0, .int .u64 0, .int .u64 0] 23 (0, 0))) ∧ Aside0 (Below w.heap.size w wc))
 case first =>
  have H := HC4.out
  clear HC4
  replace H := Option.bind_eq_some_iff.mp H
  obtain ⟨t163, A70, H⟩ := H
  have A7 := Aside0.mk A70
  clear A70
  by_cases c8 : t163 = true
  ·subst c8
   have H1 : (if a1 < 0 then (attestorref06_Round.j0 k a0 a1 true a2_0 a2_1 a2_2 a2_3) else (attestorref06_Round.j0 k a0 a1 (decide (a1 > 7)) a2_0 a2_1 a2_2 a2_3)) = some (r1, r2, r3, r4) := by rw [if_pos rfl] at H; exact H
   clear H
   have H := H1
   clear H1
   by_cases c9 : a1 < 0
   ·rw [if_pos c9] at H
    have c9b0 : decide (a1 < 0) = true := decide_eq_true c9
    clear c9
    (first | rw [c9b0] | (simp only [i64_w, i32_w]; rw [c9b0]) | skip)
    have H' := Aside0.mk H
    clear H
    go_wp2_with (first | ((with_reducible refine gate_callee (f := 31) rfl ?_); refine goesL_ (some 14) rfl rfl Tryd.func31 (by kernel_rfl) rfl #[.int .i64 a0] rfl (by (try simp only [List.map_toArray, List.map_cons, List.map_nil]); first | done | rfl) ?_; (with_reducible refine (attestorref01_Valid.calls a0 true _ A7.out).mono ?_); rintro e w' ⟨rfl, ⟨nd, rfl⟩⟩; refine ⟨_, rfl, ?_⟩))
    go_meet
    case rel => exact ⟨_, (true), (by first | rfl | (simp; done) | (simp [*]; done) | (simp; rfl) | (simp; decide +kernel)), H', ⟨by first | omega | exact Nat.le_refl _⟩, ⟨by exact B161.out⟩, ⟨by exact B162.out⟩, ⟨by repeat (first | (with_reducible first | exact HB.out | apply below_alloc | apply pw_below_drewN | apply below_drew1 | refine below_set ?_ GE161.out | refine below_set ?_ GE162.out) | exact HB.out)⟩⟩
   ·rw [if_neg c9] at H
    have c9b0 : decide (a1 < 0) = false := decide_eq_false c9
    clear c9
    (first | rw [c9b0] | (simp only [i64_w, i32_w]; rw [c9b0]) | skip)
    have H' := Aside0.mk H
    clear H
    go_wp2_with (first | ((with_reducible refine gate_callee (f := 31) rfl ?_); refine goesL_ (some 14) rfl rfl Tryd.func31 (by kernel_rfl) rfl #[.int .i64 a0] rfl (by (try simp only [List.map_toArray, List.map_cons, List.map_nil]); first | done | rfl) ?_; (with_reducible refine (attestorref01_Valid.calls a0 true _ A7.out).mono ?_); rintro e w' ⟨rfl, ⟨nd, rfl⟩⟩; refine ⟨_, rfl, ?_⟩))
    go_meet
    case rel => exact ⟨_, (decide (a1 > 7)), (by first | rfl | (simp; done) | (simp [*]; done) | (simp; rfl) | (simp; decide +kernel)), H', ⟨by first | omega | exact Nat.le_refl _⟩, ⟨by exact B161.out⟩, ⟨by exact B162.out⟩, ⟨by repeat (first | (with_reducible first | exact HB.out | apply below_alloc | apply pw_below_drewN | apply below_drew1 | refine below_set ?_ GE161.out | refine below_set ?_ GE162.out) | exact HB.out)⟩⟩
  ·replace c8 := Bool.eq_false_iff.mpr c8
   subst c8
   have H1 : (attestorref06_Round.j0 k a0 a1 true a2_0 a2_1 a2_2 a2_3) = some (r1, r2, r3, r4) := by rw [if_neg (show ¬ (false = true) by decide)] at H; exact H
   clear H
   have H := H1
   clear H1
   have H' := Aside0.mk H
   clear H
   go_wp2_with (first | ((with_reducible refine gate_callee (f := 31) rfl ?_); refine goesL_ (some 14) rfl rfl Tryd.func31 (by kernel_rfl) rfl #[.int .i64 a0] rfl (by (try simp only [List.map_toArray, List.map_cons, List.map_nil]); first | done | rfl) ?_; (with_reducible refine (attestorref01_Valid.calls a0 false _ A7.out).mono ?_); rintro e w' ⟨rfl, ⟨nd, rfl⟩⟩; refine ⟨_, rfl, ?_⟩))
   go_meet
   case rel => exact ⟨_, (true), (by first | rfl | (simp; done) | (simp [*]; done) | (simp; rfl) | (simp; decide +kernel)), H', ⟨by first | omega | exact Nat.le_refl _⟩, ⟨by exact B161.out⟩, ⟨by exact B162.out⟩, ⟨by repeat (first | (with_reducible first | exact HB.out | apply below_alloc | apply pw_below_drewN | apply below_drew1 | refine below_set ?_ GE161.out | refine below_set ?_ GE162.out) | exact HB.out)⟩⟩
 case rest =>
  clear HC4
  try clear c1
  try clear p2
  try clear c3
  try clear c8
  try clear c9
  try clear c9b0
  obtain ⟨kq, x23_3, rfl, HA, HJ3, B161, B162, HB⟩ := hcut
  cases kq with
  | zero => exact absurd HA.out (by simp [attestorref06_Round.j0])
  | succ kj3 =>
   have H := HA.out
   clear HA
   simp only [attestorref06_Round.j0] at H
   by_cases c10 : x23_3 = true
   ·subst c10
    have H1 : (some (0, 0, 0, 0)) = some (r1, r2, r3, r4) := by rw [if_pos rfl] at H; exact H
    clear H
    have H := H1
    clear H1
    simp only [Option.some.injEq, Prod.mk.injEq] at H
    obtain ⟨rfl, rfl, rfl, rfl⟩ := H
    have hnb11 := NB162_161.out
    have hnc11 := NB161_162.out
    have hcz12_0 : wc.cell? ⟨g162, 0, none⟩ = some (.int .u64 0) := bq_ B162 0
    have hcz12_1 : wc.cell? ⟨g162, 1, none⟩ = some (.int .u64 0) := bq_ B162 1
    have hcz12_2 : wc.cell? ⟨g162, 2, none⟩ = some (.int .u64 0) := bq_ B162 2
    have hcz12_3 : wc.cell? ⟨g162, 3, none⟩ = some (.int .u64 0) := bq_ B162 3
    have hfz12_0 := blk_frozen B162.out 0
    have hfz12_1 := blk_frozen B162.out 1
    have hfz12_2 := blk_frozen B162.out 2
    have hfz12_3 := blk_frozen B162.out 3
    go_wp2
    refine bodyPost_ret (results_cell_row rfl _ _ g162 23 #[.int .u64 0, .int .u64 0, .int .u64 0, .int .u64 0] (0, 0) _ rfl (by refine blk_put (cs := #[.int .u64 0, .int .u64 0, .int .u64 0, .int .u64 0]) ?_ 3 _ rfl; refine blk_put (cs := #[.int .u64 0, .int .u64 0, .int .u64 0, .int .u64 0]) ?_ 2 _ rfl; refine blk_put (cs := #[.int .u64 0, .int .u64 0, .int .u64 0, .int .u64 0]) ?_ 1 _ rfl; refine blk_put (cs := #[.int .u64 0, .int .u64 0, .int .u64 0, .int .u64 0]) ?_ 0 _ rfl; exact B162.out) Tryd.underlying23 rfl (by kernel_rfl)) rfl ?_
    exact ⟨by first | rfl | (simp [errW_none, errW_some] <;> rfl) | (simp [*, errW_none, errW_some] <;> rfl), by repeat (first | (with_reducible first | exact HB.out | apply below_alloc | apply pw_below_drewN | apply below_drew1 | refine below_set ?_ GE161.out | refine below_set ?_ GE162.out) | exact HB.out)⟩
   ·replace c10 := Bool.eq_false_iff.mpr c10
    subst c10
    have H1 : ((attestorref06_Constant.f kj3 a0 a1 0).bind fun t164 => ((attestorref01_Add.f a0 a2_0 t164).bind fun t165 => ((attestorref06_Constant.f kj3 a0 a1 1).bind fun t166 => ((attestorref01_Add.f a0 a2_1 t166).bind fun t167 => ((attestorref06_Constant.f kj3 a0 a1 2).bind fun t168 => ((attestorref01_Add.f a0 a2_2 t168).bind fun t169 => ((attestorref06_Constant.f kj3 a0 a1 3).bind fun t170 => ((attestorref01_Add.f a0 a2_3 t170).bind fun t171 => ((attestorref01_Exponent.f kj3 a0).bind fun t172 => ((attestorref01_Pow.f kj3 a0 t165 (IntKind.u64.wrap (t172))).bind fun t173 => ((attestorref01_Exponent.f kj3 a0).bind fun t174 => ((attestorref01_Pow.f kj3 a0 t167 (IntKind.u64.wrap (t174))).bind fun t175 => ((attestorref01_Exponent.f kj3 a0).bind fun t176 => ((attestorref01_Pow.f kj3 a0 t169 (IntKind.u64.wrap (t176))).bind fun t177 => ((attestorref01_Exponent.f kj3 a0).bind fun t178 => ((attestorref01_Pow.f kj3 a0 t171 (IntKind.u64.wrap (t178))).bind fun t179 => ((attestorref06_row.f 0).bind fun bt181 => ((attestorref01_Mul.f a0 bt181.1 t173).bind fun t186 => ((attestorref01_Add.f a0 0 t186).bind fun t187 => ((attestorref01_Mul.f a0 bt181.2.1 t175).bind fun t188 => ((attestorref01_Add.f a0 t187 t188).bind fun t189 => ((attestorref01_Mul.f a0 bt181.2.2.1 t177).bind fun t190 => ((attestorref01_Add.f a0 t189 t190).bind fun t191 => ((attestorref01_Mul.f a0 bt181.2.2.2 t179).bind fun t192 => ((attestorref01_Add.f a0 t191 t192).bind fun t193 => ((attestorref06_row.f 1).bind fun bt194 => ((attestorref01_Mul.f a0 bt194.1 t173).bind fun t199 => ((attestorref01_Add.f a0 0 t199).bind fun t200 => ((attestorref01_Mul.f a0 bt194.2.1 t175).bind fun t201 => ((attestorref01_Add.f a0 t200 t201).bind fun t202 => ((attestorref01_Mul.f a0 bt194.2.2.1 t177).bind fun t203 => ((attestorref01_Add.f a0 t202 t203).bind fun t204 => ((attestorref01_Mul.f a0 bt194.2.2.2 t179).bind fun t205 => ((attestorref01_Add.f a0 t204 t205).bind fun t206 => ((attestorref06_row.f 2).bind fun bt207 => ((attestorref01_Mul.f a0 bt207.1 t173).bind fun t212 => ((attestorref01_Add.f a0 0 t212).bind fun t213 => ((attestorref01_Mul.f a0 bt207.2.1 t175).bind fun t214 => ((attestorref01_Add.f a0 t213 t214).bind fun t215 => ((attestorref01_Mul.f a0 bt207.2.2.1 t177).bind fun t216 => ((attestorref01_Add.f a0 t215 t216).bind fun t217 => ((attestorref01_Mul.f a0 bt207.2.2.2 t179).bind fun t218 => ((attestorref01_Add.f a0 t217 t218).bind fun t219 => ((attestorref06_row.f 3).bind fun bt220 => ((attestorref01_Mul.f a0 bt220.1 t173).bind fun t225 => ((attestorref01_Add.f a0 0 t225).bind fun t226 => ((attestorref01_Mul.f a0 bt220.2.1 t175).bind fun t227 => ((attestorref01_Add.f a0 t226 t227).bind fun t228 => ((attestorref01_Mul.f a0 bt220.2.2.1 t177).bind fun t229 => ((attestorref01_Add.f a0 t228 t229).bind fun t230 => ((attestorref01_Mul.f a0 bt220.2.2.2 t179).bind fun t231 => ((attestorref01_Add.f a0 t230 t231).bind fun t232 => (some (t193, t206, t219, t232)))))))))))))))))))))))))))))))))))))))))))))))))))))) = some (r1, r2, r3, r4) := by rw [if_neg (show ¬ (false = true) by decide)] at H; exact H
    clear H
    have H := H1
    clear H1
    have HC13 := Aside0.mk H
    clear H
    go_wp2
    refine wp_loop_rounds 5 ?_
    rw [rounds_succ]
    have H := HC13.out
    clear HC13
    replace H := Option.bind_eq_some_iff.mp H
    obtain ⟨t164, A140, H⟩ := H
    (try dsimp only at H)
    have A14 := Aside0.mk A140
    clear A140
    replace H := Option.bind_eq_some_iff.mp H
    obtain ⟨t165, A150, H⟩ := H
    (try dsimp only at H)
    have A15 := Aside0.mk A150
    clear A150
    have HC16 := Aside0.mk H
    clear H
    try go_wp2
    have n0_ := Aside0.mk (blk_drew B161.out)
    have n1_ := Aside0.mk (blk_drew B162.out)
    have n2_ := Aside0.mk (below_drew1 HB.out)
    clear B161
    clear B162
    clear HB
    have B161 := n0_
    have B162 := n1_
    have HB := n2_
    clear n0_ n1_ n2_
    refine start_ (n := 12) (S := fun w' => w'.cell? ⟨g161, 0, none⟩ = some (.int .u64 a2_0) ∧ w'.cell? ⟨g161, 1, none⟩ = some (.int .u64 a2_1) ∧ w'.cell? ⟨g161, 2, none⟩ = some (.int .u64 a2_2) ∧ w'.cell? ⟨g161, 3, none⟩ = some (.int .u64 a2_3)) (ds := [11]) z15_0_ (by kernel_rfl) rfl rfl ⟨bq_ B161 0, bq_ B161 1, bq_ B161 2, bq_ B161 3⟩ (fun hL => ?_); refine with_tabW attestorref06_Round.tab6 attestorref06_Round.bits6 (fun T_ W_ => ?_)
    generalize wc.drew = w17 at B161 B162 HB hL ⊢
    refine pure_ (i := 0) (N := some 29) (v := ?_) (a' := ?_) z15_1_ rfl rfl (any_of T_.out (by kernel_rfl)) (fun _ _ _ h => h) (Or.inl ⟨by rfl, ?_⟩) ?_ ?_
    rotate_left; · intro w'; go_simp; with_reducible rfl
    rotate_left; · simp only [Act.put, sa_, sb_, sc_, i64_w, i32_w]; rfl
    refine pure_ (i := 1) (N := some 30) (v := ?_) (a' := ?_) z15_2_ rfl rfl (any_of T_.out (by kernel_rfl)) (fun _ _ _ h => h) (Or.inl ⟨by rfl, ?_⟩) ?_ ?_
    rotate_left; · intro w'; go_simp; with_reducible rfl
    rotate_left; · simp only [Act.put, sa_, sb_, sc_, i64_w, i32_w]; rfl
    refine pure_ (i := 2) (N := some 31) (v := ?_) (a' := ?_) z15_3_ rfl rfl (any_of T_.out (by kernel_rfl)) (fun _ _ _ h => h) (Or.inl ⟨by rfl, ?_⟩) ?_ ?_
    rotate_left; · intro w'; go_simp; with_reducible rfl
    rotate_left; · simp only [Act.put, sa_, sb_, sc_, i64_w, i32_w]; rfl
    refine pure_ (i := 3) (N := some 32) (v := ?_) (a' := ?_) z15_4_ rfl rfl (any_of T_.out (by kernel_rfl)) (fun _ _ _ h => h) (Or.inl ⟨by rfl, ?_⟩) ?_ ?_
    rotate_left; · intro w'; go_simp; with_reducible rfl
    rotate_left; · simp only [Act.put, sa_, sb_, sc_, i64_w, i32_w]; rfl
    refine pure_ (i := 5) (N := some 34) (v := ?_) (a' := ?_) z15_5_ rfl rfl (any_of T_.out (by kernel_rfl)) (fun _ _ _ h => h) (Or.inl ⟨by rfl, ?_⟩) ?_ ?_
    rotate_left; · intro w'; go_simp; with_reducible rfl
    rotate_left; · simp only [Act.put, sa_, sb_, sc_, i64_w, i32_w]; rfl
    refine pure_ (i := 6) (N := some 35) (v := ?_) (a' := ?_) z15_6_ rfl rfl (any_of T_.out (by kernel_rfl)) (fun _ _ _ h => h) (Or.inl ⟨by rfl, ?_⟩) ?_ ?_
    rotate_left; · intro w'; go_simp; with_reducible rfl
    rotate_left; · simp only [Act.put, sa_, sb_, sc_, i64_w, i32_w]; rfl
    refine pure_ (i := 7) (N := some 36) (v := ?_) (a' := ?_) z15_7_ rfl rfl (any_of T_.out (by kernel_rfl)) (fun _ _ _ h => h) (Or.inl ⟨by rfl, ?_⟩) ?_ ?_
    rotate_left; · intro w'; go_simp; with_reducible rfl
    rotate_left; · simp only [Act.put, sa_, sb_, sc_, i64_w, i32_w]; rfl
    refine take_ (i := 4) (N := some 33) (v := ?_) (a' := ?_) z15_8_ rfl rfl (take_ofW T_.out W_.out (by kernel_rfl)) (fun _ _ _ h => h) (Or.inl ⟨by rfl, ?_⟩) hL ?_ ?_
    rotate_left
    ·rintro w' ⟨s0, s1, s2, s3⟩
     go_simp
     with_reducible rfl
    rotate_left
    ·simp only [Act.put, sa_, sb_, sc_, i64_w, i32_w]
     rfl
    refine one_ (i := 8) (N := some 37) z15_9_ rfl rfl (one_of T_.out (by kernel_rfl)) (by decide) (fun K hK => ?_)
    refine goes_ Tryd.func13 (by kernel_rfl) rfl #[.int .i64 a0, .int .i64 a1, .int .i64 0] (by rfl) rfl rfl (by (try simp only [List.map_toArray, List.map_cons, List.map_nil]); first | done | rfl) ?_
    with_reducible refine (attestorref06_Constant.calls kj3 a0 a1 0 t164 _ A14.out).mono ?_
    rintro e w' ⟨rfl, ⟨nd, rfl⟩⟩
    refine ⟨_, rfl, ?_⟩
    (try (rw [drewN_self w17]; generalize q_ : World.drewN w17 _ = w17; replace B161 := ra_ q_ B161; replace B162 := ra_ q_ B162; replace HB := rb_ q_ HB; clear q_))
    refine hK.out _ _ ⟨bq_ B161 0, bq_ B161 1, bq_ B161 2, bq_ B161 3⟩ (fun hL => ?_)
    clear hK K
    refine norm_ (a' := ?_) ?_ ?_
    rotate_left
    ·show Act.put _ (some 37) _ = _
     simp only [Act.put, sa_, sb_, sc_, i64_w, i32_w]
     rfl
    refine one_ (i := 9) (N := some 38) z15_10_ rfl rfl (one_of T_.out (by kernel_rfl)) (by decide) (fun K hK => ?_)
    refine goes_ Tryd.func32 (by kernel_rfl) rfl #[.int .i64 a0, .int .u64 a2_0, .int .u64 t164] (by rfl) rfl rfl (by (try simp only [List.map_toArray, List.map_cons, List.map_nil]); first | done | rfl) ?_
    with_reducible refine (attestorref01_Add.calls a0 a2_0 t164 t165 _ A15.out).mono ?_
    rintro e w' ⟨rfl, ⟨nd, rfl⟩⟩
    refine ⟨_, rfl, ?_⟩
    (try (rw [drewN_self w17]; generalize q_ : World.drewN w17 _ = w17; replace B161 := ra_ q_ B161; replace B162 := ra_ q_ B162; replace HB := rb_ q_ HB; clear q_))
    refine hK.out _ _ ⟨bq_ B161 0, bq_ B161 1, bq_ B161 2, bq_ B161 3⟩ (fun hL => ?_)
    clear hK K
    refine norm_ (a' := ?_) ?_ ?_
    rotate_left
    ·show Act.put _ (some 38) _ = _
     simp only [Act.put, sa_, sb_, sc_, i64_w, i32_w]
     rfl
    refine pure_ (i := 10) (N := some 39) (v := ?_) (a' := ?_) z15_11_ rfl rfl (any_of T_.out (by kernel_rfl)) (fun _ _ _ h => h) (Or.inl ⟨by rfl, ?_⟩) ?_ ?_
    rotate_left; · intro w'; go_simp; with_reducible rfl
    rotate_left; · simp only [Act.put, sa_, sb_, sc_, i64_w, i32_w]; rfl
    refine last_ (i := 11) (N := none) z15_12_ rfl rfl (one_of T_.out (by kernel_rfl)) (by decide) (fun K hK => ?_)
    have hs18 : w17.cell? ⟨g161, 0, none⟩ = some (.int .u64 a2_0) := bq_ B161 0
    have hfs18 := blk_frozen B161.out 0
    have hns18_1 := NB162_161.out
    have hms18_1 := NB161_162.out
    refine skip_ (w1 := ?_) (by rfl) rfl ?_ ?_
    rotate_left
    ·go_simp
     rfl
    refine hK.out _ _ ?_
    clear hK K
    refine done_ (done_of T_.out (by kernel_rfl)) ?_
    try go_wp2
    rw [rounds_succ]
    have H := HC16.out
    clear HC16
    replace H := Option.bind_eq_some_iff.mp H
    obtain ⟨t166, A190, H⟩ := H
    (try dsimp only at H)
    have A19 := Aside0.mk A190
    clear A190
    replace H := Option.bind_eq_some_iff.mp H
    obtain ⟨t167, A200, H⟩ := H
    (try dsimp only at H)
    have A20 := Aside0.mk A200
    clear A200
    have HC21 := Aside0.mk H
    clear H
    try go_wp2
    have n0_ : Aside0 ((w17.setCell ⟨g161, 0, none⟩ (.int .u64 t165)).heap[g161]? = some (.cells #[.int .u64 t165, .int .u64 a2_1, .int .u64 a2_2, .int .u64 a2_3] 23 (0, 0))) := ⟨by refine blk_put (cs := #[.int .u64 a2_0, .int .u64 a2_1, .int .u64 a2_2, .int .u64 a2_3]) ?_ 0 _ rfl; exact B161.out⟩
    have n1_ := bf_ B162 NB162_161 ⟨g161, 0, none⟩ (.int .u64 t165) rfl
    have n2_ : Aside0 (Below w.heap.size w (w17.setCell ⟨g161, 0, none⟩ (.int .u64 t165))) := ⟨by repeat (first | (with_reducible first | exact HB.out | apply below_alloc | apply pw_below_drewN | apply below_drew1 | refine below_set ?_ GE161.out | refine below_set ?_ GE162.out) | exact HB.out)⟩
    (try clear B161)
    (try clear B162)
    (try clear HB)
    generalize (w17.setCell ⟨g161, 0, none⟩ (.int .u64 t165)) = w22 at n0_ n1_ n2_ ⊢
    have B161 := n0_
    have B162 := n1_
    have HB := n2_
    clear n0_ n1_ n2_
    have n0_ := Aside0.mk (blk_drew B161.out)
    have n1_ := Aside0.mk (blk_drew B162.out)
    have n2_ := Aside0.mk (below_drew1 HB.out)
    clear B161
    clear B162
    clear HB
    have B161 := n0_
    have B162 := n1_
    have HB := n2_
    clear n0_ n1_ n2_
    refine start_ (n := 12) (S := fun w' => w'.cell? ⟨g161, 0, none⟩ = some (.int .u64 t165) ∧ w'.cell? ⟨g161, 1, none⟩ = some (.int .u64 a2_1) ∧ w'.cell? ⟨g161, 2, none⟩ = some (.int .u64 a2_2) ∧ w'.cell? ⟨g161, 3, none⟩ = some (.int .u64 a2_3)) (ds := [11]) z15_0_ (by kernel_rfl) rfl rfl ⟨bq_ B161 0, bq_ B161 1, bq_ B161 2, bq_ B161 3⟩ (fun hL => ?_); refine with_tabW attestorref06_Round.tab6 attestorref06_Round.bits6 (fun T_ W_ => ?_)
    generalize w22.drew = w23 at B161 B162 HB hL ⊢
    refine pure_ (i := 0) (N := some 29) (v := ?_) (a' := ?_) z15_1_ rfl rfl (any_of T_.out (by kernel_rfl)) (fun _ _ _ h => h) (Or.inl ⟨by rfl, ?_⟩) ?_ ?_
    rotate_left; · intro w'; go_simp; with_reducible rfl
    rotate_left; · simp only [Act.put, sa_, sb_, sc_, i64_w, i32_w]; rfl
    refine pure_ (i := 1) (N := some 30) (v := ?_) (a' := ?_) z15_2_ rfl rfl (any_of T_.out (by kernel_rfl)) (fun _ _ _ h => h) (Or.inl ⟨by rfl, ?_⟩) ?_ ?_
    rotate_left; · intro w'; go_simp; with_reducible rfl
    rotate_left; · simp only [Act.put, sa_, sb_, sc_, i64_w, i32_w]; rfl
    refine pure_ (i := 2) (N := some 31) (v := ?_) (a' := ?_) z15_3_ rfl rfl (any_of T_.out (by kernel_rfl)) (fun _ _ _ h => h) (Or.inl ⟨by rfl, ?_⟩) ?_ ?_
    rotate_left; · intro w'; go_simp; with_reducible rfl
    rotate_left; · simp only [Act.put, sa_, sb_, sc_, i64_w, i32_w]; rfl
    refine pure_ (i := 3) (N := some 32) (v := ?_) (a' := ?_) z15_4_ rfl rfl (any_of T_.out (by kernel_rfl)) (fun _ _ _ h => h) (Or.inl ⟨by rfl, ?_⟩) ?_ ?_
    rotate_left; · intro w'; go_simp; with_reducible rfl
    rotate_left; · simp only [Act.put, sa_, sb_, sc_, i64_w, i32_w]; rfl
    refine pure_ (i := 5) (N := some 34) (v := ?_) (a' := ?_) z15_5_ rfl rfl (any_of T_.out (by kernel_rfl)) (fun _ _ _ h => h) (Or.inl ⟨by rfl, ?_⟩) ?_ ?_
    rotate_left; · intro w'; go_simp; with_reducible rfl
    rotate_left; · simp only [Act.put, sa_, sb_, sc_, i64_w, i32_w]; rfl
    refine pure_ (i := 6) (N := some 35) (v := ?_) (a' := ?_) z15_6_ rfl rfl (any_of T_.out (by kernel_rfl)) (fun _ _ _ h => h) (Or.inl ⟨by rfl, ?_⟩) ?_ ?_
    rotate_left; · intro w'; go_simp; with_reducible rfl
    rotate_left; · simp only [Act.put, sa_, sb_, sc_, i64_w, i32_w]; rfl
    refine pure_ (i := 7) (N := some 36) (v := ?_) (a' := ?_) z15_7_ rfl rfl (any_of T_.out (by kernel_rfl)) (fun _ _ _ h => h) (Or.inl ⟨by rfl, ?_⟩) ?_ ?_
    rotate_left; · intro w'; go_simp; with_reducible rfl
    rotate_left; · simp only [Act.put, sa_, sb_, sc_, i64_w, i32_w]; rfl
    refine take_ (i := 4) (N := some 33) (v := ?_) (a' := ?_) z15_8_ rfl rfl (take_ofW T_.out W_.out (by kernel_rfl)) (fun _ _ _ h => h) (Or.inl ⟨by rfl, ?_⟩) hL ?_ ?_
    rotate_left
    ·rintro w' ⟨s0, s1, s2, s3⟩
     go_simp
     with_reducible rfl
    rotate_left
    ·simp only [Act.put, sa_, sb_, sc_, i64_w, i32_w]
     rfl
    refine one_ (i := 8) (N := some 37) z15_9_ rfl rfl (one_of T_.out (by kernel_rfl)) (by decide) (fun K hK => ?_)
    refine goes_ Tryd.func13 (by kernel_rfl) rfl #[.int .i64 a0, .int .i64 a1, .int .i64 1] (by rfl) rfl rfl (by (try simp only [List.map_toArray, List.map_cons, List.map_nil]); first | done | rfl) ?_
    with_reducible refine (attestorref06_Constant.calls kj3 a0 a1 1 t166 _ A19.out).mono ?_
    rintro e w' ⟨rfl, ⟨nd, rfl⟩⟩
    refine ⟨_, rfl, ?_⟩
    (try (rw [drewN_self w23]; generalize q_ : World.drewN w23 _ = w23; replace B161 := ra_ q_ B161; replace B162 := ra_ q_ B162; replace HB := rb_ q_ HB; clear q_))
    refine hK.out _ _ ⟨bq_ B161 0, bq_ B161 1, bq_ B161 2, bq_ B161 3⟩ (fun hL => ?_)
    clear hK K
    refine norm_ (a' := ?_) ?_ ?_
    rotate_left
    ·show Act.put _ (some 37) _ = _
     simp only [Act.put, sa_, sb_, sc_, i64_w, i32_w]
     rfl
    refine one_ (i := 9) (N := some 38) z15_10_ rfl rfl (one_of T_.out (by kernel_rfl)) (by decide) (fun K hK => ?_)
    refine goes_ Tryd.func32 (by kernel_rfl) rfl #[.int .i64 a0, .int .u64 a2_1, .int .u64 t166] (by rfl) rfl rfl (by (try simp only [List.map_toArray, List.map_cons, List.map_nil]); first | done | rfl) ?_
    with_reducible refine (attestorref01_Add.calls a0 a2_1 t166 t167 _ A20.out).mono ?_
    rintro e w' ⟨rfl, ⟨nd, rfl⟩⟩
    refine ⟨_, rfl, ?_⟩
    (try (rw [drewN_self w23]; generalize q_ : World.drewN w23 _ = w23; replace B161 := ra_ q_ B161; replace B162 := ra_ q_ B162; replace HB := rb_ q_ HB; clear q_))
    refine hK.out _ _ ⟨bq_ B161 0, bq_ B161 1, bq_ B161 2, bq_ B161 3⟩ (fun hL => ?_)
    clear hK K
    refine norm_ (a' := ?_) ?_ ?_
    rotate_left
    ·show Act.put _ (some 38) _ = _
     simp only [Act.put, sa_, sb_, sc_, i64_w, i32_w]
     rfl
    refine pure_ (i := 10) (N := some 39) (v := ?_) (a' := ?_) z15_11_ rfl rfl (any_of T_.out (by kernel_rfl)) (fun _ _ _ h => h) (Or.inl ⟨by rfl, ?_⟩) ?_ ?_
    rotate_left; · intro w'; go_simp; with_reducible rfl
    rotate_left; · simp only [Act.put, sa_, sb_, sc_, i64_w, i32_w]; rfl
    refine last_ (i := 11) (N := none) z15_12_ rfl rfl (one_of T_.out (by kernel_rfl)) (by decide) (fun K hK => ?_)
    have hs24 : w23.cell? ⟨g161, 1, none⟩ = some (.int .u64 a2_1) := bq_ B161 1
    have hfs24 := blk_frozen B161.out 1
    have hns24_1 := NB162_161.out
    have hms24_1 := NB161_162.out
    refine skip_ (w1 := ?_) (by rfl) rfl ?_ ?_
    rotate_left
    ·go_simp
     rfl
    refine hK.out _ _ ?_
    clear hK K
    refine done_ (done_of T_.out (by kernel_rfl)) ?_
    try go_wp2
    rw [rounds_succ]
    have H := HC21.out
    clear HC21
    replace H := Option.bind_eq_some_iff.mp H
    obtain ⟨t168, A250, H⟩ := H
    (try dsimp only at H)
    have A25 := Aside0.mk A250
    clear A250
    replace H := Option.bind_eq_some_iff.mp H
    obtain ⟨t169, A260, H⟩ := H
    (try dsimp only at H)
    have A26 := Aside0.mk A260
    clear A260
    have HC27 := Aside0.mk H
    clear H
    try go_wp2
    have n0_ : Aside0 ((w23.setCell ⟨g161, 1, none⟩ (.int .u64 t167)).heap[g161]? = some (.cells #[.int .u64 t165, .int .u64 t167, .int .u64 a2_2, .int .u64 a2_3] 23 (0, 0))) := ⟨by refine blk_put (cs := #[.int .u64 t165, .int .u64 a2_1, .int .u64 a2_2, .int .u64 a2_3]) ?_ 1 _ rfl; exact B161.out⟩
    have n1_ := bf_ B162 NB162_161 ⟨g161, 1, none⟩ (.int .u64 t167) rfl
    have n2_ : Aside0 (Below w.heap.size w (w23.setCell ⟨g161, 1, none⟩ (.int .u64 t167))) := ⟨by repeat (first | (with_reducible first | exact HB.out | apply below_alloc | apply pw_below_drewN | apply below_drew1 | refine below_set ?_ GE161.out | refine below_set ?_ GE162.out) | exact HB.out)⟩
    (try clear B161)
    (try clear B162)
    (try clear HB)
    generalize (w23.setCell ⟨g161, 1, none⟩ (.int .u64 t167)) = w28 at n0_ n1_ n2_ ⊢
    have B161 := n0_
    have B162 := n1_
    have HB := n2_
    clear n0_ n1_ n2_
    have n0_ := Aside0.mk (blk_drew B161.out)
    have n1_ := Aside0.mk (blk_drew B162.out)
    have n2_ := Aside0.mk (below_drew1 HB.out)
    clear B161
    clear B162
    clear HB
    have B161 := n0_
    have B162 := n1_
    have HB := n2_
    clear n0_ n1_ n2_
    refine start_ (n := 12) (S := fun w' => w'.cell? ⟨g161, 0, none⟩ = some (.int .u64 t165) ∧ w'.cell? ⟨g161, 1, none⟩ = some (.int .u64 t167) ∧ w'.cell? ⟨g161, 2, none⟩ = some (.int .u64 a2_2) ∧ w'.cell? ⟨g161, 3, none⟩ = some (.int .u64 a2_3)) (ds := [11]) z15_0_ (by kernel_rfl) rfl rfl ⟨bq_ B161 0, bq_ B161 1, bq_ B161 2, bq_ B161 3⟩ (fun hL => ?_); refine with_tabW attestorref06_Round.tab6 attestorref06_Round.bits6 (fun T_ W_ => ?_)
    generalize w28.drew = w29 at B161 B162 HB hL ⊢
    refine pure_ (i := 0) (N := some 29) (v := ?_) (a' := ?_) z15_1_ rfl rfl (any_of T_.out (by kernel_rfl)) (fun _ _ _ h => h) (Or.inl ⟨by rfl, ?_⟩) ?_ ?_
    rotate_left; · intro w'; go_simp; with_reducible rfl
    rotate_left; · simp only [Act.put, sa_, sb_, sc_, i64_w, i32_w]; rfl
    refine pure_ (i := 1) (N := some 30) (v := ?_) (a' := ?_) z15_2_ rfl rfl (any_of T_.out (by kernel_rfl)) (fun _ _ _ h => h) (Or.inl ⟨by rfl, ?_⟩) ?_ ?_
    rotate_left; · intro w'; go_simp; with_reducible rfl
    rotate_left; · simp only [Act.put, sa_, sb_, sc_, i64_w, i32_w]; rfl
    refine pure_ (i := 2) (N := some 31) (v := ?_) (a' := ?_) z15_3_ rfl rfl (any_of T_.out (by kernel_rfl)) (fun _ _ _ h => h) (Or.inl ⟨by rfl, ?_⟩) ?_ ?_
    rotate_left; · intro w'; go_simp; with_reducible rfl
    rotate_left; · simp only [Act.put, sa_, sb_, sc_, i64_w, i32_w]; rfl
    refine pure_ (i := 3) (N := some 32) (v := ?_) (a' := ?_) z15_4_ rfl rfl (any_of T_.out (by kernel_rfl)) (fun _ _ _ h => h) (Or.inl ⟨by rfl, ?_⟩) ?_ ?_
    rotate_left; · intro w'; go_simp; with_reducible rfl
    rotate_left; · simp only [Act.put, sa_, sb_, sc_, i64_w, i32_w]; rfl
    refine pure_ (i := 5) (N := some 34) (v := ?_) (a' := ?_) z15_5_ rfl rfl (any_of T_.out (by kernel_rfl)) (fun _ _ _ h => h) (Or.inl ⟨by rfl, ?_⟩) ?_ ?_
    rotate_left; · intro w'; go_simp; with_reducible rfl
    rotate_left; · simp only [Act.put, sa_, sb_, sc_, i64_w, i32_w]; rfl
    refine pure_ (i := 6) (N := some 35) (v := ?_) (a' := ?_) z15_6_ rfl rfl (any_of T_.out (by kernel_rfl)) (fun _ _ _ h => h) (Or.inl ⟨by rfl, ?_⟩) ?_ ?_
    rotate_left; · intro w'; go_simp; with_reducible rfl
    rotate_left; · simp only [Act.put, sa_, sb_, sc_, i64_w, i32_w]; rfl
    refine pure_ (i := 7) (N := some 36) (v := ?_) (a' := ?_) z15_7_ rfl rfl (any_of T_.out (by kernel_rfl)) (fun _ _ _ h => h) (Or.inl ⟨by rfl, ?_⟩) ?_ ?_
    rotate_left; · intro w'; go_simp; with_reducible rfl
    rotate_left; · simp only [Act.put, sa_, sb_, sc_, i64_w, i32_w]; rfl
    refine take_ (i := 4) (N := some 33) (v := ?_) (a' := ?_) z15_8_ rfl rfl (take_ofW T_.out W_.out (by kernel_rfl)) (fun _ _ _ h => h) (Or.inl ⟨by rfl, ?_⟩) hL ?_ ?_
    rotate_left
    ·rintro w' ⟨s0, s1, s2, s3⟩
     go_simp
     with_reducible rfl
    rotate_left
    ·simp only [Act.put, sa_, sb_, sc_, i64_w, i32_w]
     rfl
    refine one_ (i := 8) (N := some 37) z15_9_ rfl rfl (one_of T_.out (by kernel_rfl)) (by decide) (fun K hK => ?_)
    refine goes_ Tryd.func13 (by kernel_rfl) rfl #[.int .i64 a0, .int .i64 a1, .int .i64 2] (by rfl) rfl rfl (by (try simp only [List.map_toArray, List.map_cons, List.map_nil]); first | done | rfl) ?_
    with_reducible refine (attestorref06_Constant.calls kj3 a0 a1 2 t168 _ A25.out).mono ?_
    rintro e w' ⟨rfl, ⟨nd, rfl⟩⟩
    refine ⟨_, rfl, ?_⟩
    (try (rw [drewN_self w29]; generalize q_ : World.drewN w29 _ = w29; replace B161 := ra_ q_ B161; replace B162 := ra_ q_ B162; replace HB := rb_ q_ HB; clear q_))
    refine hK.out _ _ ⟨bq_ B161 0, bq_ B161 1, bq_ B161 2, bq_ B161 3⟩ (fun hL => ?_)
    clear hK K
    refine norm_ (a' := ?_) ?_ ?_
    rotate_left
    ·show Act.put _ (some 37) _ = _
     simp only [Act.put, sa_, sb_, sc_, i64_w, i32_w]
     rfl
    refine one_ (i := 9) (N := some 38) z15_10_ rfl rfl (one_of T_.out (by kernel_rfl)) (by decide) (fun K hK => ?_)
    refine goes_ Tryd.func32 (by kernel_rfl) rfl #[.int .i64 a0, .int .u64 a2_2, .int .u64 t168] (by rfl) rfl rfl (by (try simp only [List.map_toArray, List.map_cons, List.map_nil]); first | done | rfl) ?_
    with_reducible refine (attestorref01_Add.calls a0 a2_2 t168 t169 _ A26.out).mono ?_
    rintro e w' ⟨rfl, ⟨nd, rfl⟩⟩
    refine ⟨_, rfl, ?_⟩
    (try (rw [drewN_self w29]; generalize q_ : World.drewN w29 _ = w29; replace B161 := ra_ q_ B161; replace B162 := ra_ q_ B162; replace HB := rb_ q_ HB; clear q_))
    refine hK.out _ _ ⟨bq_ B161 0, bq_ B161 1, bq_ B161 2, bq_ B161 3⟩ (fun hL => ?_)
    clear hK K
    refine norm_ (a' := ?_) ?_ ?_
    rotate_left
    ·show Act.put _ (some 38) _ = _
     simp only [Act.put, sa_, sb_, sc_, i64_w, i32_w]
     rfl
    refine pure_ (i := 10) (N := some 39) (v := ?_) (a' := ?_) z15_11_ rfl rfl (any_of T_.out (by kernel_rfl)) (fun _ _ _ h => h) (Or.inl ⟨by rfl, ?_⟩) ?_ ?_
    rotate_left; · intro w'; go_simp; with_reducible rfl
    rotate_left; · simp only [Act.put, sa_, sb_, sc_, i64_w, i32_w]; rfl
    refine last_ (i := 11) (N := none) z15_12_ rfl rfl (one_of T_.out (by kernel_rfl)) (by decide) (fun K hK => ?_)
    have hs30 : w29.cell? ⟨g161, 2, none⟩ = some (.int .u64 a2_2) := bq_ B161 2
    have hfs30 := blk_frozen B161.out 2
    have hns30_1 := NB162_161.out
    have hms30_1 := NB161_162.out
    refine skip_ (w1 := ?_) (by rfl) rfl ?_ ?_
    rotate_left
    ·go_simp
     rfl
    refine hK.out _ _ ?_
    clear hK K
    refine done_ (done_of T_.out (by kernel_rfl)) ?_
    try go_wp2
    rw [rounds_succ]
    have H := HC27.out
    clear HC27
    replace H := Option.bind_eq_some_iff.mp H
    obtain ⟨t170, A310, H⟩ := H
    (try dsimp only at H)
    have A31 := Aside0.mk A310
    clear A310
    replace H := Option.bind_eq_some_iff.mp H
    obtain ⟨t171, A320, H⟩ := H
    (try dsimp only at H)
    have A32 := Aside0.mk A320
    clear A320
    have HC33 := Aside0.mk H
    clear H
    try go_wp2
    have n0_ : Aside0 ((w29.setCell ⟨g161, 2, none⟩ (.int .u64 t169)).heap[g161]? = some (.cells #[.int .u64 t165, .int .u64 t167, .int .u64 t169, .int .u64 a2_3] 23 (0, 0))) := ⟨by refine blk_put (cs := #[.int .u64 t165, .int .u64 t167, .int .u64 a2_2, .int .u64 a2_3]) ?_ 2 _ rfl; exact B161.out⟩
    have n1_ := bf_ B162 NB162_161 ⟨g161, 2, none⟩ (.int .u64 t169) rfl
    have n2_ : Aside0 (Below w.heap.size w (w29.setCell ⟨g161, 2, none⟩ (.int .u64 t169))) := ⟨by repeat (first | (with_reducible first | exact HB.out | apply below_alloc | apply pw_below_drewN | apply below_drew1 | refine below_set ?_ GE161.out | refine below_set ?_ GE162.out) | exact HB.out)⟩
    (try clear B161)
    (try clear B162)
    (try clear HB)
    generalize (w29.setCell ⟨g161, 2, none⟩ (.int .u64 t169)) = w34 at n0_ n1_ n2_ ⊢
    have B161 := n0_
    have B162 := n1_
    have HB := n2_
    clear n0_ n1_ n2_
    have n0_ := Aside0.mk (blk_drew B161.out)
    have n1_ := Aside0.mk (blk_drew B162.out)
    have n2_ := Aside0.mk (below_drew1 HB.out)
    clear B161
    clear B162
    clear HB
    have B161 := n0_
    have B162 := n1_
    have HB := n2_
    clear n0_ n1_ n2_
    refine start_ (n := 12) (S := fun w' => w'.cell? ⟨g161, 0, none⟩ = some (.int .u64 t165) ∧ w'.cell? ⟨g161, 1, none⟩ = some (.int .u64 t167) ∧ w'.cell? ⟨g161, 2, none⟩ = some (.int .u64 t169) ∧ w'.cell? ⟨g161, 3, none⟩ = some (.int .u64 a2_3)) (ds := [11]) z15_0_ (by kernel_rfl) rfl rfl ⟨bq_ B161 0, bq_ B161 1, bq_ B161 2, bq_ B161 3⟩ (fun hL => ?_); refine with_tabW attestorref06_Round.tab6 attestorref06_Round.bits6 (fun T_ W_ => ?_)
    generalize w34.drew = w35 at B161 B162 HB hL ⊢
    refine pure_ (i := 0) (N := some 29) (v := ?_) (a' := ?_) z15_1_ rfl rfl (any_of T_.out (by kernel_rfl)) (fun _ _ _ h => h) (Or.inl ⟨by rfl, ?_⟩) ?_ ?_
    rotate_left; · intro w'; go_simp; with_reducible rfl
    rotate_left; · simp only [Act.put, sa_, sb_, sc_, i64_w, i32_w]; rfl
    refine pure_ (i := 1) (N := some 30) (v := ?_) (a' := ?_) z15_2_ rfl rfl (any_of T_.out (by kernel_rfl)) (fun _ _ _ h => h) (Or.inl ⟨by rfl, ?_⟩) ?_ ?_
    rotate_left; · intro w'; go_simp; with_reducible rfl
    rotate_left; · simp only [Act.put, sa_, sb_, sc_, i64_w, i32_w]; rfl
    refine pure_ (i := 2) (N := some 31) (v := ?_) (a' := ?_) z15_3_ rfl rfl (any_of T_.out (by kernel_rfl)) (fun _ _ _ h => h) (Or.inl ⟨by rfl, ?_⟩) ?_ ?_
    rotate_left; · intro w'; go_simp; with_reducible rfl
    rotate_left; · simp only [Act.put, sa_, sb_, sc_, i64_w, i32_w]; rfl
    refine pure_ (i := 3) (N := some 32) (v := ?_) (a' := ?_) z15_4_ rfl rfl (any_of T_.out (by kernel_rfl)) (fun _ _ _ h => h) (Or.inl ⟨by rfl, ?_⟩) ?_ ?_
    rotate_left; · intro w'; go_simp; with_reducible rfl
    rotate_left; · simp only [Act.put, sa_, sb_, sc_, i64_w, i32_w]; rfl
    refine pure_ (i := 5) (N := some 34) (v := ?_) (a' := ?_) z15_5_ rfl rfl (any_of T_.out (by kernel_rfl)) (fun _ _ _ h => h) (Or.inl ⟨by rfl, ?_⟩) ?_ ?_
    rotate_left; · intro w'; go_simp; with_reducible rfl
    rotate_left; · simp only [Act.put, sa_, sb_, sc_, i64_w, i32_w]; rfl
    refine pure_ (i := 6) (N := some 35) (v := ?_) (a' := ?_) z15_6_ rfl rfl (any_of T_.out (by kernel_rfl)) (fun _ _ _ h => h) (Or.inl ⟨by rfl, ?_⟩) ?_ ?_
    rotate_left; · intro w'; go_simp; with_reducible rfl
    rotate_left; · simp only [Act.put, sa_, sb_, sc_, i64_w, i32_w]; rfl
    refine pure_ (i := 7) (N := some 36) (v := ?_) (a' := ?_) z15_7_ rfl rfl (any_of T_.out (by kernel_rfl)) (fun _ _ _ h => h) (Or.inl ⟨by rfl, ?_⟩) ?_ ?_
    rotate_left; · intro w'; go_simp; with_reducible rfl
    rotate_left; · simp only [Act.put, sa_, sb_, sc_, i64_w, i32_w]; rfl
    refine take_ (i := 4) (N := some 33) (v := ?_) (a' := ?_) z15_8_ rfl rfl (take_ofW T_.out W_.out (by kernel_rfl)) (fun _ _ _ h => h) (Or.inl ⟨by rfl, ?_⟩) hL ?_ ?_
    rotate_left
    ·rintro w' ⟨s0, s1, s2, s3⟩
     go_simp
     with_reducible rfl
    rotate_left
    ·simp only [Act.put, sa_, sb_, sc_, i64_w, i32_w]
     rfl
    refine one_ (i := 8) (N := some 37) z15_9_ rfl rfl (one_of T_.out (by kernel_rfl)) (by decide) (fun K hK => ?_)
    refine goes_ Tryd.func13 (by kernel_rfl) rfl #[.int .i64 a0, .int .i64 a1, .int .i64 3] (by rfl) rfl rfl (by (try simp only [List.map_toArray, List.map_cons, List.map_nil]); first | done | rfl) ?_
    with_reducible refine (attestorref06_Constant.calls kj3 a0 a1 3 t170 _ A31.out).mono ?_
    rintro e w' ⟨rfl, ⟨nd, rfl⟩⟩
    refine ⟨_, rfl, ?_⟩
    (try (rw [drewN_self w35]; generalize q_ : World.drewN w35 _ = w35; replace B161 := ra_ q_ B161; replace B162 := ra_ q_ B162; replace HB := rb_ q_ HB; clear q_))
    refine hK.out _ _ ⟨bq_ B161 0, bq_ B161 1, bq_ B161 2, bq_ B161 3⟩ (fun hL => ?_)
    clear hK K
    refine norm_ (a' := ?_) ?_ ?_
    rotate_left
    ·show Act.put _ (some 37) _ = _
     simp only [Act.put, sa_, sb_, sc_, i64_w, i32_w]
     rfl
    refine one_ (i := 9) (N := some 38) z15_10_ rfl rfl (one_of T_.out (by kernel_rfl)) (by decide) (fun K hK => ?_)
    refine goes_ Tryd.func32 (by kernel_rfl) rfl #[.int .i64 a0, .int .u64 a2_3, .int .u64 t170] (by rfl) rfl rfl (by (try simp only [List.map_toArray, List.map_cons, List.map_nil]); first | done | rfl) ?_
    with_reducible refine (attestorref01_Add.calls a0 a2_3 t170 t171 _ A32.out).mono ?_
    rintro e w' ⟨rfl, ⟨nd, rfl⟩⟩
    refine ⟨_, rfl, ?_⟩
    (try (rw [drewN_self w35]; generalize q_ : World.drewN w35 _ = w35; replace B161 := ra_ q_ B161; replace B162 := ra_ q_ B162; replace HB := rb_ q_ HB; clear q_))
    refine hK.out _ _ ⟨bq_ B161 0, bq_ B161 1, bq_ B161 2, bq_ B161 3⟩ (fun hL => ?_)
    clear hK K
    refine norm_ (a' := ?_) ?_ ?_
    rotate_left
    ·show Act.put _ (some 38) _ = _
     simp only [Act.put, sa_, sb_, sc_, i64_w, i32_w]
     rfl
    refine pure_ (i := 10) (N := some 39) (v := ?_) (a' := ?_) z15_11_ rfl rfl (any_of T_.out (by kernel_rfl)) (fun _ _ _ h => h) (Or.inl ⟨by rfl, ?_⟩) ?_ ?_
    rotate_left; · intro w'; go_simp; with_reducible rfl
    rotate_left; · simp only [Act.put, sa_, sb_, sc_, i64_w, i32_w]; rfl
    refine last_ (i := 11) (N := none) z15_12_ rfl rfl (one_of T_.out (by kernel_rfl)) (by decide) (fun K hK => ?_)
    have hs36 : w35.cell? ⟨g161, 3, none⟩ = some (.int .u64 a2_3) := bq_ B161 3
    have hfs36 := blk_frozen B161.out 3
    have hns36_1 := NB162_161.out
    have hms36_1 := NB161_162.out
    refine skip_ (w1 := ?_) (by rfl) rfl ?_ ?_
    rotate_left
    ·go_simp
     rfl
    refine hK.out _ _ ?_
    clear hK K
    refine done_ (done_of T_.out (by kernel_rfl)) ?_
    try go_wp2
    rw [rounds_succ]
    have H := HC33.out
    clear HC33
    have HC37 := Aside0.mk H
    clear H
    go_wp2
    refine wp_loop_rounds 5 ?_
    rw [rounds_succ]
    have H := HC37.out
    clear HC37
    replace H := Option.bind_eq_some_iff.mp H
    obtain ⟨t172, A380, H⟩ := H
    (try dsimp only at H)
    have A38 := Aside0.mk A380
    clear A380
    replace H := Option.bind_eq_some_iff.mp H
    obtain ⟨t173, A390, H⟩ := H
    (try dsimp only at H)
    have A39 := Aside0.mk A390
    clear A390
    have HC40 := Aside0.mk H
    clear H
    try go_wp2
    have n0_ : Aside0 ((w35.setCell ⟨g161, 3, none⟩ (.int .u64 t171)).heap[g161]? = some (.cells #[.int .u64 t165, .int .u64 t167, .int .u64 t169, .int .u64 t171] 23 (0, 0))) := ⟨by refine blk_put (cs := #[.int .u64 t165, .int .u64 t167, .int .u64 t169, .int .u64 a2_3]) ?_ 3 _ rfl; exact B161.out⟩
    have n1_ := bf_ B162 NB162_161 ⟨g161, 3, none⟩ (.int .u64 t171) rfl
    have n2_ : Aside0 (Below w.heap.size w (w35.setCell ⟨g161, 3, none⟩ (.int .u64 t171))) := ⟨by repeat (first | (with_reducible first | exact HB.out | apply below_alloc | apply pw_below_drewN | apply below_drew1 | refine below_set ?_ GE161.out | refine below_set ?_ GE162.out) | exact HB.out)⟩
    (try clear B161)
    (try clear B162)
    (try clear HB)
    generalize (w35.setCell ⟨g161, 3, none⟩ (.int .u64 t171)) = w41 at n0_ n1_ n2_ ⊢
    have B161 := n0_
    have B162 := n1_
    have HB := n2_
    clear n0_ n1_ n2_
    have n0_ := Aside0.mk (blk_drew B161.out)
    have n1_ := Aside0.mk (blk_drew B162.out)
    have n2_ := Aside0.mk (below_drew1 HB.out)
    clear B161
    clear B162
    clear HB
    have B161 := n0_
    have B162 := n1_
    have HB := n2_
    clear n0_ n1_ n2_
    refine start_ (n := 11) (S := fun w' => w'.cell? ⟨g161, 0, none⟩ = some (.int .u64 t165) ∧ w'.cell? ⟨g161, 1, none⟩ = some (.int .u64 t167) ∧ w'.cell? ⟨g161, 2, none⟩ = some (.int .u64 t169) ∧ w'.cell? ⟨g161, 3, none⟩ = some (.int .u64 t171)) (ds := [10]) z15_13_ (by kernel_rfl) rfl rfl ⟨bq_ B161 0, bq_ B161 1, bq_ B161 2, bq_ B161 3⟩ (fun hL => ?_); refine with_tabW attestorref06_Round.tab10 attestorref06_Round.bits10 (fun T_ W_ => ?_)
    generalize w41.drew = w42 at B161 B162 HB hL ⊢
    refine pure_ (i := 0) (N := some 44) (v := ?_) (a' := ?_) z15_14_ rfl rfl (any_of T_.out (by kernel_rfl)) (fun _ _ _ h => h) (Or.inl ⟨by rfl, ?_⟩) ?_ ?_
    rotate_left; · intro w'; go_simp; with_reducible rfl
    rotate_left; · simp only [Act.put, sa_, sb_, sc_, i64_w, i32_w]; rfl
    refine pure_ (i := 1) (N := some 45) (v := ?_) (a' := ?_) z15_15_ rfl rfl (any_of T_.out (by kernel_rfl)) (fun _ _ _ h => h) (Or.inl ⟨by rfl, ?_⟩) ?_ ?_
    rotate_left; · intro w'; go_simp; with_reducible rfl
    rotate_left; · simp only [Act.put, sa_, sb_, sc_, i64_w, i32_w]; rfl
    refine pure_ (i := 2) (N := some 46) (v := ?_) (a' := ?_) z15_16_ rfl rfl (any_of T_.out (by kernel_rfl)) (fun _ _ _ h => h) (Or.inl ⟨by rfl, ?_⟩) ?_ ?_
    rotate_left; · intro w'; go_simp; with_reducible rfl
    rotate_left; · simp only [Act.put, sa_, sb_, sc_, i64_w, i32_w]; rfl
    refine pure_ (i := 3) (N := some 47) (v := ?_) (a' := ?_) z15_17_ rfl rfl (any_of T_.out (by kernel_rfl)) (fun _ _ _ h => h) (Or.inl ⟨by rfl, ?_⟩) ?_ ?_
    rotate_left; · intro w'; go_simp; with_reducible rfl
    rotate_left; · simp only [Act.put, sa_, sb_, sc_, i64_w, i32_w]; rfl
    refine pure_ (i := 5) (N := some 49) (v := ?_) (a' := ?_) z15_18_ rfl rfl (any_of T_.out (by kernel_rfl)) (fun _ _ _ h => h) (Or.inl ⟨by rfl, ?_⟩) ?_ ?_
    rotate_left; · intro w'; go_simp; with_reducible rfl
    rotate_left; · simp only [Act.put, sa_, sb_, sc_, i64_w, i32_w]; rfl
    refine take_ (i := 4) (N := some 48) (v := ?_) (a' := ?_) z15_19_ rfl rfl (take_ofW T_.out W_.out (by kernel_rfl)) (fun _ _ _ h => h) (Or.inl ⟨by rfl, ?_⟩) hL ?_ ?_
    rotate_left
    ·rintro w' ⟨s0, s1, s2, s3⟩
     go_simp
     with_reducible rfl
    rotate_left
    ·simp only [Act.put, sa_, sb_, sc_, i64_w, i32_w]
     rfl
    refine one_ (i := 6) (N := some 50) z15_20_ rfl rfl (one_of T_.out (by kernel_rfl)) (by decide) (fun K hK => ?_)
    refine goes_ Tryd.func38 (by kernel_rfl) rfl #[.int .i64 a0] (by rfl) rfl rfl (by (try simp only [List.map_toArray, List.map_cons, List.map_nil]); first | done | rfl) ?_
    with_reducible refine (attestorref01_Exponent.calls kj3 a0 t172 _ A38.out).mono ?_
    rintro e w' ⟨rfl, ⟨nd, rfl⟩⟩
    refine ⟨_, rfl, ?_⟩
    (try (rw [drewN_self w42]; generalize q_ : World.drewN w42 _ = w42; replace B161 := ra_ q_ B161; replace B162 := ra_ q_ B162; replace HB := rb_ q_ HB; clear q_))
    refine hK.out _ _ ⟨bq_ B161 0, bq_ B161 1, bq_ B161 2, bq_ B161 3⟩ (fun hL => ?_)
    clear hK K
    refine norm_ (a' := ?_) ?_ ?_
    rotate_left
    ·show Act.put _ (some 50) _ = _
     simp only [Act.put, sa_, sb_, sc_, i64_w, i32_w]
     rfl
    refine pure_ (i := 7) (N := some 51) (v := ?_) (a' := ?_) z15_21_ rfl rfl (any_of T_.out (by kernel_rfl)) (fun _ _ _ h => h) (Or.inl ⟨by rfl, ?_⟩) ?_ ?_
    rotate_left; · intro w'; go_simp; with_reducible rfl
    rotate_left; · simp only [Act.put, sa_, sb_, sc_, i64_w, i32_w]; rfl
    refine one_ (i := 8) (N := some 52) z15_22_ rfl rfl (one_of T_.out (by kernel_rfl)) (by decide) (fun K hK => ?_)
    refine goes_ Tryd.func33 (by kernel_rfl) rfl #[.int .i64 a0, .int .u64 t165, .int .u64 (IntKind.u64.wrap (t172))] (by rfl) rfl rfl (by (try simp only [List.map_toArray, List.map_cons, List.map_nil]); first | done | rfl) ?_
    with_reducible refine (attestorref01_Pow.calls kj3 a0 t165 (IntKind.u64.wrap (t172)) t173 _ A39.out).mono ?_
    rintro e w' ⟨rfl, ⟨nd, rfl⟩⟩
    refine ⟨_, rfl, ?_⟩
    (try (rw [drewN_self w42]; generalize q_ : World.drewN w42 _ = w42; replace B161 := ra_ q_ B161; replace B162 := ra_ q_ B162; replace HB := rb_ q_ HB; clear q_))
    refine hK.out _ _ ⟨bq_ B161 0, bq_ B161 1, bq_ B161 2, bq_ B161 3⟩ (fun hL => ?_)
    clear hK K
    refine norm_ (a' := ?_) ?_ ?_
    rotate_left
    ·show Act.put _ (some 52) _ = _
     simp only [Act.put, sa_, sb_, sc_, i64_w, i32_w]
     rfl
    refine pure_ (i := 9) (N := some 53) (v := ?_) (a' := ?_) z15_23_ rfl rfl (any_of T_.out (by kernel_rfl)) (fun _ _ _ h => h) (Or.inl ⟨by rfl, ?_⟩) ?_ ?_
    rotate_left; · intro w'; go_simp; with_reducible rfl
    rotate_left; · simp only [Act.put, sa_, sb_, sc_, i64_w, i32_w]; rfl
    refine last_ (i := 10) (N := none) z15_24_ rfl rfl (one_of T_.out (by kernel_rfl)) (by decide) (fun K hK => ?_)
    have hs43 : w42.cell? ⟨g161, 0, none⟩ = some (.int .u64 t165) := bq_ B161 0
    have hfs43 := blk_frozen B161.out 0
    have hns43_1 := NB162_161.out
    have hms43_1 := NB161_162.out
    refine skip_ (w1 := ?_) (by rfl) rfl ?_ ?_
    rotate_left
    ·go_simp
     rfl
    refine hK.out _ _ ?_
    clear hK K
    refine done_ (done_of T_.out (by kernel_rfl)) ?_
    try go_wp2
    rw [rounds_succ]
    have H := HC40.out
    clear HC40
    replace H := Option.bind_eq_some_iff.mp H
    obtain ⟨t174, A440, H⟩ := H
    (try dsimp only at H)
    have A44 := Aside0.mk A440
    clear A440
    replace H := Option.bind_eq_some_iff.mp H
    obtain ⟨t175, A450, H⟩ := H
    (try dsimp only at H)
    have A45 := Aside0.mk A450
    clear A450
    have HC46 := Aside0.mk H
    clear H
    try go_wp2
    have n0_ : Aside0 ((w42.setCell ⟨g161, 0, none⟩ (.int .u64 t173)).heap[g161]? = some (.cells #[.int .u64 t173, .int .u64 t167, .int .u64 t169, .int .u64 t171] 23 (0, 0))) := ⟨by refine blk_put (cs := #[.int .u64 t165, .int .u64 t167, .int .u64 t169, .int .u64 t171]) ?_ 0 _ rfl; exact B161.out⟩
    have n1_ := bf_ B162 NB162_161 ⟨g161, 0, none⟩ (.int .u64 t173) rfl
    have n2_ : Aside0 (Below w.heap.size w (w42.setCell ⟨g161, 0, none⟩ (.int .u64 t173))) := ⟨by repeat (first | (with_reducible first | exact HB.out | apply below_alloc | apply pw_below_drewN | apply below_drew1 | refine below_set ?_ GE161.out | refine below_set ?_ GE162.out) | exact HB.out)⟩
    (try clear B161)
    (try clear B162)
    (try clear HB)
    generalize (w42.setCell ⟨g161, 0, none⟩ (.int .u64 t173)) = w47 at n0_ n1_ n2_ ⊢
    have B161 := n0_
    have B162 := n1_
    have HB := n2_
    clear n0_ n1_ n2_
    have n0_ := Aside0.mk (blk_drew B161.out)
    have n1_ := Aside0.mk (blk_drew B162.out)
    have n2_ := Aside0.mk (below_drew1 HB.out)
    clear B161
    clear B162
    clear HB
    have B161 := n0_
    have B162 := n1_
    have HB := n2_
    clear n0_ n1_ n2_
    refine start_ (n := 11) (S := fun w' => w'.cell? ⟨g161, 0, none⟩ = some (.int .u64 t173) ∧ w'.cell? ⟨g161, 1, none⟩ = some (.int .u64 t167) ∧ w'.cell? ⟨g161, 2, none⟩ = some (.int .u64 t169) ∧ w'.cell? ⟨g161, 3, none⟩ = some (.int .u64 t171)) (ds := [10]) z15_13_ (by kernel_rfl) rfl rfl ⟨bq_ B161 0, bq_ B161 1, bq_ B161 2, bq_ B161 3⟩ (fun hL => ?_); refine with_tabW attestorref06_Round.tab10 attestorref06_Round.bits10 (fun T_ W_ => ?_)
    generalize w47.drew = w48 at B161 B162 HB hL ⊢
    refine pure_ (i := 0) (N := some 44) (v := ?_) (a' := ?_) z15_14_ rfl rfl (any_of T_.out (by kernel_rfl)) (fun _ _ _ h => h) (Or.inl ⟨by rfl, ?_⟩) ?_ ?_
    rotate_left; · intro w'; go_simp; with_reducible rfl
    rotate_left; · simp only [Act.put, sa_, sb_, sc_, i64_w, i32_w]; rfl
    refine pure_ (i := 1) (N := some 45) (v := ?_) (a' := ?_) z15_15_ rfl rfl (any_of T_.out (by kernel_rfl)) (fun _ _ _ h => h) (Or.inl ⟨by rfl, ?_⟩) ?_ ?_
    rotate_left; · intro w'; go_simp; with_reducible rfl
    rotate_left; · simp only [Act.put, sa_, sb_, sc_, i64_w, i32_w]; rfl
    refine pure_ (i := 2) (N := some 46) (v := ?_) (a' := ?_) z15_16_ rfl rfl (any_of T_.out (by kernel_rfl)) (fun _ _ _ h => h) (Or.inl ⟨by rfl, ?_⟩) ?_ ?_
    rotate_left; · intro w'; go_simp; with_reducible rfl
    rotate_left; · simp only [Act.put, sa_, sb_, sc_, i64_w, i32_w]; rfl
    refine pure_ (i := 3) (N := some 47) (v := ?_) (a' := ?_) z15_17_ rfl rfl (any_of T_.out (by kernel_rfl)) (fun _ _ _ h => h) (Or.inl ⟨by rfl, ?_⟩) ?_ ?_
    rotate_left; · intro w'; go_simp; with_reducible rfl
    rotate_left; · simp only [Act.put, sa_, sb_, sc_, i64_w, i32_w]; rfl
    refine pure_ (i := 5) (N := some 49) (v := ?_) (a' := ?_) z15_18_ rfl rfl (any_of T_.out (by kernel_rfl)) (fun _ _ _ h => h) (Or.inl ⟨by rfl, ?_⟩) ?_ ?_
    rotate_left; · intro w'; go_simp; with_reducible rfl
    rotate_left; · simp only [Act.put, sa_, sb_, sc_, i64_w, i32_w]; rfl
    refine take_ (i := 4) (N := some 48) (v := ?_) (a' := ?_) z15_19_ rfl rfl (take_ofW T_.out W_.out (by kernel_rfl)) (fun _ _ _ h => h) (Or.inl ⟨by rfl, ?_⟩) hL ?_ ?_
    rotate_left
    ·rintro w' ⟨s0, s1, s2, s3⟩
     go_simp
     with_reducible rfl
    rotate_left
    ·simp only [Act.put, sa_, sb_, sc_, i64_w, i32_w]
     rfl
    refine one_ (i := 6) (N := some 50) z15_20_ rfl rfl (one_of T_.out (by kernel_rfl)) (by decide) (fun K hK => ?_)
    refine goes_ Tryd.func38 (by kernel_rfl) rfl #[.int .i64 a0] (by rfl) rfl rfl (by (try simp only [List.map_toArray, List.map_cons, List.map_nil]); first | done | rfl) ?_
    with_reducible refine (attestorref01_Exponent.calls kj3 a0 t174 _ A44.out).mono ?_
    rintro e w' ⟨rfl, ⟨nd, rfl⟩⟩
    refine ⟨_, rfl, ?_⟩
    (try (rw [drewN_self w48]; generalize q_ : World.drewN w48 _ = w48; replace B161 := ra_ q_ B161; replace B162 := ra_ q_ B162; replace HB := rb_ q_ HB; clear q_))
    refine hK.out _ _ ⟨bq_ B161 0, bq_ B161 1, bq_ B161 2, bq_ B161 3⟩ (fun hL => ?_)
    clear hK K
    refine norm_ (a' := ?_) ?_ ?_
    rotate_left
    ·show Act.put _ (some 50) _ = _
     simp only [Act.put, sa_, sb_, sc_, i64_w, i32_w]
     rfl
    refine pure_ (i := 7) (N := some 51) (v := ?_) (a' := ?_) z15_21_ rfl rfl (any_of T_.out (by kernel_rfl)) (fun _ _ _ h => h) (Or.inl ⟨by rfl, ?_⟩) ?_ ?_
    rotate_left; · intro w'; go_simp; with_reducible rfl
    rotate_left; · simp only [Act.put, sa_, sb_, sc_, i64_w, i32_w]; rfl
    refine one_ (i := 8) (N := some 52) z15_22_ rfl rfl (one_of T_.out (by kernel_rfl)) (by decide) (fun K hK => ?_)
    refine goes_ Tryd.func33 (by kernel_rfl) rfl #[.int .i64 a0, .int .u64 t167, .int .u64 (IntKind.u64.wrap (t174))] (by rfl) rfl rfl (by (try simp only [List.map_toArray, List.map_cons, List.map_nil]); first | done | rfl) ?_
    with_reducible refine (attestorref01_Pow.calls kj3 a0 t167 (IntKind.u64.wrap (t174)) t175 _ A45.out).mono ?_
    rintro e w' ⟨rfl, ⟨nd, rfl⟩⟩
    refine ⟨_, rfl, ?_⟩
    (try (rw [drewN_self w48]; generalize q_ : World.drewN w48 _ = w48; replace B161 := ra_ q_ B161; replace B162 := ra_ q_ B162; replace HB := rb_ q_ HB; clear q_))
    refine hK.out _ _ ⟨bq_ B161 0, bq_ B161 1, bq_ B161 2, bq_ B161 3⟩ (fun hL => ?_)
    clear hK K
    refine norm_ (a' := ?_) ?_ ?_
    rotate_left
    ·show Act.put _ (some 52) _ = _
     simp only [Act.put, sa_, sb_, sc_, i64_w, i32_w]
     rfl
    refine pure_ (i := 9) (N := some 53) (v := ?_) (a' := ?_) z15_23_ rfl rfl (any_of T_.out (by kernel_rfl)) (fun _ _ _ h => h) (Or.inl ⟨by rfl, ?_⟩) ?_ ?_
    rotate_left; · intro w'; go_simp; with_reducible rfl
    rotate_left; · simp only [Act.put, sa_, sb_, sc_, i64_w, i32_w]; rfl
    refine last_ (i := 10) (N := none) z15_24_ rfl rfl (one_of T_.out (by kernel_rfl)) (by decide) (fun K hK => ?_)
    have hs49 : w48.cell? ⟨g161, 1, none⟩ = some (.int .u64 t167) := bq_ B161 1
    have hfs49 := blk_frozen B161.out 1
    have hns49_1 := NB162_161.out
    have hms49_1 := NB161_162.out
    refine skip_ (w1 := ?_) (by rfl) rfl ?_ ?_
    rotate_left
    ·go_simp
     rfl
    refine hK.out _ _ ?_
    clear hK K
    refine done_ (done_of T_.out (by kernel_rfl)) ?_
    try go_wp2
    rw [rounds_succ]
    have H := HC46.out
    clear HC46
    replace H := Option.bind_eq_some_iff.mp H
    obtain ⟨t176, A500, H⟩ := H
    (try dsimp only at H)
    have A50 := Aside0.mk A500
    clear A500
    replace H := Option.bind_eq_some_iff.mp H
    obtain ⟨t177, A510, H⟩ := H
    (try dsimp only at H)
    have A51 := Aside0.mk A510
    clear A510
    have HC52 := Aside0.mk H
    clear H
    try go_wp2
    have n0_ : Aside0 ((w48.setCell ⟨g161, 1, none⟩ (.int .u64 t175)).heap[g161]? = some (.cells #[.int .u64 t173, .int .u64 t175, .int .u64 t169, .int .u64 t171] 23 (0, 0))) := ⟨by refine blk_put (cs := #[.int .u64 t173, .int .u64 t167, .int .u64 t169, .int .u64 t171]) ?_ 1 _ rfl; exact B161.out⟩
    have n1_ := bf_ B162 NB162_161 ⟨g161, 1, none⟩ (.int .u64 t175) rfl
    have n2_ : Aside0 (Below w.heap.size w (w48.setCell ⟨g161, 1, none⟩ (.int .u64 t175))) := ⟨by repeat (first | (with_reducible first | exact HB.out | apply below_alloc | apply pw_below_drewN | apply below_drew1 | refine below_set ?_ GE161.out | refine below_set ?_ GE162.out) | exact HB.out)⟩
    (try clear B161)
    (try clear B162)
    (try clear HB)
    generalize (w48.setCell ⟨g161, 1, none⟩ (.int .u64 t175)) = w53 at n0_ n1_ n2_ ⊢
    have B161 := n0_
    have B162 := n1_
    have HB := n2_
    clear n0_ n1_ n2_
    have n0_ := Aside0.mk (blk_drew B161.out)
    have n1_ := Aside0.mk (blk_drew B162.out)
    have n2_ := Aside0.mk (below_drew1 HB.out)
    clear B161
    clear B162
    clear HB
    have B161 := n0_
    have B162 := n1_
    have HB := n2_
    clear n0_ n1_ n2_
    refine start_ (n := 11) (S := fun w' => w'.cell? ⟨g161, 0, none⟩ = some (.int .u64 t173) ∧ w'.cell? ⟨g161, 1, none⟩ = some (.int .u64 t175) ∧ w'.cell? ⟨g161, 2, none⟩ = some (.int .u64 t169) ∧ w'.cell? ⟨g161, 3, none⟩ = some (.int .u64 t171)) (ds := [10]) z15_13_ (by kernel_rfl) rfl rfl ⟨bq_ B161 0, bq_ B161 1, bq_ B161 2, bq_ B161 3⟩ (fun hL => ?_); refine with_tabW attestorref06_Round.tab10 attestorref06_Round.bits10 (fun T_ W_ => ?_)
    generalize w53.drew = w54 at B161 B162 HB hL ⊢
    refine pure_ (i := 0) (N := some 44) (v := ?_) (a' := ?_) z15_14_ rfl rfl (any_of T_.out (by kernel_rfl)) (fun _ _ _ h => h) (Or.inl ⟨by rfl, ?_⟩) ?_ ?_
    rotate_left; · intro w'; go_simp; with_reducible rfl
    rotate_left; · simp only [Act.put, sa_, sb_, sc_, i64_w, i32_w]; rfl
    refine pure_ (i := 1) (N := some 45) (v := ?_) (a' := ?_) z15_15_ rfl rfl (any_of T_.out (by kernel_rfl)) (fun _ _ _ h => h) (Or.inl ⟨by rfl, ?_⟩) ?_ ?_
    rotate_left; · intro w'; go_simp; with_reducible rfl
    rotate_left; · simp only [Act.put, sa_, sb_, sc_, i64_w, i32_w]; rfl
    refine pure_ (i := 2) (N := some 46) (v := ?_) (a' := ?_) z15_16_ rfl rfl (any_of T_.out (by kernel_rfl)) (fun _ _ _ h => h) (Or.inl ⟨by rfl, ?_⟩) ?_ ?_
    rotate_left; · intro w'; go_simp; with_reducible rfl
    rotate_left; · simp only [Act.put, sa_, sb_, sc_, i64_w, i32_w]; rfl
    refine pure_ (i := 3) (N := some 47) (v := ?_) (a' := ?_) z15_17_ rfl rfl (any_of T_.out (by kernel_rfl)) (fun _ _ _ h => h) (Or.inl ⟨by rfl, ?_⟩) ?_ ?_
    rotate_left; · intro w'; go_simp; with_reducible rfl
    rotate_left; · simp only [Act.put, sa_, sb_, sc_, i64_w, i32_w]; rfl
    refine pure_ (i := 5) (N := some 49) (v := ?_) (a' := ?_) z15_18_ rfl rfl (any_of T_.out (by kernel_rfl)) (fun _ _ _ h => h) (Or.inl ⟨by rfl, ?_⟩) ?_ ?_
    rotate_left; · intro w'; go_simp; with_reducible rfl
    rotate_left; · simp only [Act.put, sa_, sb_, sc_, i64_w, i32_w]; rfl
    refine take_ (i := 4) (N := some 48) (v := ?_) (a' := ?_) z15_19_ rfl rfl (take_ofW T_.out W_.out (by kernel_rfl)) (fun _ _ _ h => h) (Or.inl ⟨by rfl, ?_⟩) hL ?_ ?_
    rotate_left
    ·rintro w' ⟨s0, s1, s2, s3⟩
     go_simp
     with_reducible rfl
    rotate_left
    ·simp only [Act.put, sa_, sb_, sc_, i64_w, i32_w]
     rfl
    refine one_ (i := 6) (N := some 50) z15_20_ rfl rfl (one_of T_.out (by kernel_rfl)) (by decide) (fun K hK => ?_)
    refine goes_ Tryd.func38 (by kernel_rfl) rfl #[.int .i64 a0] (by rfl) rfl rfl (by (try simp only [List.map_toArray, List.map_cons, List.map_nil]); first | done | rfl) ?_
    with_reducible refine (attestorref01_Exponent.calls kj3 a0 t176 _ A50.out).mono ?_
    rintro e w' ⟨rfl, ⟨nd, rfl⟩⟩
    refine ⟨_, rfl, ?_⟩
    (try (rw [drewN_self w54]; generalize q_ : World.drewN w54 _ = w54; replace B161 := ra_ q_ B161; replace B162 := ra_ q_ B162; replace HB := rb_ q_ HB; clear q_))
    refine hK.out _ _ ⟨bq_ B161 0, bq_ B161 1, bq_ B161 2, bq_ B161 3⟩ (fun hL => ?_)
    clear hK K
    refine norm_ (a' := ?_) ?_ ?_
    rotate_left
    ·show Act.put _ (some 50) _ = _
     simp only [Act.put, sa_, sb_, sc_, i64_w, i32_w]
     rfl
    refine pure_ (i := 7) (N := some 51) (v := ?_) (a' := ?_) z15_21_ rfl rfl (any_of T_.out (by kernel_rfl)) (fun _ _ _ h => h) (Or.inl ⟨by rfl, ?_⟩) ?_ ?_
    rotate_left; · intro w'; go_simp; with_reducible rfl
    rotate_left; · simp only [Act.put, sa_, sb_, sc_, i64_w, i32_w]; rfl
    refine one_ (i := 8) (N := some 52) z15_22_ rfl rfl (one_of T_.out (by kernel_rfl)) (by decide) (fun K hK => ?_)
    refine goes_ Tryd.func33 (by kernel_rfl) rfl #[.int .i64 a0, .int .u64 t169, .int .u64 (IntKind.u64.wrap (t176))] (by rfl) rfl rfl (by (try simp only [List.map_toArray, List.map_cons, List.map_nil]); first | done | rfl) ?_
    with_reducible refine (attestorref01_Pow.calls kj3 a0 t169 (IntKind.u64.wrap (t176)) t177 _ A51.out).mono ?_
    rintro e w' ⟨rfl, ⟨nd, rfl⟩⟩
    refine ⟨_, rfl, ?_⟩
    (try (rw [drewN_self w54]; generalize q_ : World.drewN w54 _ = w54; replace B161 := ra_ q_ B161; replace B162 := ra_ q_ B162; replace HB := rb_ q_ HB; clear q_))
    refine hK.out _ _ ⟨bq_ B161 0, bq_ B161 1, bq_ B161 2, bq_ B161 3⟩ (fun hL => ?_)
    clear hK K
    refine norm_ (a' := ?_) ?_ ?_
    rotate_left
    ·show Act.put _ (some 52) _ = _
     simp only [Act.put, sa_, sb_, sc_, i64_w, i32_w]
     rfl
    refine pure_ (i := 9) (N := some 53) (v := ?_) (a' := ?_) z15_23_ rfl rfl (any_of T_.out (by kernel_rfl)) (fun _ _ _ h => h) (Or.inl ⟨by rfl, ?_⟩) ?_ ?_
    rotate_left; · intro w'; go_simp; with_reducible rfl
    rotate_left; · simp only [Act.put, sa_, sb_, sc_, i64_w, i32_w]; rfl
    refine last_ (i := 10) (N := none) z15_24_ rfl rfl (one_of T_.out (by kernel_rfl)) (by decide) (fun K hK => ?_)
    have hs55 : w54.cell? ⟨g161, 2, none⟩ = some (.int .u64 t169) := bq_ B161 2
    have hfs55 := blk_frozen B161.out 2
    have hns55_1 := NB162_161.out
    have hms55_1 := NB161_162.out
    refine skip_ (w1 := ?_) (by rfl) rfl ?_ ?_
    rotate_left
    ·go_simp
     rfl
    refine hK.out _ _ ?_
    clear hK K
    refine done_ (done_of T_.out (by kernel_rfl)) ?_
    try go_wp2
    rw [rounds_succ]
    have H := HC52.out
    clear HC52
    replace H := Option.bind_eq_some_iff.mp H
    obtain ⟨t178, A560, H⟩ := H
    (try dsimp only at H)
    have A56 := Aside0.mk A560
    clear A560
    replace H := Option.bind_eq_some_iff.mp H
    obtain ⟨t179, A570, H⟩ := H
    (try dsimp only at H)
    have A57 := Aside0.mk A570
    clear A570
    have HC58 := Aside0.mk H
    clear H
    try go_wp2
    have n0_ : Aside0 ((w54.setCell ⟨g161, 2, none⟩ (.int .u64 t177)).heap[g161]? = some (.cells #[.int .u64 t173, .int .u64 t175, .int .u64 t177, .int .u64 t171] 23 (0, 0))) := ⟨by refine blk_put (cs := #[.int .u64 t173, .int .u64 t175, .int .u64 t169, .int .u64 t171]) ?_ 2 _ rfl; exact B161.out⟩
    have n1_ := bf_ B162 NB162_161 ⟨g161, 2, none⟩ (.int .u64 t177) rfl
    have n2_ : Aside0 (Below w.heap.size w (w54.setCell ⟨g161, 2, none⟩ (.int .u64 t177))) := ⟨by repeat (first | (with_reducible first | exact HB.out | apply below_alloc | apply pw_below_drewN | apply below_drew1 | refine below_set ?_ GE161.out | refine below_set ?_ GE162.out) | exact HB.out)⟩
    (try clear B161)
    (try clear B162)
    (try clear HB)
    generalize (w54.setCell ⟨g161, 2, none⟩ (.int .u64 t177)) = w59 at n0_ n1_ n2_ ⊢
    have B161 := n0_
    have B162 := n1_
    have HB := n2_
    clear n0_ n1_ n2_
    have n0_ := Aside0.mk (blk_drew B161.out)
    have n1_ := Aside0.mk (blk_drew B162.out)
    have n2_ := Aside0.mk (below_drew1 HB.out)
    clear B161
    clear B162
    clear HB
    have B161 := n0_
    have B162 := n1_
    have HB := n2_
    clear n0_ n1_ n2_
    refine start_ (n := 11) (S := fun w' => w'.cell? ⟨g161, 0, none⟩ = some (.int .u64 t173) ∧ w'.cell? ⟨g161, 1, none⟩ = some (.int .u64 t175) ∧ w'.cell? ⟨g161, 2, none⟩ = some (.int .u64 t177) ∧ w'.cell? ⟨g161, 3, none⟩ = some (.int .u64 t171)) (ds := [10]) z15_13_ (by kernel_rfl) rfl rfl ⟨bq_ B161 0, bq_ B161 1, bq_ B161 2, bq_ B161 3⟩ (fun hL => ?_); refine with_tabW attestorref06_Round.tab10 attestorref06_Round.bits10 (fun T_ W_ => ?_)
    generalize w59.drew = w60 at B161 B162 HB hL ⊢
    refine pure_ (i := 0) (N := some 44) (v := ?_) (a' := ?_) z15_14_ rfl rfl (any_of T_.out (by kernel_rfl)) (fun _ _ _ h => h) (Or.inl ⟨by rfl, ?_⟩) ?_ ?_
    rotate_left; · intro w'; go_simp; with_reducible rfl
    rotate_left; · simp only [Act.put, sa_, sb_, sc_, i64_w, i32_w]; rfl
    refine pure_ (i := 1) (N := some 45) (v := ?_) (a' := ?_) z15_15_ rfl rfl (any_of T_.out (by kernel_rfl)) (fun _ _ _ h => h) (Or.inl ⟨by rfl, ?_⟩) ?_ ?_
    rotate_left; · intro w'; go_simp; with_reducible rfl
    rotate_left; · simp only [Act.put, sa_, sb_, sc_, i64_w, i32_w]; rfl
    refine pure_ (i := 2) (N := some 46) (v := ?_) (a' := ?_) z15_16_ rfl rfl (any_of T_.out (by kernel_rfl)) (fun _ _ _ h => h) (Or.inl ⟨by rfl, ?_⟩) ?_ ?_
    rotate_left; · intro w'; go_simp; with_reducible rfl
    rotate_left; · simp only [Act.put, sa_, sb_, sc_, i64_w, i32_w]; rfl
    refine pure_ (i := 3) (N := some 47) (v := ?_) (a' := ?_) z15_17_ rfl rfl (any_of T_.out (by kernel_rfl)) (fun _ _ _ h => h) (Or.inl ⟨by rfl, ?_⟩) ?_ ?_
    rotate_left; · intro w'; go_simp; with_reducible rfl
    rotate_left; · simp only [Act.put, sa_, sb_, sc_, i64_w, i32_w]; rfl
    refine pure_ (i := 5) (N := some 49) (v := ?_) (a' := ?_) z15_18_ rfl rfl (any_of T_.out (by kernel_rfl)) (fun _ _ _ h => h) (Or.inl ⟨by rfl, ?_⟩) ?_ ?_
    rotate_left; · intro w'; go_simp; with_reducible rfl
    rotate_left; · simp only [Act.put, sa_, sb_, sc_, i64_w, i32_w]; rfl
    refine take_ (i := 4) (N := some 48) (v := ?_) (a' := ?_) z15_19_ rfl rfl (take_ofW T_.out W_.out (by kernel_rfl)) (fun _ _ _ h => h) (Or.inl ⟨by rfl, ?_⟩) hL ?_ ?_
    rotate_left
    ·rintro w' ⟨s0, s1, s2, s3⟩
     go_simp
     with_reducible rfl
    rotate_left
    ·simp only [Act.put, sa_, sb_, sc_, i64_w, i32_w]
     rfl
    refine one_ (i := 6) (N := some 50) z15_20_ rfl rfl (one_of T_.out (by kernel_rfl)) (by decide) (fun K hK => ?_)
    refine goes_ Tryd.func38 (by kernel_rfl) rfl #[.int .i64 a0] (by rfl) rfl rfl (by (try simp only [List.map_toArray, List.map_cons, List.map_nil]); first | done | rfl) ?_
    with_reducible refine (attestorref01_Exponent.calls kj3 a0 t178 _ A56.out).mono ?_
    rintro e w' ⟨rfl, ⟨nd, rfl⟩⟩
    refine ⟨_, rfl, ?_⟩
    (try (rw [drewN_self w60]; generalize q_ : World.drewN w60 _ = w60; replace B161 := ra_ q_ B161; replace B162 := ra_ q_ B162; replace HB := rb_ q_ HB; clear q_))
    refine hK.out _ _ ⟨bq_ B161 0, bq_ B161 1, bq_ B161 2, bq_ B161 3⟩ (fun hL => ?_)
    clear hK K
    refine norm_ (a' := ?_) ?_ ?_
    rotate_left
    ·show Act.put _ (some 50) _ = _
     simp only [Act.put, sa_, sb_, sc_, i64_w, i32_w]
     rfl
    refine pure_ (i := 7) (N := some 51) (v := ?_) (a' := ?_) z15_21_ rfl rfl (any_of T_.out (by kernel_rfl)) (fun _ _ _ h => h) (Or.inl ⟨by rfl, ?_⟩) ?_ ?_
    rotate_left; · intro w'; go_simp; with_reducible rfl
    rotate_left; · simp only [Act.put, sa_, sb_, sc_, i64_w, i32_w]; rfl
    refine one_ (i := 8) (N := some 52) z15_22_ rfl rfl (one_of T_.out (by kernel_rfl)) (by decide) (fun K hK => ?_)
    refine goes_ Tryd.func33 (by kernel_rfl) rfl #[.int .i64 a0, .int .u64 t171, .int .u64 (IntKind.u64.wrap (t178))] (by rfl) rfl rfl (by (try simp only [List.map_toArray, List.map_cons, List.map_nil]); first | done | rfl) ?_
    with_reducible refine (attestorref01_Pow.calls kj3 a0 t171 (IntKind.u64.wrap (t178)) t179 _ A57.out).mono ?_
    rintro e w' ⟨rfl, ⟨nd, rfl⟩⟩
    refine ⟨_, rfl, ?_⟩
    (try (rw [drewN_self w60]; generalize q_ : World.drewN w60 _ = w60; replace B161 := ra_ q_ B161; replace B162 := ra_ q_ B162; replace HB := rb_ q_ HB; clear q_))
    refine hK.out _ _ ⟨bq_ B161 0, bq_ B161 1, bq_ B161 2, bq_ B161 3⟩ (fun hL => ?_)
    clear hK K
    refine norm_ (a' := ?_) ?_ ?_
    rotate_left
    ·show Act.put _ (some 52) _ = _
     simp only [Act.put, sa_, sb_, sc_, i64_w, i32_w]
     rfl
    refine pure_ (i := 9) (N := some 53) (v := ?_) (a' := ?_) z15_23_ rfl rfl (any_of T_.out (by kernel_rfl)) (fun _ _ _ h => h) (Or.inl ⟨by rfl, ?_⟩) ?_ ?_
    rotate_left; · intro w'; go_simp; with_reducible rfl
    rotate_left; · simp only [Act.put, sa_, sb_, sc_, i64_w, i32_w]; rfl
    refine last_ (i := 10) (N := none) z15_24_ rfl rfl (one_of T_.out (by kernel_rfl)) (by decide) (fun K hK => ?_)
    have hs61 : w60.cell? ⟨g161, 3, none⟩ = some (.int .u64 t171) := bq_ B161 3
    have hfs61 := blk_frozen B161.out 3
    have hns61_1 := NB162_161.out
    have hms61_1 := NB161_162.out
    refine skip_ (w1 := ?_) (by rfl) rfl ?_ ?_
    rotate_left
    ·go_simp
     rfl
    refine hK.out _ _ ?_
    clear hK K
    refine done_ (done_of T_.out (by kernel_rfl)) ?_
    try go_wp2
    rw [rounds_succ]
    have H := HC58.out
    clear HC58
    have HC62 := Aside0.mk H
    clear H
    go_wp2_with (first | ((with_reducible refine gate_dst (N := 9) rfl ?_); refine box_event ?hg (N := 9) ?hd (cs := #[.int .u64 0, .int .u64 0, .int .u64 0, .int .u64 0]) (t := 23) ?hr ?_; (case hd => rfl); (case hg => rfl); (case hr => first | (go_simp; done) | (go_simp; rfl)); intro g180 hg w63 hbox hb; have n0_ := Aside0.mk (blk_below (g := g161) (o := .cells #[.int .u64 t173, .int .u64 t175, .int .u64 t177, .int .u64 t179] 23 (0, 0)) (by refine blk_put (cs := #[.int .u64 t173, .int .u64 t175, .int .u64 t177, .int .u64 t171]) ?_ 3 _ rfl; exact B161.out) hb); have n1_ := Aside0.mk (blk_below (g := g162) (o := .cells #[.int .u64 0, .int .u64 0, .int .u64 0, .int .u64 0] 23 (0, 0)) (by refine blk_far ?_ NB162_161.out _; exact B162.out) hb); have n2_ := Aside0.mk (below_step (by repeat (first | (with_reducible first | exact HB.out | apply below_alloc | apply pw_below_drewN | apply below_drew1 | refine below_set ?_ GE161.out | refine below_set ?_ GE162.out) | exact HB.out)) hb); have n3_ := Aside0.mk (hbox); have n4_ := Aside0.mk ((by rw [hg]; exact (below_size (by repeat (first | (with_reducible first | exact HB.out | apply below_alloc | apply pw_below_drewN | apply below_drew1 | refine below_set ?_ GE161.out | refine below_set ?_ GE162.out) | exact HB.out))) : w.heap.size ≤ g180)); have n5_ := Aside0.mk ((by rw [hg]; exact (below_size (by repeat (first | (with_reducible first | exact HB.out | apply below_alloc | apply pw_below_drewN | apply below_drew1 | refine below_set ?_ GE161.out | refine below_set ?_ GE162.out) | exact HB.out))) : w.heap.size ≤ g180)); have n6_ := Aside0.mk ((by rw [hg]; exact Nat.ne_of_lt (blk_lt (g := g161) (o := .cells #[.int .u64 t173, .int .u64 t175, .int .u64 t177, .int .u64 t179] 23 (0, 0)) (by refine blk_put (cs := #[.int .u64 t173, .int .u64 t175, .int .u64 t177, .int .u64 t171]) ?_ 3 _ rfl; exact B161.out)) : g161 ≠ g180)); have n7_ := Aside0.mk ((by rw [hg]; exact Nat.ne_of_gt (blk_lt (g := g161) (o := .cells #[.int .u64 t173, .int .u64 t175, .int .u64 t177, .int .u64 t179] 23 (0, 0)) (by refine blk_put (cs := #[.int .u64 t173, .int .u64 t175, .int .u64 t177, .int .u64 t171]) ?_ 3 _ rfl; exact B161.out)) : g180 ≠ g161)); have n8_ := Aside0.mk ((by rw [hg]; exact Nat.ne_of_lt (blk_lt (g := g162) (o := .cells #[.int .u64 0, .int .u64 0, .int .u64 0, .int .u64 0] 23 (0, 0)) (by refine blk_far ?_ NB162_161.out _; exact B162.out)) : g162 ≠ g180)); have n9_ := Aside0.mk ((by rw [hg]; exact Nat.ne_of_gt (blk_lt (g := g162) (o := .cells #[.int .u64 0, .int .u64 0, .int .u64 0, .int .u64 0] 23 (0, 0)) (by refine blk_far ?_ NB162_161.out _; exact B162.out)) : g180 ≠ g162)); clear B161; clear B162; clear HB; have B161 := n0_; have B162 := n1_; have HB := n2_; have B180 := n3_; have GW180 := n4_; have GE180 := n5_; have NB161_180 := n6_; have NB180_161 := n7_; have NB162_180 := n8_; have NB180_162 := n9_; clear n0_ n1_ n2_ n3_ n4_ n5_ n6_ n7_ n8_ n9_; clear hb hbox hg))
    refine wp_loop_rounds 5 ?_
    rw [rounds_succ]
    have H := HC62.out
    clear HC62
    replace H := Option.bind_eq_some_iff.mp H
    obtain ⟨⟨t181, t182, t183, t184⟩, A640, H⟩ := H
    (try dsimp only at H)
    have A64 := Aside0.mk A640
    clear A640
    have HC65 := Aside0.mk H
    clear H
    go_wp2_with (first | ((with_reducible refine gate_callee (f := 39) rfl ?_); refine goesL_ (some 59) rfl rfl Tryd.func39 (by kernel_rfl) rfl #[.int .i64 0] rfl (by (try simp only [List.map_toArray, List.map_cons, List.map_nil]); first | done | rfl) ?_; (with_reducible refine (attestorref06_row.calls 0 t181 t182 t183 t184 _ A64.out).mono ?_); rintro e w66 ⟨rfl, hb⟩; refine ⟨_, rfl, ?_⟩; have n0_ := Aside0.mk (blk_below (g := g161) (o := .cells #[.int .u64 t173, .int .u64 t175, .int .u64 t177, .int .u64 t179] 23 (0, 0)) (by exact B161.out) hb); have n1_ := Aside0.mk (blk_below (g := g162) (o := .cells #[.int .u64 0, .int .u64 0, .int .u64 0, .int .u64 0] 23 (0, 0)) (by exact B162.out) hb); have n2_ := Aside0.mk (blk_below (g := g180) (o := .cells #[.int .u64 0, .int .u64 0, .int .u64 0, .int .u64 0] 23 (0, 0)) (by exact B180.out) hb); have n3_ := Aside0.mk (below_step (by repeat (first | (with_reducible first | exact HB.out | apply below_alloc | apply pw_below_drewN | apply below_drew1 | refine below_set ?_ GE161.out | refine below_set ?_ GE162.out | refine below_set ?_ GE180.out) | exact HB.out)) hb); clear B161; clear B162; clear B180; clear HB; have B161 := n0_; have B162 := n1_; have B180 := n2_; have HB := n3_; clear n0_ n1_ n2_ n3_; (try clear hb); (try clear hb2); (try clear hk); (try clear hi)) | ((with_reducible refine gate_dst (N := 11) rfl ?_); refine box_event ?hg (N := 11) ?hd (cs := #[.int .u64 0, .int .u64 0, .int .u64 0, .int .u64 0]) (t := 23) ?hr ?_; (case hd => rfl); (case hg => rfl); (case hr => first | (go_simp; done) | (go_simp; rfl)); intro g185 hg w67 hbox hb; have n0_ := Aside0.mk (blk_below (g := g161) (o := .cells #[.int .u64 t173, .int .u64 t175, .int .u64 t177, .int .u64 t179] 23 (0, 0)) (by exact B161.out) hb); have n1_ := Aside0.mk (blk_below (g := g162) (o := .cells #[.int .u64 0, .int .u64 0, .int .u64 0, .int .u64 0] 23 (0, 0)) (by exact B162.out) hb); have n2_ := Aside0.mk (blk_below (g := g180) (o := .cells #[.int .u64 0, .int .u64 0, .int .u64 0, .int .u64 0] 23 (0, 0)) (by exact B180.out) hb); have n3_ := Aside0.mk (below_step (by repeat (first | (with_reducible first | exact HB.out | apply below_alloc | apply pw_below_drewN | apply below_drew1 | refine below_set ?_ GE161.out | refine below_set ?_ GE162.out | refine below_set ?_ GE180.out) | exact HB.out)) hb); have n4_ := Aside0.mk (hbox); have n5_ := Aside0.mk ((by rw [hg]; exact (below_size (by repeat (first | (with_reducible first | exact HB.out | apply below_alloc | apply pw_below_drewN | apply below_drew1 | refine below_set ?_ GE161.out | refine below_set ?_ GE162.out | refine below_set ?_ GE180.out) | exact HB.out))) : w.heap.size ≤ g185)); have n6_ := Aside0.mk ((by rw [hg]; exact (below_size (by repeat (first | (with_reducible first | exact HB.out | apply below_alloc | apply pw_below_drewN | apply below_drew1 | refine below_set ?_ GE161.out | refine below_set ?_ GE162.out | refine below_set ?_ GE180.out) | exact HB.out))) : w.heap.size ≤ g185)); have n7_ := Aside0.mk ((by rw [hg]; exact Nat.ne_of_lt (blk_lt (g := g161) (o := .cells #[.int .u64 t173, .int .u64 t175, .int .u64 t177, .int .u64 t179] 23 (0, 0)) (by exact B161.out)) : g161 ≠ g185)); have n8_ := Aside0.mk ((by rw [hg]; exact Nat.ne_of_gt (blk_lt (g := g161) (o := .cells #[.int .u64 t173, .int .u64 t175, .int .u64 t177, .int .u64 t179] 23 (0, 0)) (by exact B161.out)) : g185 ≠ g161)); have n9_ := Aside0.mk ((by rw [hg]; exact Nat.ne_of_lt (blk_lt (g := g162) (o := .cells #[.int .u64 0, .int .u64 0, .int .u64 0, .int .u64 0] 23 (0, 0)) (by exact B162.out)) : g162 ≠ g185)); have n10_ := Aside0.mk ((by rw [hg]; exact Nat.ne_of_gt (blk_lt (g := g162) (o := .cells #[.int .u64 0, .int .u64 0, .int .u64 0, .int .u64 0] 23 (0, 0)) (by exact B162.out)) : g185 ≠ g162)); have n11_ := Aside0.mk ((by rw [hg]; exact Nat.ne_of_lt (blk_lt (g := g180) (o := .cells #[.int .u64 0, .int .u64 0, .int .u64 0, .int .u64 0] 23 (0, 0)) (by exact B180.out)) : g180 ≠ g185)); have n12_ := Aside0.mk ((by rw [hg]; exact Nat.ne_of_gt (blk_lt (g := g180) (o := .cells #[.int .u64 0, .int .u64 0, .int .u64 0, .int .u64 0] 23 (0, 0)) (by exact B180.out)) : g185 ≠ g180)); clear B161; clear B162; clear B180; clear HB; have B161 := n0_; have B162 := n1_; have B180 := n2_; have HB := n3_; have B185 := n4_; have GW185 := n5_; have GE185 := n6_; have NB161_185 := n7_; have NB185_161 := n8_; have NB162_185 := n9_; have NB185_162 := n10_; have NB180_185 := n11_; have NB185_180 := n12_; clear n0_ n1_ n2_ n3_ n4_ n5_ n6_ n7_ n8_ n9_ n10_ n11_ n12_; clear hb hbox hg; have hnb68 := NB185_161.out; have hnc68 := NB161_185.out; have hnb69 := NB185_162.out; have hnc69 := NB162_185.out; have hnb70 := NB185_180.out; have hnc70 := NB180_185.out; have hcz71_0 : w67.cell? ⟨g185, 0, none⟩ = some (.int .u64 0) := bq_ B185 0; have hcz71_1 : w67.cell? ⟨g185, 1, none⟩ = some (.int .u64 0) := bq_ B185 1; have hcz71_2 : w67.cell? ⟨g185, 2, none⟩ = some (.int .u64 0) := bq_ B185 2; have hcz71_3 : w67.cell? ⟨g185, 3, none⟩ = some (.int .u64 0) := bq_ B185 3; have hfz71_0 := blk_frozen B185.out 0; have hfz71_1 := blk_frozen B185.out 1; have hfz71_2 := blk_frozen B185.out 2; have hfz71_3 := blk_frozen B185.out 3))
    refine wp_loop_rounds 5 ?_
    rw [rounds_succ]
    have H := HC65.out
    clear HC65
    replace H := Option.bind_eq_some_iff.mp H
    obtain ⟨t186, A720, H⟩ := H
    (try dsimp only at H)
    have A72 := Aside0.mk A720
    clear A720
    replace H := Option.bind_eq_some_iff.mp H
    obtain ⟨t187, A730, H⟩ := H
    (try dsimp only at H)
    have A73 := Aside0.mk A730
    clear A730
    have HC74 := Aside0.mk H
    clear H
    try go_wp2
    have n0_ : Aside0 (((((w67.setCell ⟨g185, 0, none⟩ (.int .u64 t181)).setCell ⟨g185, 1, none⟩ (.int .u64 t182)).setCell ⟨g185, 2, none⟩ (.int .u64 t183)).setCell ⟨g185, 3, none⟩ (.int .u64 t184)).heap[g161]? = some (.cells #[.int .u64 t173, .int .u64 t175, .int .u64 t177, .int .u64 t179] 23 (0, 0))) := ⟨by refine blk_far ?_ NB161_185.out _; refine blk_far ?_ NB161_185.out _; refine blk_far ?_ NB161_185.out _; refine blk_far ?_ NB161_185.out _; exact B161.out⟩
    have n1_ : Aside0 (((((w67.setCell ⟨g185, 0, none⟩ (.int .u64 t181)).setCell ⟨g185, 1, none⟩ (.int .u64 t182)).setCell ⟨g185, 2, none⟩ (.int .u64 t183)).setCell ⟨g185, 3, none⟩ (.int .u64 t184)).heap[g162]? = some (.cells #[.int .u64 0, .int .u64 0, .int .u64 0, .int .u64 0] 23 (0, 0))) := ⟨by refine blk_far ?_ NB162_185.out _; refine blk_far ?_ NB162_185.out _; refine blk_far ?_ NB162_185.out _; refine blk_far ?_ NB162_185.out _; exact B162.out⟩
    have n2_ : Aside0 (((((w67.setCell ⟨g185, 0, none⟩ (.int .u64 t181)).setCell ⟨g185, 1, none⟩ (.int .u64 t182)).setCell ⟨g185, 2, none⟩ (.int .u64 t183)).setCell ⟨g185, 3, none⟩ (.int .u64 t184)).heap[g180]? = some (.cells #[.int .u64 0, .int .u64 0, .int .u64 0, .int .u64 0] 23 (0, 0))) := ⟨by refine blk_far ?_ NB180_185.out _; refine blk_far ?_ NB180_185.out _; refine blk_far ?_ NB180_185.out _; refine blk_far ?_ NB180_185.out _; exact B180.out⟩
    have n3_ : Aside0 (((((w67.setCell ⟨g185, 0, none⟩ (.int .u64 t181)).setCell ⟨g185, 1, none⟩ (.int .u64 t182)).setCell ⟨g185, 2, none⟩ (.int .u64 t183)).setCell ⟨g185, 3, none⟩ (.int .u64 t184)).heap[g185]? = some (.cells #[.int .u64 t181, .int .u64 t182, .int .u64 t183, .int .u64 t184] 23 (0, 0))) := ⟨by refine blk_put (cs := #[.int .u64 t181, .int .u64 t182, .int .u64 t183, .int .u64 0]) ?_ 3 _ rfl; refine blk_put (cs := #[.int .u64 t181, .int .u64 t182, .int .u64 0, .int .u64 0]) ?_ 2 _ rfl; refine blk_put (cs := #[.int .u64 t181, .int .u64 0, .int .u64 0, .int .u64 0]) ?_ 1 _ rfl; refine blk_put (cs := #[.int .u64 0, .int .u64 0, .int .u64 0, .int .u64 0]) ?_ 0 _ rfl; exact B185.out⟩
    have n4_ : Aside0 (Below w.heap.size w ((((w67.setCell ⟨g185, 0, none⟩ (.int .u64 t181)).setCell ⟨g185, 1, none⟩ (.int .u64 t182)).setCell ⟨g185, 2, none⟩ (.int .u64 t183)).setCell ⟨g185, 3, none⟩ (.int .u64 t184))) := ⟨by repeat (first | (with_reducible first | exact HB.out | apply below_alloc | apply pw_below_drewN | apply below_drew1 | refine below_set ?_ GE161.out | refine below_set ?_ GE162.out | refine below_set ?_ GE180.out | refine below_set ?_ GE185.out) | exact HB.out)⟩
    (try clear B161)
    (try clear B162)
    (try clear B180)
    (try clear B185)
    (try clear HB)
    generalize ((((w67.setCell ⟨g185, 0, none⟩ (.int .u64 t181)).setCell ⟨g185, 1, none⟩ (.int .u64 t182)).setCell ⟨g185, 2, none⟩ (.int .u64 t183)).setCell ⟨g185, 3, none⟩ (.int .u64 t184)) = w75 at n0_ n1_ n2_ n3_ n4_ ⊢
    have B161 := n0_
    have B162 := n1_
    have B180 := n2_
    have B185 := n3_
    have HB := n4_
    clear n0_ n1_ n2_ n3_ n4_
    have n0_ := Aside0.mk (blk_drew B161.out)
    have n1_ := Aside0.mk (blk_drew B162.out)
    have n2_ := Aside0.mk (blk_drew B180.out)
    have n3_ := Aside0.mk (blk_drew B185.out)
    have n4_ := Aside0.mk (below_drew1 HB.out)
    clear B161
    clear B162
    clear B180
    clear B185
    clear HB
    have B161 := n0_
    have B162 := n1_
    have B180 := n2_
    have B185 := n3_
    have HB := n4_
    clear n0_ n1_ n2_ n3_ n4_
    refine start_ (n := 16) (S := fun w' => w'.cell? ⟨g180, 0, none⟩ = some (.int .u64 0) ∧ w'.cell? ⟨g180, 1, none⟩ = some (.int .u64 0) ∧ w'.cell? ⟨g180, 2, none⟩ = some (.int .u64 0) ∧ w'.cell? ⟨g180, 3, none⟩ = some (.int .u64 0) ∧ w'.cell? ⟨g185, 0, none⟩ = some (.int .u64 t181) ∧ w'.cell? ⟨g185, 1, none⟩ = some (.int .u64 t182) ∧ w'.cell? ⟨g185, 2, none⟩ = some (.int .u64 t183) ∧ w'.cell? ⟨g185, 3, none⟩ = some (.int .u64 t184) ∧ w'.cell? ⟨g161, 0, none⟩ = some (.int .u64 t173) ∧ w'.cell? ⟨g161, 1, none⟩ = some (.int .u64 t175) ∧ w'.cell? ⟨g161, 2, none⟩ = some (.int .u64 t177) ∧ w'.cell? ⟨g161, 3, none⟩ = some (.int .u64 t179)) (ds := [15]) z15_25_ (by kernel_rfl) rfl rfl ⟨bq_ B180 0, bq_ B180 1, bq_ B180 2, bq_ B180 3, bq_ B185 0, bq_ B185 1, bq_ B185 2, bq_ B185 3, bq_ B161 0, bq_ B161 1, bq_ B161 2, bq_ B161 3⟩ (fun hL => ?_); refine with_tabW attestorref06_Round.tab19 attestorref06_Round.bits19 (fun T_ W_ => ?_)
    generalize w75.drew = w76 at B161 B162 B180 B185 HB hL ⊢
    refine pure_ (i := 0) (N := some 64) (v := ?_) (a' := ?_) z15_26_ rfl rfl (any_of T_.out (by kernel_rfl)) (fun _ _ _ h => h) (Or.inl ⟨by rfl, ?_⟩) ?_ ?_
    rotate_left; · intro w'; go_simp; with_reducible rfl
    rotate_left; · simp only [Act.put, sa_, sb_, sc_, i64_w, i32_w]; rfl
    refine pure_ (i := 1) (N := some 65) (v := ?_) (a' := ?_) z15_27_ rfl rfl (any_of T_.out (by kernel_rfl)) (fun _ _ _ h => h) (Or.inl ⟨by rfl, ?_⟩) ?_ ?_
    rotate_left; · intro w'; go_simp; with_reducible rfl
    rotate_left; · simp only [Act.put, sa_, sb_, sc_, i64_w, i32_w]; rfl
    refine pure_ (i := 2) (N := some 66) (v := ?_) (a' := ?_) z15_28_ rfl rfl (any_of T_.out (by kernel_rfl)) (fun _ _ _ h => h) (Or.inl ⟨by rfl, ?_⟩) ?_ ?_
    rotate_left; · intro w'; go_simp; with_reducible rfl
    rotate_left; · simp only [Act.put, sa_, sb_, sc_, i64_w, i32_w]; rfl
    refine pure_ (i := 3) (N := some 67) (v := ?_) (a' := ?_) z15_29_ rfl rfl (any_of T_.out (by kernel_rfl)) (fun _ _ _ h => h) (Or.inl ⟨by rfl, ?_⟩) ?_ ?_
    rotate_left; · intro w'; go_simp; with_reducible rfl
    rotate_left; · simp only [Act.put, sa_, sb_, sc_, i64_w, i32_w]; rfl
    refine pure_ (i := 5) (N := some 69) (v := ?_) (a' := ?_) z15_30_ rfl rfl (any_of T_.out (by kernel_rfl)) (fun _ _ _ h => h) (Or.inl ⟨by rfl, ?_⟩) ?_ ?_
    rotate_left; · intro w'; go_simp; with_reducible rfl
    rotate_left; · simp only [Act.put, sa_, sb_, sc_, i64_w, i32_w]; rfl
    refine pure_ (i := 6) (N := some 70) (v := ?_) (a' := ?_) z15_31_ rfl rfl (any_of T_.out (by kernel_rfl)) (fun _ _ _ h => h) (Or.inl ⟨by rfl, ?_⟩) ?_ ?_
    rotate_left; · intro w'; go_simp; with_reducible rfl
    rotate_left; · simp only [Act.put, sa_, sb_, sc_, i64_w, i32_w]; rfl
    refine pure_ (i := 7) (N := some 71) (v := ?_) (a' := ?_) z15_32_ rfl rfl (any_of T_.out (by kernel_rfl)) (fun _ _ _ h => h) (Or.inl ⟨by rfl, ?_⟩) ?_ ?_
    rotate_left; · intro w'; go_simp; with_reducible rfl
    rotate_left; · simp only [Act.put, sa_, sb_, sc_, i64_w, i32_w]; rfl
    refine pure_ (i := 9) (N := some 73) (v := ?_) (a' := ?_) z15_33_ rfl rfl (any_of T_.out (by kernel_rfl)) (fun _ _ _ h => h) (Or.inl ⟨by rfl, ?_⟩) ?_ ?_
    rotate_left; · intro w'; go_simp; with_reducible rfl
    rotate_left; · simp only [Act.put, sa_, sb_, sc_, i64_w, i32_w]; rfl
    refine pure_ (i := 10) (N := some 74) (v := ?_) (a' := ?_) z15_34_ rfl rfl (any_of T_.out (by kernel_rfl)) (fun _ _ _ h => h) (Or.inl ⟨by rfl, ?_⟩) ?_ ?_
    rotate_left; · intro w'; go_simp; with_reducible rfl
    rotate_left; · simp only [Act.put, sa_, sb_, sc_, i64_w, i32_w]; rfl
    refine take_ (i := 4) (N := some 68) (v := ?_) (a' := ?_) z15_35_ rfl rfl (take_ofW T_.out W_.out (by kernel_rfl)) (fun _ _ _ h => h) (Or.inl ⟨by rfl, ?_⟩) hL ?_ ?_
    rotate_left
    ·rintro w' ⟨s0, s1, s2, s3, s4, s5, s6, s7, s8, s9, s10, s11⟩
     go_simp
     with_reducible rfl
    rotate_left
    ·simp only [Act.put, sa_, sb_, sc_, i64_w, i32_w]
     rfl
    refine take_ (i := 8) (N := some 72) (v := ?_) (a' := ?_) z15_36_ rfl rfl (take_ofW T_.out W_.out (by kernel_rfl)) (fun _ _ _ h => h) (Or.inl ⟨by rfl, ?_⟩) hL ?_ ?_
    rotate_left
    ·rintro w' ⟨s0, s1, s2, s3, s4, s5, s6, s7, s8, s9, s10, s11⟩
     go_simp
     with_reducible rfl
    rotate_left
    ·simp only [Act.put, sa_, sb_, sc_, i64_w, i32_w]
     rfl
    refine take_ (i := 11) (N := some 75) (v := ?_) (a' := ?_) z15_37_ rfl rfl (take_ofW T_.out W_.out (by kernel_rfl)) (fun _ _ _ h => h) (Or.inl ⟨by rfl, ?_⟩) hL ?_ ?_
    rotate_left
    ·rintro w' ⟨s0, s1, s2, s3, s4, s5, s6, s7, s8, s9, s10, s11⟩
     go_simp
     with_reducible rfl
    rotate_left
    ·simp only [Act.put, sa_, sb_, sc_, i64_w, i32_w]
     rfl
    refine one_ (i := 12) (N := some 76) z15_38_ rfl rfl (one_of T_.out (by kernel_rfl)) (by decide) (fun K hK => ?_)
    refine goes_ Tryd.func40 (by kernel_rfl) rfl #[.int .i64 a0, .int .u64 t181, .int .u64 t173] (by rfl) rfl rfl (by (try simp only [List.map_toArray, List.map_cons, List.map_nil]); first | done | rfl) ?_
    with_reducible refine (attestorref01_Mul.calls a0 t181 t173 t186 _ A72.out).mono ?_
    rintro e w' ⟨rfl, ⟨nd, rfl⟩⟩
    refine ⟨_, rfl, ?_⟩
    (try (rw [drewN_self w76]; generalize q_ : World.drewN w76 _ = w76; replace B161 := ra_ q_ B161; replace B162 := ra_ q_ B162; replace B180 := ra_ q_ B180; replace B185 := ra_ q_ B185; replace HB := rb_ q_ HB; clear q_))
    refine hK.out _ _ ⟨bq_ B180 0, bq_ B180 1, bq_ B180 2, bq_ B180 3, bq_ B185 0, bq_ B185 1, bq_ B185 2, bq_ B185 3, bq_ B161 0, bq_ B161 1, bq_ B161 2, bq_ B161 3⟩ (fun hL => ?_)
    clear hK K
    refine norm_ (a' := ?_) ?_ ?_
    rotate_left
    ·show Act.put _ (some 76) _ = _
     simp only [Act.put, sa_, sb_, sc_, i64_w, i32_w]
     rfl
    refine one_ (i := 13) (N := some 77) z15_39_ rfl rfl (one_of T_.out (by kernel_rfl)) (by decide) (fun K hK => ?_)
    refine goes_ Tryd.func32 (by kernel_rfl) rfl #[.int .i64 a0, .int .u64 0, .int .u64 t186] (by rfl) rfl rfl (by (try simp only [List.map_toArray, List.map_cons, List.map_nil]); first | done | rfl) ?_
    with_reducible refine (attestorref01_Add.calls a0 0 t186 t187 _ A73.out).mono ?_
    rintro e w' ⟨rfl, ⟨nd, rfl⟩⟩
    refine ⟨_, rfl, ?_⟩
    (try (rw [drewN_self w76]; generalize q_ : World.drewN w76 _ = w76; replace B161 := ra_ q_ B161; replace B162 := ra_ q_ B162; replace B180 := ra_ q_ B180; replace B185 := ra_ q_ B185; replace HB := rb_ q_ HB; clear q_))
    refine hK.out _ _ ⟨bq_ B180 0, bq_ B180 1, bq_ B180 2, bq_ B180 3, bq_ B185 0, bq_ B185 1, bq_ B185 2, bq_ B185 3, bq_ B161 0, bq_ B161 1, bq_ B161 2, bq_ B161 3⟩ (fun hL => ?_)
    clear hK K
    refine norm_ (a' := ?_) ?_ ?_
    rotate_left
    ·show Act.put _ (some 77) _ = _
     simp only [Act.put, sa_, sb_, sc_, i64_w, i32_w]
     rfl
    refine pure_ (i := 14) (N := some 78) (v := ?_) (a' := ?_) z15_40_ rfl rfl (any_of T_.out (by kernel_rfl)) (fun _ _ _ h => h) (Or.inl ⟨by rfl, ?_⟩) ?_ ?_
    rotate_left; · intro w'; go_simp; with_reducible rfl
    rotate_left; · simp only [Act.put, sa_, sb_, sc_, i64_w, i32_w]; rfl
    refine last_ (i := 15) (N := none) z15_41_ rfl rfl (one_of T_.out (by kernel_rfl)) (by decide) (fun K hK => ?_)
    have hs77 : w76.cell? ⟨g180, 0, none⟩ = some (.int .u64 0) := bq_ B180 0
    have hfs77 := blk_frozen B180.out 0
    have hns77_0 := NB161_180.out
    have hns77_1 := NB162_180.out
    have hns77_3 := NB185_180.out
    have hms77_0 := NB180_161.out
    have hms77_1 := NB180_162.out
    have hms77_3 := NB180_185.out
    refine skip_ (w1 := ?_) (by rfl) rfl ?_ ?_
    rotate_left
    ·go_simp
     rfl
    refine hK.out _ _ ?_
    clear hK K
    refine done_ (done_of T_.out (by kernel_rfl)) ?_
    try go_wp2
    rw [rounds_succ]
    have H := HC74.out
    clear HC74
    replace H := Option.bind_eq_some_iff.mp H
    obtain ⟨t188, A780, H⟩ := H
    (try dsimp only at H)
    have A78 := Aside0.mk A780
    clear A780
    replace H := Option.bind_eq_some_iff.mp H
    obtain ⟨t189, A790, H⟩ := H
    (try dsimp only at H)
    have A79 := Aside0.mk A790
    clear A790
    have HC80 := Aside0.mk H
    clear H
    try go_wp2
    have n0_ := bf_ B161 NB161_180 ⟨g180, 0, none⟩ (.int .u64 t187) rfl
    have n1_ := bf_ B162 NB162_180 ⟨g180, 0, none⟩ (.int .u64 t187) rfl
    have n2_ : Aside0 ((w76.setCell ⟨g180, 0, none⟩ (.int .u64 t187)).heap[g180]? = some (.cells #[.int .u64 t187, .int .u64 0, .int .u64 0, .int .u64 0] 23 (0, 0))) := ⟨by refine blk_put (cs := #[.int .u64 0, .int .u64 0, .int .u64 0, .int .u64 0]) ?_ 0 _ rfl; exact B180.out⟩
    have n3_ := bf_ B185 NB185_180 ⟨g180, 0, none⟩ (.int .u64 t187) rfl
    have n4_ : Aside0 (Below w.heap.size w (w76.setCell ⟨g180, 0, none⟩ (.int .u64 t187))) := ⟨by repeat (first | (with_reducible first | exact HB.out | apply below_alloc | apply pw_below_drewN | apply below_drew1 | refine below_set ?_ GE161.out | refine below_set ?_ GE162.out | refine below_set ?_ GE180.out | refine below_set ?_ GE185.out) | exact HB.out)⟩
    (try clear B161)
    (try clear B162)
    (try clear B180)
    (try clear B185)
    (try clear HB)
    generalize (w76.setCell ⟨g180, 0, none⟩ (.int .u64 t187)) = w81 at n0_ n1_ n2_ n3_ n4_ ⊢
    have B161 := n0_
    have B162 := n1_
    have B180 := n2_
    have B185 := n3_
    have HB := n4_
    clear n0_ n1_ n2_ n3_ n4_
    have n0_ := Aside0.mk (blk_drew B161.out)
    have n1_ := Aside0.mk (blk_drew B162.out)
    have n2_ := Aside0.mk (blk_drew B180.out)
    have n3_ := Aside0.mk (blk_drew B185.out)
    have n4_ := Aside0.mk (below_drew1 HB.out)
    clear B161
    clear B162
    clear B180
    clear B185
    clear HB
    have B161 := n0_
    have B162 := n1_
    have B180 := n2_
    have B185 := n3_
    have HB := n4_
    clear n0_ n1_ n2_ n3_ n4_
    refine start_ (n := 16) (S := fun w' => w'.cell? ⟨g180, 0, none⟩ = some (.int .u64 t187) ∧ w'.cell? ⟨g180, 1, none⟩ = some (.int .u64 0) ∧ w'.cell? ⟨g180, 2, none⟩ = some (.int .u64 0) ∧ w'.cell? ⟨g180, 3, none⟩ = some (.int .u64 0) ∧ w'.cell? ⟨g185, 0, none⟩ = some (.int .u64 t181) ∧ w'.cell? ⟨g185, 1, none⟩ = some (.int .u64 t182) ∧ w'.cell? ⟨g185, 2, none⟩ = some (.int .u64 t183) ∧ w'.cell? ⟨g185, 3, none⟩ = some (.int .u64 t184) ∧ w'.cell? ⟨g161, 0, none⟩ = some (.int .u64 t173) ∧ w'.cell? ⟨g161, 1, none⟩ = some (.int .u64 t175) ∧ w'.cell? ⟨g161, 2, none⟩ = some (.int .u64 t177) ∧ w'.cell? ⟨g161, 3, none⟩ = some (.int .u64 t179)) (ds := [15]) z15_25_ (by kernel_rfl) rfl rfl ⟨bq_ B180 0, bq_ B180 1, bq_ B180 2, bq_ B180 3, bq_ B185 0, bq_ B185 1, bq_ B185 2, bq_ B185 3, bq_ B161 0, bq_ B161 1, bq_ B161 2, bq_ B161 3⟩ (fun hL => ?_); refine with_tabW attestorref06_Round.tab19 attestorref06_Round.bits19 (fun T_ W_ => ?_)
    generalize w81.drew = w82 at B161 B162 B180 B185 HB hL ⊢
    refine pure_ (i := 0) (N := some 64) (v := ?_) (a' := ?_) z15_26_ rfl rfl (any_of T_.out (by kernel_rfl)) (fun _ _ _ h => h) (Or.inl ⟨by rfl, ?_⟩) ?_ ?_
    rotate_left; · intro w'; go_simp; with_reducible rfl
    rotate_left; · simp only [Act.put, sa_, sb_, sc_, i64_w, i32_w]; rfl
    refine pure_ (i := 1) (N := some 65) (v := ?_) (a' := ?_) z15_27_ rfl rfl (any_of T_.out (by kernel_rfl)) (fun _ _ _ h => h) (Or.inl ⟨by rfl, ?_⟩) ?_ ?_
    rotate_left; · intro w'; go_simp; with_reducible rfl
    rotate_left; · simp only [Act.put, sa_, sb_, sc_, i64_w, i32_w]; rfl
    refine pure_ (i := 2) (N := some 66) (v := ?_) (a' := ?_) z15_28_ rfl rfl (any_of T_.out (by kernel_rfl)) (fun _ _ _ h => h) (Or.inl ⟨by rfl, ?_⟩) ?_ ?_
    rotate_left; · intro w'; go_simp; with_reducible rfl
    rotate_left; · simp only [Act.put, sa_, sb_, sc_, i64_w, i32_w]; rfl
    refine pure_ (i := 3) (N := some 67) (v := ?_) (a' := ?_) z15_29_ rfl rfl (any_of T_.out (by kernel_rfl)) (fun _ _ _ h => h) (Or.inl ⟨by rfl, ?_⟩) ?_ ?_
    rotate_left; · intro w'; go_simp; with_reducible rfl
    rotate_left; · simp only [Act.put, sa_, sb_, sc_, i64_w, i32_w]; rfl
    refine pure_ (i := 5) (N := some 69) (v := ?_) (a' := ?_) z15_30_ rfl rfl (any_of T_.out (by kernel_rfl)) (fun _ _ _ h => h) (Or.inl ⟨by rfl, ?_⟩) ?_ ?_
    rotate_left; · intro w'; go_simp; with_reducible rfl
    rotate_left; · simp only [Act.put, sa_, sb_, sc_, i64_w, i32_w]; rfl
    refine pure_ (i := 6) (N := some 70) (v := ?_) (a' := ?_) z15_31_ rfl rfl (any_of T_.out (by kernel_rfl)) (fun _ _ _ h => h) (Or.inl ⟨by rfl, ?_⟩) ?_ ?_
    rotate_left; · intro w'; go_simp; with_reducible rfl
    rotate_left; · simp only [Act.put, sa_, sb_, sc_, i64_w, i32_w]; rfl
    refine pure_ (i := 7) (N := some 71) (v := ?_) (a' := ?_) z15_32_ rfl rfl (any_of T_.out (by kernel_rfl)) (fun _ _ _ h => h) (Or.inl ⟨by rfl, ?_⟩) ?_ ?_
    rotate_left; · intro w'; go_simp; with_reducible rfl
    rotate_left; · simp only [Act.put, sa_, sb_, sc_, i64_w, i32_w]; rfl
    refine pure_ (i := 9) (N := some 73) (v := ?_) (a' := ?_) z15_33_ rfl rfl (any_of T_.out (by kernel_rfl)) (fun _ _ _ h => h) (Or.inl ⟨by rfl, ?_⟩) ?_ ?_
    rotate_left; · intro w'; go_simp; with_reducible rfl
    rotate_left; · simp only [Act.put, sa_, sb_, sc_, i64_w, i32_w]; rfl
    refine pure_ (i := 10) (N := some 74) (v := ?_) (a' := ?_) z15_34_ rfl rfl (any_of T_.out (by kernel_rfl)) (fun _ _ _ h => h) (Or.inl ⟨by rfl, ?_⟩) ?_ ?_
    rotate_left; · intro w'; go_simp; with_reducible rfl
    rotate_left; · simp only [Act.put, sa_, sb_, sc_, i64_w, i32_w]; rfl
    refine take_ (i := 4) (N := some 68) (v := ?_) (a' := ?_) z15_35_ rfl rfl (take_ofW T_.out W_.out (by kernel_rfl)) (fun _ _ _ h => h) (Or.inl ⟨by rfl, ?_⟩) hL ?_ ?_
    rotate_left
    ·rintro w' ⟨s0, s1, s2, s3, s4, s5, s6, s7, s8, s9, s10, s11⟩
     go_simp
     with_reducible rfl
    rotate_left
    ·simp only [Act.put, sa_, sb_, sc_, i64_w, i32_w]
     rfl
    refine take_ (i := 8) (N := some 72) (v := ?_) (a' := ?_) z15_36_ rfl rfl (take_ofW T_.out W_.out (by kernel_rfl)) (fun _ _ _ h => h) (Or.inl ⟨by rfl, ?_⟩) hL ?_ ?_
    rotate_left
    ·rintro w' ⟨s0, s1, s2, s3, s4, s5, s6, s7, s8, s9, s10, s11⟩
     go_simp
     with_reducible rfl
    rotate_left
    ·simp only [Act.put, sa_, sb_, sc_, i64_w, i32_w]
     rfl
    refine take_ (i := 11) (N := some 75) (v := ?_) (a' := ?_) z15_37_ rfl rfl (take_ofW T_.out W_.out (by kernel_rfl)) (fun _ _ _ h => h) (Or.inl ⟨by rfl, ?_⟩) hL ?_ ?_
    rotate_left
    ·rintro w' ⟨s0, s1, s2, s3, s4, s5, s6, s7, s8, s9, s10, s11⟩
     go_simp
     with_reducible rfl
    rotate_left
    ·simp only [Act.put, sa_, sb_, sc_, i64_w, i32_w]
     rfl
    refine one_ (i := 12) (N := some 76) z15_38_ rfl rfl (one_of T_.out (by kernel_rfl)) (by decide) (fun K hK => ?_)
    refine goes_ Tryd.func40 (by kernel_rfl) rfl #[.int .i64 a0, .int .u64 t182, .int .u64 t175] (by rfl) rfl rfl (by (try simp only [List.map_toArray, List.map_cons, List.map_nil]); first | done | rfl) ?_
    with_reducible refine (attestorref01_Mul.calls a0 t182 t175 t188 _ A78.out).mono ?_
    rintro e w' ⟨rfl, ⟨nd, rfl⟩⟩
    refine ⟨_, rfl, ?_⟩
    (try (rw [drewN_self w82]; generalize q_ : World.drewN w82 _ = w82; replace B161 := ra_ q_ B161; replace B162 := ra_ q_ B162; replace B180 := ra_ q_ B180; replace B185 := ra_ q_ B185; replace HB := rb_ q_ HB; clear q_))
    refine hK.out _ _ ⟨bq_ B180 0, bq_ B180 1, bq_ B180 2, bq_ B180 3, bq_ B185 0, bq_ B185 1, bq_ B185 2, bq_ B185 3, bq_ B161 0, bq_ B161 1, bq_ B161 2, bq_ B161 3⟩ (fun hL => ?_)
    clear hK K
    refine norm_ (a' := ?_) ?_ ?_
    rotate_left
    ·show Act.put _ (some 76) _ = _
     simp only [Act.put, sa_, sb_, sc_, i64_w, i32_w]
     rfl
    refine one_ (i := 13) (N := some 77) z15_39_ rfl rfl (one_of T_.out (by kernel_rfl)) (by decide) (fun K hK => ?_)
    refine goes_ Tryd.func32 (by kernel_rfl) rfl #[.int .i64 a0, .int .u64 t187, .int .u64 t188] (by rfl) rfl rfl (by (try simp only [List.map_toArray, List.map_cons, List.map_nil]); first | done | rfl) ?_
    with_reducible refine (attestorref01_Add.calls a0 t187 t188 t189 _ A79.out).mono ?_
    rintro e w' ⟨rfl, ⟨nd, rfl⟩⟩
    refine ⟨_, rfl, ?_⟩
    (try (rw [drewN_self w82]; generalize q_ : World.drewN w82 _ = w82; replace B161 := ra_ q_ B161; replace B162 := ra_ q_ B162; replace B180 := ra_ q_ B180; replace B185 := ra_ q_ B185; replace HB := rb_ q_ HB; clear q_))
    refine hK.out _ _ ⟨bq_ B180 0, bq_ B180 1, bq_ B180 2, bq_ B180 3, bq_ B185 0, bq_ B185 1, bq_ B185 2, bq_ B185 3, bq_ B161 0, bq_ B161 1, bq_ B161 2, bq_ B161 3⟩ (fun hL => ?_)
    clear hK K
    refine norm_ (a' := ?_) ?_ ?_
    rotate_left
    ·show Act.put _ (some 77) _ = _
     simp only [Act.put, sa_, sb_, sc_, i64_w, i32_w]
     rfl
    refine pure_ (i := 14) (N := some 78) (v := ?_) (a' := ?_) z15_40_ rfl rfl (any_of T_.out (by kernel_rfl)) (fun _ _ _ h => h) (Or.inl ⟨by rfl, ?_⟩) ?_ ?_
    rotate_left; · intro w'; go_simp; with_reducible rfl
    rotate_left; · simp only [Act.put, sa_, sb_, sc_, i64_w, i32_w]; rfl
    refine last_ (i := 15) (N := none) z15_41_ rfl rfl (one_of T_.out (by kernel_rfl)) (by decide) (fun K hK => ?_)
    have hs83 : w82.cell? ⟨g180, 0, none⟩ = some (.int .u64 t187) := bq_ B180 0
    have hfs83 := blk_frozen B180.out 0
    have hns83_0 := NB161_180.out
    have hns83_1 := NB162_180.out
    have hns83_3 := NB185_180.out
    have hms83_0 := NB180_161.out
    have hms83_1 := NB180_162.out
    have hms83_3 := NB180_185.out
    refine skip_ (w1 := ?_) (by rfl) rfl ?_ ?_
    rotate_left
    ·go_simp
     rfl
    refine hK.out _ _ ?_
    clear hK K
    refine done_ (done_of T_.out (by kernel_rfl)) ?_
    try go_wp2
    rw [rounds_succ]
    have H := HC80.out
    clear HC80
    replace H := Option.bind_eq_some_iff.mp H
    obtain ⟨t190, A840, H⟩ := H
    (try dsimp only at H)
    have A84 := Aside0.mk A840
    clear A840
    replace H := Option.bind_eq_some_iff.mp H
    obtain ⟨t191, A850, H⟩ := H
    (try dsimp only at H)
    have A85 := Aside0.mk A850
    clear A850
    have HC86 := Aside0.mk H
    clear H
    try go_wp2
    have n0_ := bf_ B161 NB161_180 ⟨g180, 0, none⟩ (.int .u64 t189) rfl
    have n1_ := bf_ B162 NB162_180 ⟨g180, 0, none⟩ (.int .u64 t189) rfl
    have n2_ : Aside0 ((w82.setCell ⟨g180, 0, none⟩ (.int .u64 t189)).heap[g180]? = some (.cells #[.int .u64 t189, .int .u64 0, .int .u64 0, .int .u64 0] 23 (0, 0))) := ⟨by refine blk_put (cs := #[.int .u64 t187, .int .u64 0, .int .u64 0, .int .u64 0]) ?_ 0 _ rfl; exact B180.out⟩
    have n3_ := bf_ B185 NB185_180 ⟨g180, 0, none⟩ (.int .u64 t189) rfl
    have n4_ : Aside0 (Below w.heap.size w (w82.setCell ⟨g180, 0, none⟩ (.int .u64 t189))) := ⟨by repeat (first | (with_reducible first | exact HB.out | apply below_alloc | apply pw_below_drewN | apply below_drew1 | refine below_set ?_ GE161.out | refine below_set ?_ GE162.out | refine below_set ?_ GE180.out | refine below_set ?_ GE185.out) | exact HB.out)⟩
    (try clear B161)
    (try clear B162)
    (try clear B180)
    (try clear B185)
    (try clear HB)
    generalize (w82.setCell ⟨g180, 0, none⟩ (.int .u64 t189)) = w87 at n0_ n1_ n2_ n3_ n4_ ⊢
    have B161 := n0_
    have B162 := n1_
    have B180 := n2_
    have B185 := n3_
    have HB := n4_
    clear n0_ n1_ n2_ n3_ n4_
    have n0_ := Aside0.mk (blk_drew B161.out)
    have n1_ := Aside0.mk (blk_drew B162.out)
    have n2_ := Aside0.mk (blk_drew B180.out)
    have n3_ := Aside0.mk (blk_drew B185.out)
    have n4_ := Aside0.mk (below_drew1 HB.out)
    clear B161
    clear B162
    clear B180
    clear B185
    clear HB
    have B161 := n0_
    have B162 := n1_
    have B180 := n2_
    have B185 := n3_
    have HB := n4_
    clear n0_ n1_ n2_ n3_ n4_
    refine start_ (n := 16) (S := fun w' => w'.cell? ⟨g180, 0, none⟩ = some (.int .u64 t189) ∧ w'.cell? ⟨g180, 1, none⟩ = some (.int .u64 0) ∧ w'.cell? ⟨g180, 2, none⟩ = some (.int .u64 0) ∧ w'.cell? ⟨g180, 3, none⟩ = some (.int .u64 0) ∧ w'.cell? ⟨g185, 0, none⟩ = some (.int .u64 t181) ∧ w'.cell? ⟨g185, 1, none⟩ = some (.int .u64 t182) ∧ w'.cell? ⟨g185, 2, none⟩ = some (.int .u64 t183) ∧ w'.cell? ⟨g185, 3, none⟩ = some (.int .u64 t184) ∧ w'.cell? ⟨g161, 0, none⟩ = some (.int .u64 t173) ∧ w'.cell? ⟨g161, 1, none⟩ = some (.int .u64 t175) ∧ w'.cell? ⟨g161, 2, none⟩ = some (.int .u64 t177) ∧ w'.cell? ⟨g161, 3, none⟩ = some (.int .u64 t179)) (ds := [15]) z15_25_ (by kernel_rfl) rfl rfl ⟨bq_ B180 0, bq_ B180 1, bq_ B180 2, bq_ B180 3, bq_ B185 0, bq_ B185 1, bq_ B185 2, bq_ B185 3, bq_ B161 0, bq_ B161 1, bq_ B161 2, bq_ B161 3⟩ (fun hL => ?_); refine with_tabW attestorref06_Round.tab19 attestorref06_Round.bits19 (fun T_ W_ => ?_)
    generalize w87.drew = w88 at B161 B162 B180 B185 HB hL ⊢
    refine pure_ (i := 0) (N := some 64) (v := ?_) (a' := ?_) z15_26_ rfl rfl (any_of T_.out (by kernel_rfl)) (fun _ _ _ h => h) (Or.inl ⟨by rfl, ?_⟩) ?_ ?_
    rotate_left; · intro w'; go_simp; with_reducible rfl
    rotate_left; · simp only [Act.put, sa_, sb_, sc_, i64_w, i32_w]; rfl
    refine pure_ (i := 1) (N := some 65) (v := ?_) (a' := ?_) z15_27_ rfl rfl (any_of T_.out (by kernel_rfl)) (fun _ _ _ h => h) (Or.inl ⟨by rfl, ?_⟩) ?_ ?_
    rotate_left; · intro w'; go_simp; with_reducible rfl
    rotate_left; · simp only [Act.put, sa_, sb_, sc_, i64_w, i32_w]; rfl
    refine pure_ (i := 2) (N := some 66) (v := ?_) (a' := ?_) z15_28_ rfl rfl (any_of T_.out (by kernel_rfl)) (fun _ _ _ h => h) (Or.inl ⟨by rfl, ?_⟩) ?_ ?_
    rotate_left; · intro w'; go_simp; with_reducible rfl
    rotate_left; · simp only [Act.put, sa_, sb_, sc_, i64_w, i32_w]; rfl
    refine pure_ (i := 3) (N := some 67) (v := ?_) (a' := ?_) z15_29_ rfl rfl (any_of T_.out (by kernel_rfl)) (fun _ _ _ h => h) (Or.inl ⟨by rfl, ?_⟩) ?_ ?_
    rotate_left; · intro w'; go_simp; with_reducible rfl
    rotate_left; · simp only [Act.put, sa_, sb_, sc_, i64_w, i32_w]; rfl
    refine pure_ (i := 5) (N := some 69) (v := ?_) (a' := ?_) z15_30_ rfl rfl (any_of T_.out (by kernel_rfl)) (fun _ _ _ h => h) (Or.inl ⟨by rfl, ?_⟩) ?_ ?_
    rotate_left; · intro w'; go_simp; with_reducible rfl
    rotate_left; · simp only [Act.put, sa_, sb_, sc_, i64_w, i32_w]; rfl
    refine pure_ (i := 6) (N := some 70) (v := ?_) (a' := ?_) z15_31_ rfl rfl (any_of T_.out (by kernel_rfl)) (fun _ _ _ h => h) (Or.inl ⟨by rfl, ?_⟩) ?_ ?_
    rotate_left; · intro w'; go_simp; with_reducible rfl
    rotate_left; · simp only [Act.put, sa_, sb_, sc_, i64_w, i32_w]; rfl
    refine pure_ (i := 7) (N := some 71) (v := ?_) (a' := ?_) z15_32_ rfl rfl (any_of T_.out (by kernel_rfl)) (fun _ _ _ h => h) (Or.inl ⟨by rfl, ?_⟩) ?_ ?_
    rotate_left; · intro w'; go_simp; with_reducible rfl
    rotate_left; · simp only [Act.put, sa_, sb_, sc_, i64_w, i32_w]; rfl
    refine pure_ (i := 9) (N := some 73) (v := ?_) (a' := ?_) z15_33_ rfl rfl (any_of T_.out (by kernel_rfl)) (fun _ _ _ h => h) (Or.inl ⟨by rfl, ?_⟩) ?_ ?_
    rotate_left; · intro w'; go_simp; with_reducible rfl
    rotate_left; · simp only [Act.put, sa_, sb_, sc_, i64_w, i32_w]; rfl
    refine pure_ (i := 10) (N := some 74) (v := ?_) (a' := ?_) z15_34_ rfl rfl (any_of T_.out (by kernel_rfl)) (fun _ _ _ h => h) (Or.inl ⟨by rfl, ?_⟩) ?_ ?_
    rotate_left; · intro w'; go_simp; with_reducible rfl
    rotate_left; · simp only [Act.put, sa_, sb_, sc_, i64_w, i32_w]; rfl
    refine take_ (i := 4) (N := some 68) (v := ?_) (a' := ?_) z15_35_ rfl rfl (take_ofW T_.out W_.out (by kernel_rfl)) (fun _ _ _ h => h) (Or.inl ⟨by rfl, ?_⟩) hL ?_ ?_
    rotate_left
    ·rintro w' ⟨s0, s1, s2, s3, s4, s5, s6, s7, s8, s9, s10, s11⟩
     go_simp
     with_reducible rfl
    rotate_left
    ·simp only [Act.put, sa_, sb_, sc_, i64_w, i32_w]
     rfl
    refine take_ (i := 8) (N := some 72) (v := ?_) (a' := ?_) z15_36_ rfl rfl (take_ofW T_.out W_.out (by kernel_rfl)) (fun _ _ _ h => h) (Or.inl ⟨by rfl, ?_⟩) hL ?_ ?_
    rotate_left
    ·rintro w' ⟨s0, s1, s2, s3, s4, s5, s6, s7, s8, s9, s10, s11⟩
     go_simp
     with_reducible rfl
    rotate_left
    ·simp only [Act.put, sa_, sb_, sc_, i64_w, i32_w]
     rfl
    refine take_ (i := 11) (N := some 75) (v := ?_) (a' := ?_) z15_37_ rfl rfl (take_ofW T_.out W_.out (by kernel_rfl)) (fun _ _ _ h => h) (Or.inl ⟨by rfl, ?_⟩) hL ?_ ?_
    rotate_left
    ·rintro w' ⟨s0, s1, s2, s3, s4, s5, s6, s7, s8, s9, s10, s11⟩
     go_simp
     with_reducible rfl
    rotate_left
    ·simp only [Act.put, sa_, sb_, sc_, i64_w, i32_w]
     rfl
    refine one_ (i := 12) (N := some 76) z15_38_ rfl rfl (one_of T_.out (by kernel_rfl)) (by decide) (fun K hK => ?_)
    refine goes_ Tryd.func40 (by kernel_rfl) rfl #[.int .i64 a0, .int .u64 t183, .int .u64 t177] (by rfl) rfl rfl (by (try simp only [List.map_toArray, List.map_cons, List.map_nil]); first | done | rfl) ?_
    with_reducible refine (attestorref01_Mul.calls a0 t183 t177 t190 _ A84.out).mono ?_
    rintro e w' ⟨rfl, ⟨nd, rfl⟩⟩
    refine ⟨_, rfl, ?_⟩
    (try (rw [drewN_self w88]; generalize q_ : World.drewN w88 _ = w88; replace B161 := ra_ q_ B161; replace B162 := ra_ q_ B162; replace B180 := ra_ q_ B180; replace B185 := ra_ q_ B185; replace HB := rb_ q_ HB; clear q_))
    refine hK.out _ _ ⟨bq_ B180 0, bq_ B180 1, bq_ B180 2, bq_ B180 3, bq_ B185 0, bq_ B185 1, bq_ B185 2, bq_ B185 3, bq_ B161 0, bq_ B161 1, bq_ B161 2, bq_ B161 3⟩ (fun hL => ?_)
    clear hK K
    refine norm_ (a' := ?_) ?_ ?_
    rotate_left
    ·show Act.put _ (some 76) _ = _
     simp only [Act.put, sa_, sb_, sc_, i64_w, i32_w]
     rfl
    refine one_ (i := 13) (N := some 77) z15_39_ rfl rfl (one_of T_.out (by kernel_rfl)) (by decide) (fun K hK => ?_)
    refine goes_ Tryd.func32 (by kernel_rfl) rfl #[.int .i64 a0, .int .u64 t189, .int .u64 t190] (by rfl) rfl rfl (by (try simp only [List.map_toArray, List.map_cons, List.map_nil]); first | done | rfl) ?_
    with_reducible refine (attestorref01_Add.calls a0 t189 t190 t191 _ A85.out).mono ?_
    rintro e w' ⟨rfl, ⟨nd, rfl⟩⟩
    refine ⟨_, rfl, ?_⟩
    (try (rw [drewN_self w88]; generalize q_ : World.drewN w88 _ = w88; replace B161 := ra_ q_ B161; replace B162 := ra_ q_ B162; replace B180 := ra_ q_ B180; replace B185 := ra_ q_ B185; replace HB := rb_ q_ HB; clear q_))
    refine hK.out _ _ ⟨bq_ B180 0, bq_ B180 1, bq_ B180 2, bq_ B180 3, bq_ B185 0, bq_ B185 1, bq_ B185 2, bq_ B185 3, bq_ B161 0, bq_ B161 1, bq_ B161 2, bq_ B161 3⟩ (fun hL => ?_)
    clear hK K
    refine norm_ (a' := ?_) ?_ ?_
    rotate_left
    ·show Act.put _ (some 77) _ = _
     simp only [Act.put, sa_, sb_, sc_, i64_w, i32_w]
     rfl
    refine pure_ (i := 14) (N := some 78) (v := ?_) (a' := ?_) z15_40_ rfl rfl (any_of T_.out (by kernel_rfl)) (fun _ _ _ h => h) (Or.inl ⟨by rfl, ?_⟩) ?_ ?_
    rotate_left; · intro w'; go_simp; with_reducible rfl
    rotate_left; · simp only [Act.put, sa_, sb_, sc_, i64_w, i32_w]; rfl
    refine last_ (i := 15) (N := none) z15_41_ rfl rfl (one_of T_.out (by kernel_rfl)) (by decide) (fun K hK => ?_)
    have hs89 : w88.cell? ⟨g180, 0, none⟩ = some (.int .u64 t189) := bq_ B180 0
    have hfs89 := blk_frozen B180.out 0
    have hns89_0 := NB161_180.out
    have hns89_1 := NB162_180.out
    have hns89_3 := NB185_180.out
    have hms89_0 := NB180_161.out
    have hms89_1 := NB180_162.out
    have hms89_3 := NB180_185.out
    refine skip_ (w1 := ?_) (by rfl) rfl ?_ ?_
    rotate_left
    ·go_simp
     rfl
    refine hK.out _ _ ?_
    clear hK K
    refine done_ (done_of T_.out (by kernel_rfl)) ?_
    try go_wp2
    rw [rounds_succ]
    have H := HC86.out
    clear HC86
    replace H := Option.bind_eq_some_iff.mp H
    obtain ⟨t192, A900, H⟩ := H
    (try dsimp only at H)
    have A90 := Aside0.mk A900
    clear A900
    replace H := Option.bind_eq_some_iff.mp H
    obtain ⟨t193, A910, H⟩ := H
    (try dsimp only at H)
    have A91 := Aside0.mk A910
    clear A910
    have HC92 := Aside0.mk H
    clear H
    try go_wp2
    have n0_ := bf_ B161 NB161_180 ⟨g180, 0, none⟩ (.int .u64 t191) rfl
    have n1_ := bf_ B162 NB162_180 ⟨g180, 0, none⟩ (.int .u64 t191) rfl
    have n2_ : Aside0 ((w88.setCell ⟨g180, 0, none⟩ (.int .u64 t191)).heap[g180]? = some (.cells #[.int .u64 t191, .int .u64 0, .int .u64 0, .int .u64 0] 23 (0, 0))) := ⟨by refine blk_put (cs := #[.int .u64 t189, .int .u64 0, .int .u64 0, .int .u64 0]) ?_ 0 _ rfl; exact B180.out⟩
    have n3_ := bf_ B185 NB185_180 ⟨g180, 0, none⟩ (.int .u64 t191) rfl
    have n4_ : Aside0 (Below w.heap.size w (w88.setCell ⟨g180, 0, none⟩ (.int .u64 t191))) := ⟨by repeat (first | (with_reducible first | exact HB.out | apply below_alloc | apply pw_below_drewN | apply below_drew1 | refine below_set ?_ GE161.out | refine below_set ?_ GE162.out | refine below_set ?_ GE180.out | refine below_set ?_ GE185.out) | exact HB.out)⟩
    (try clear B161)
    (try clear B162)
    (try clear B180)
    (try clear B185)
    (try clear HB)
    generalize (w88.setCell ⟨g180, 0, none⟩ (.int .u64 t191)) = w93 at n0_ n1_ n2_ n3_ n4_ ⊢
    have B161 := n0_
    have B162 := n1_
    have B180 := n2_
    have B185 := n3_
    have HB := n4_
    clear n0_ n1_ n2_ n3_ n4_
    have n0_ := Aside0.mk (blk_drew B161.out)
    have n1_ := Aside0.mk (blk_drew B162.out)
    have n2_ := Aside0.mk (blk_drew B180.out)
    have n3_ := Aside0.mk (blk_drew B185.out)
    have n4_ := Aside0.mk (below_drew1 HB.out)
    clear B161
    clear B162
    clear B180
    clear B185
    clear HB
    have B161 := n0_
    have B162 := n1_
    have B180 := n2_
    have B185 := n3_
    have HB := n4_
    clear n0_ n1_ n2_ n3_ n4_
    refine start_ (n := 16) (S := fun w' => w'.cell? ⟨g180, 0, none⟩ = some (.int .u64 t191) ∧ w'.cell? ⟨g180, 1, none⟩ = some (.int .u64 0) ∧ w'.cell? ⟨g180, 2, none⟩ = some (.int .u64 0) ∧ w'.cell? ⟨g180, 3, none⟩ = some (.int .u64 0) ∧ w'.cell? ⟨g185, 0, none⟩ = some (.int .u64 t181) ∧ w'.cell? ⟨g185, 1, none⟩ = some (.int .u64 t182) ∧ w'.cell? ⟨g185, 2, none⟩ = some (.int .u64 t183) ∧ w'.cell? ⟨g185, 3, none⟩ = some (.int .u64 t184) ∧ w'.cell? ⟨g161, 0, none⟩ = some (.int .u64 t173) ∧ w'.cell? ⟨g161, 1, none⟩ = some (.int .u64 t175) ∧ w'.cell? ⟨g161, 2, none⟩ = some (.int .u64 t177) ∧ w'.cell? ⟨g161, 3, none⟩ = some (.int .u64 t179)) (ds := [15]) z15_25_ (by kernel_rfl) rfl rfl ⟨bq_ B180 0, bq_ B180 1, bq_ B180 2, bq_ B180 3, bq_ B185 0, bq_ B185 1, bq_ B185 2, bq_ B185 3, bq_ B161 0, bq_ B161 1, bq_ B161 2, bq_ B161 3⟩ (fun hL => ?_); refine with_tabW attestorref06_Round.tab19 attestorref06_Round.bits19 (fun T_ W_ => ?_)
    generalize w93.drew = w94 at B161 B162 B180 B185 HB hL ⊢
    refine pure_ (i := 0) (N := some 64) (v := ?_) (a' := ?_) z15_26_ rfl rfl (any_of T_.out (by kernel_rfl)) (fun _ _ _ h => h) (Or.inl ⟨by rfl, ?_⟩) ?_ ?_
    rotate_left; · intro w'; go_simp; with_reducible rfl
    rotate_left; · simp only [Act.put, sa_, sb_, sc_, i64_w, i32_w]; rfl
    refine pure_ (i := 1) (N := some 65) (v := ?_) (a' := ?_) z15_27_ rfl rfl (any_of T_.out (by kernel_rfl)) (fun _ _ _ h => h) (Or.inl ⟨by rfl, ?_⟩) ?_ ?_
    rotate_left; · intro w'; go_simp; with_reducible rfl
    rotate_left; · simp only [Act.put, sa_, sb_, sc_, i64_w, i32_w]; rfl
    refine pure_ (i := 2) (N := some 66) (v := ?_) (a' := ?_) z15_28_ rfl rfl (any_of T_.out (by kernel_rfl)) (fun _ _ _ h => h) (Or.inl ⟨by rfl, ?_⟩) ?_ ?_
    rotate_left; · intro w'; go_simp; with_reducible rfl
    rotate_left; · simp only [Act.put, sa_, sb_, sc_, i64_w, i32_w]; rfl
    refine pure_ (i := 3) (N := some 67) (v := ?_) (a' := ?_) z15_29_ rfl rfl (any_of T_.out (by kernel_rfl)) (fun _ _ _ h => h) (Or.inl ⟨by rfl, ?_⟩) ?_ ?_
    rotate_left; · intro w'; go_simp; with_reducible rfl
    rotate_left; · simp only [Act.put, sa_, sb_, sc_, i64_w, i32_w]; rfl
    refine pure_ (i := 5) (N := some 69) (v := ?_) (a' := ?_) z15_30_ rfl rfl (any_of T_.out (by kernel_rfl)) (fun _ _ _ h => h) (Or.inl ⟨by rfl, ?_⟩) ?_ ?_
    rotate_left; · intro w'; go_simp; with_reducible rfl
    rotate_left; · simp only [Act.put, sa_, sb_, sc_, i64_w, i32_w]; rfl
    refine pure_ (i := 6) (N := some 70) (v := ?_) (a' := ?_) z15_31_ rfl rfl (any_of T_.out (by kernel_rfl)) (fun _ _ _ h => h) (Or.inl ⟨by rfl, ?_⟩) ?_ ?_
    rotate_left; · intro w'; go_simp; with_reducible rfl
    rotate_left; · simp only [Act.put, sa_, sb_, sc_, i64_w, i32_w]; rfl
    refine pure_ (i := 7) (N := some 71) (v := ?_) (a' := ?_) z15_32_ rfl rfl (any_of T_.out (by kernel_rfl)) (fun _ _ _ h => h) (Or.inl ⟨by rfl, ?_⟩) ?_ ?_
    rotate_left; · intro w'; go_simp; with_reducible rfl
    rotate_left; · simp only [Act.put, sa_, sb_, sc_, i64_w, i32_w]; rfl
    refine pure_ (i := 9) (N := some 73) (v := ?_) (a' := ?_) z15_33_ rfl rfl (any_of T_.out (by kernel_rfl)) (fun _ _ _ h => h) (Or.inl ⟨by rfl, ?_⟩) ?_ ?_
    rotate_left; · intro w'; go_simp; with_reducible rfl
    rotate_left; · simp only [Act.put, sa_, sb_, sc_, i64_w, i32_w]; rfl
    refine pure_ (i := 10) (N := some 74) (v := ?_) (a' := ?_) z15_34_ rfl rfl (any_of T_.out (by kernel_rfl)) (fun _ _ _ h => h) (Or.inl ⟨by rfl, ?_⟩) ?_ ?_
    rotate_left; · intro w'; go_simp; with_reducible rfl
    rotate_left; · simp only [Act.put, sa_, sb_, sc_, i64_w, i32_w]; rfl
    refine take_ (i := 4) (N := some 68) (v := ?_) (a' := ?_) z15_35_ rfl rfl (take_ofW T_.out W_.out (by kernel_rfl)) (fun _ _ _ h => h) (Or.inl ⟨by rfl, ?_⟩) hL ?_ ?_
    rotate_left
    ·rintro w' ⟨s0, s1, s2, s3, s4, s5, s6, s7, s8, s9, s10, s11⟩
     go_simp
     with_reducible rfl
    rotate_left
    ·simp only [Act.put, sa_, sb_, sc_, i64_w, i32_w]
     rfl
    refine take_ (i := 8) (N := some 72) (v := ?_) (a' := ?_) z15_36_ rfl rfl (take_ofW T_.out W_.out (by kernel_rfl)) (fun _ _ _ h => h) (Or.inl ⟨by rfl, ?_⟩) hL ?_ ?_
    rotate_left
    ·rintro w' ⟨s0, s1, s2, s3, s4, s5, s6, s7, s8, s9, s10, s11⟩
     go_simp
     with_reducible rfl
    rotate_left
    ·simp only [Act.put, sa_, sb_, sc_, i64_w, i32_w]
     rfl
    refine take_ (i := 11) (N := some 75) (v := ?_) (a' := ?_) z15_37_ rfl rfl (take_ofW T_.out W_.out (by kernel_rfl)) (fun _ _ _ h => h) (Or.inl ⟨by rfl, ?_⟩) hL ?_ ?_
    rotate_left
    ·rintro w' ⟨s0, s1, s2, s3, s4, s5, s6, s7, s8, s9, s10, s11⟩
     go_simp
     with_reducible rfl
    rotate_left
    ·simp only [Act.put, sa_, sb_, sc_, i64_w, i32_w]
     rfl
    refine one_ (i := 12) (N := some 76) z15_38_ rfl rfl (one_of T_.out (by kernel_rfl)) (by decide) (fun K hK => ?_)
    refine goes_ Tryd.func40 (by kernel_rfl) rfl #[.int .i64 a0, .int .u64 t184, .int .u64 t179] (by rfl) rfl rfl (by (try simp only [List.map_toArray, List.map_cons, List.map_nil]); first | done | rfl) ?_
    with_reducible refine (attestorref01_Mul.calls a0 t184 t179 t192 _ A90.out).mono ?_
    rintro e w' ⟨rfl, ⟨nd, rfl⟩⟩
    refine ⟨_, rfl, ?_⟩
    (try (rw [drewN_self w94]; generalize q_ : World.drewN w94 _ = w94; replace B161 := ra_ q_ B161; replace B162 := ra_ q_ B162; replace B180 := ra_ q_ B180; replace B185 := ra_ q_ B185; replace HB := rb_ q_ HB; clear q_))
    refine hK.out _ _ ⟨bq_ B180 0, bq_ B180 1, bq_ B180 2, bq_ B180 3, bq_ B185 0, bq_ B185 1, bq_ B185 2, bq_ B185 3, bq_ B161 0, bq_ B161 1, bq_ B161 2, bq_ B161 3⟩ (fun hL => ?_)
    clear hK K
    refine norm_ (a' := ?_) ?_ ?_
    rotate_left
    ·show Act.put _ (some 76) _ = _
     simp only [Act.put, sa_, sb_, sc_, i64_w, i32_w]
     rfl
    refine one_ (i := 13) (N := some 77) z15_39_ rfl rfl (one_of T_.out (by kernel_rfl)) (by decide) (fun K hK => ?_)
    refine goes_ Tryd.func32 (by kernel_rfl) rfl #[.int .i64 a0, .int .u64 t191, .int .u64 t192] (by rfl) rfl rfl (by (try simp only [List.map_toArray, List.map_cons, List.map_nil]); first | done | rfl) ?_
    with_reducible refine (attestorref01_Add.calls a0 t191 t192 t193 _ A91.out).mono ?_
    rintro e w' ⟨rfl, ⟨nd, rfl⟩⟩
    refine ⟨_, rfl, ?_⟩
    (try (rw [drewN_self w94]; generalize q_ : World.drewN w94 _ = w94; replace B161 := ra_ q_ B161; replace B162 := ra_ q_ B162; replace B180 := ra_ q_ B180; replace B185 := ra_ q_ B185; replace HB := rb_ q_ HB; clear q_))
    refine hK.out _ _ ⟨bq_ B180 0, bq_ B180 1, bq_ B180 2, bq_ B180 3, bq_ B185 0, bq_ B185 1, bq_ B185 2, bq_ B185 3, bq_ B161 0, bq_ B161 1, bq_ B161 2, bq_ B161 3⟩ (fun hL => ?_)
    clear hK K
    refine norm_ (a' := ?_) ?_ ?_
    rotate_left
    ·show Act.put _ (some 77) _ = _
     simp only [Act.put, sa_, sb_, sc_, i64_w, i32_w]
     rfl
    refine pure_ (i := 14) (N := some 78) (v := ?_) (a' := ?_) z15_40_ rfl rfl (any_of T_.out (by kernel_rfl)) (fun _ _ _ h => h) (Or.inl ⟨by rfl, ?_⟩) ?_ ?_
    rotate_left; · intro w'; go_simp; with_reducible rfl
    rotate_left; · simp only [Act.put, sa_, sb_, sc_, i64_w, i32_w]; rfl
    refine last_ (i := 15) (N := none) z15_41_ rfl rfl (one_of T_.out (by kernel_rfl)) (by decide) (fun K hK => ?_)
    have hs95 : w94.cell? ⟨g180, 0, none⟩ = some (.int .u64 t191) := bq_ B180 0
    have hfs95 := blk_frozen B180.out 0
    have hns95_0 := NB161_180.out
    have hns95_1 := NB162_180.out
    have hns95_3 := NB185_180.out
    have hms95_0 := NB180_161.out
    have hms95_1 := NB180_162.out
    have hms95_3 := NB180_185.out
    refine skip_ (w1 := ?_) (by rfl) rfl ?_ ?_
    rotate_left
    ·go_simp
     rfl
    refine hK.out _ _ ?_
    clear hK K
    refine done_ (done_of T_.out (by kernel_rfl)) ?_
    try go_wp2
    rw [rounds_succ]
    have H := HC92.out
    clear HC92
    have HC96 := Aside0.mk H
    clear H
    go_wp2
    rw [rounds_succ]
    have H := HC96.out
    clear HC96
    replace H := Option.bind_eq_some_iff.mp H
    obtain ⟨⟨t194, t195, t196, t197⟩, A970, H⟩ := H
    replace H : ((attestorref01_Mul.f a0 t194 t173).bind fun t199 => ((attestorref01_Add.f a0 0 t199).bind fun t200 => ((attestorref01_Mul.f a0 t195 t175).bind fun t201 => ((attestorref01_Add.f a0 t200 t201).bind fun t202 => ((attestorref01_Mul.f a0 t196 t177).bind fun t203 => ((attestorref01_Add.f a0 t202 t203).bind fun t204 => ((attestorref01_Mul.f a0 t197 t179).bind fun t205 => ((attestorref01_Add.f a0 t204 t205).bind fun t206 => ((attestorref06_row.f 2).bind fun bt207 => ((attestorref01_Mul.f a0 bt207.1 t173).bind fun t212 => ((attestorref01_Add.f a0 0 t212).bind fun t213 => ((attestorref01_Mul.f a0 bt207.2.1 t175).bind fun t214 => ((attestorref01_Add.f a0 t213 t214).bind fun t215 => ((attestorref01_Mul.f a0 bt207.2.2.1 t177).bind fun t216 => ((attestorref01_Add.f a0 t215 t216).bind fun t217 => ((attestorref01_Mul.f a0 bt207.2.2.2 t179).bind fun t218 => ((attestorref01_Add.f a0 t217 t218).bind fun t219 => ((attestorref06_row.f 3).bind fun bt220 => ((attestorref01_Mul.f a0 bt220.1 t173).bind fun t225 => ((attestorref01_Add.f a0 0 t225).bind fun t226 => ((attestorref01_Mul.f a0 bt220.2.1 t175).bind fun t227 => ((attestorref01_Add.f a0 t226 t227).bind fun t228 => ((attestorref01_Mul.f a0 bt220.2.2.1 t177).bind fun t229 => ((attestorref01_Add.f a0 t228 t229).bind fun t230 => ((attestorref01_Mul.f a0 bt220.2.2.2 t179).bind fun t231 => ((attestorref01_Add.f a0 t230 t231).bind fun t232 => (some (t193, t206, t219, t232)))))))))))))))))))))))))))) = some (r1, r2, r3, r4) := H
    have A97 := Aside0.mk A970
    clear A970
    have HC98 := Aside0.mk H
    clear H
    go_wp2_with (first | ((with_reducible refine gate_callee (f := 39) rfl ?_); refine goesL_ (some 59) rfl rfl Tryd.func39 (by kernel_rfl) rfl #[.int .i64 1] rfl (by (try simp only [List.map_toArray, List.map_cons, List.map_nil]); first | done | rfl) ?_; (with_reducible refine (attestorref06_row.calls 1 t194 t195 t196 t197 _ A97.out).mono ?_); rintro e w99 ⟨rfl, hb⟩; refine ⟨_, rfl, ?_⟩; have n0_ := Aside0.mk (blk_below (g := g161) (o := .cells #[.int .u64 t173, .int .u64 t175, .int .u64 t177, .int .u64 t179] 23 (0, 0)) (by refine blk_far ?_ NB161_180.out _; exact B161.out) hb); have n1_ := Aside0.mk (blk_below (g := g162) (o := .cells #[.int .u64 0, .int .u64 0, .int .u64 0, .int .u64 0] 23 (0, 0)) (by refine blk_far ?_ NB162_180.out _; exact B162.out) hb); have n2_ := Aside0.mk (blk_below (g := g180) (o := .cells #[.int .u64 t193, .int .u64 0, .int .u64 0, .int .u64 0] 23 (0, 0)) (by refine blk_put (cs := #[.int .u64 t191, .int .u64 0, .int .u64 0, .int .u64 0]) ?_ 0 _ rfl; exact B180.out) hb); have n3_ := Aside0.mk (blk_below (g := g185) (o := .cells #[.int .u64 t181, .int .u64 t182, .int .u64 t183, .int .u64 t184] 23 (0, 0)) (by refine blk_far ?_ NB185_180.out _; exact B185.out) hb); have n4_ := Aside0.mk (below_step (by repeat (first | (with_reducible first | exact HB.out | apply below_alloc | apply pw_below_drewN | apply below_drew1 | refine below_set ?_ GE161.out | refine below_set ?_ GE162.out | refine below_set ?_ GE180.out | refine below_set ?_ GE185.out) | exact HB.out)) hb); clear B161; clear B162; clear B180; clear B185; clear HB; have B161 := n0_; have B162 := n1_; have B180 := n2_; have B185 := n3_; have HB := n4_; clear n0_ n1_ n2_ n3_ n4_; (try clear hb); (try clear hb2); (try clear hk); (try clear hi)) | ((with_reducible refine gate_dst (N := 11) rfl ?_); refine box_event ?hg (N := 11) ?hd (cs := #[.int .u64 0, .int .u64 0, .int .u64 0, .int .u64 0]) (t := 23) ?hr ?_; (case hd => rfl); (case hg => rfl); (case hr => first | (go_simp; done) | (go_simp; rfl)); intro g198 hg w100 hbox hb; have n0_ := Aside0.mk (blk_below (g := g161) (o := .cells #[.int .u64 t173, .int .u64 t175, .int .u64 t177, .int .u64 t179] 23 (0, 0)) (by exact B161.out) hb); have n1_ := Aside0.mk (blk_below (g := g162) (o := .cells #[.int .u64 0, .int .u64 0, .int .u64 0, .int .u64 0] 23 (0, 0)) (by exact B162.out) hb); have n2_ := Aside0.mk (blk_below (g := g180) (o := .cells #[.int .u64 t193, .int .u64 0, .int .u64 0, .int .u64 0] 23 (0, 0)) (by exact B180.out) hb); have n3_ := Aside0.mk (blk_below (g := g185) (o := .cells #[.int .u64 t181, .int .u64 t182, .int .u64 t183, .int .u64 t184] 23 (0, 0)) (by exact B185.out) hb); have n4_ := Aside0.mk (below_step (by repeat (first | (with_reducible first | exact HB.out | apply below_alloc | apply pw_below_drewN | apply below_drew1 | refine below_set ?_ GE161.out | refine below_set ?_ GE162.out | refine below_set ?_ GE180.out | refine below_set ?_ GE185.out) | exact HB.out)) hb); have n5_ := Aside0.mk (hbox); have n6_ := Aside0.mk ((by rw [hg]; exact (below_size (by repeat (first | (with_reducible first | exact HB.out | apply below_alloc | apply pw_below_drewN | apply below_drew1 | refine below_set ?_ GE161.out | refine below_set ?_ GE162.out | refine below_set ?_ GE180.out | refine below_set ?_ GE185.out) | exact HB.out))) : w.heap.size ≤ g198)); have n7_ := Aside0.mk ((by rw [hg]; exact (below_size (by repeat (first | (with_reducible first | exact HB.out | apply below_alloc | apply pw_below_drewN | apply below_drew1 | refine below_set ?_ GE161.out | refine below_set ?_ GE162.out | refine below_set ?_ GE180.out | refine below_set ?_ GE185.out) | exact HB.out))) : w.heap.size ≤ g198)); have n8_ := Aside0.mk ((by rw [hg]; exact Nat.ne_of_lt (blk_lt (g := g161) (o := .cells #[.int .u64 t173, .int .u64 t175, .int .u64 t177, .int .u64 t179] 23 (0, 0)) (by exact B161.out)) : g161 ≠ g198)); have n9_ := Aside0.mk ((by rw [hg]; exact Nat.ne_of_gt (blk_lt (g := g161) (o := .cells #[.int .u64 t173, .int .u64 t175, .int .u64 t177, .int .u64 t179] 23 (0, 0)) (by exact B161.out)) : g198 ≠ g161)); have n10_ := Aside0.mk ((by rw [hg]; exact Nat.ne_of_lt (blk_lt (g := g162) (o := .cells #[.int .u64 0, .int .u64 0, .int .u64 0, .int .u64 0] 23 (0, 0)) (by exact B162.out)) : g162 ≠ g198)); have n11_ := Aside0.mk ((by rw [hg]; exact Nat.ne_of_gt (blk_lt (g := g162) (o := .cells #[.int .u64 0, .int .u64 0, .int .u64 0, .int .u64 0] 23 (0, 0)) (by exact B162.out)) : g198 ≠ g162)); have n12_ := Aside0.mk ((by rw [hg]; exact Nat.ne_of_lt (blk_lt (g := g180) (o := .cells #[.int .u64 t193, .int .u64 0, .int .u64 0, .int .u64 0] 23 (0, 0)) (by exact B180.out)) : g180 ≠ g198)); have n13_ := Aside0.mk ((by rw [hg]; exact Nat.ne_of_gt (blk_lt (g := g180) (o := .cells #[.int .u64 t193, .int .u64 0, .int .u64 0, .int .u64 0] 23 (0, 0)) (by exact B180.out)) : g198 ≠ g180)); have n14_ := Aside0.mk ((by rw [hg]; exact Nat.ne_of_lt (blk_lt (g := g185) (o := .cells #[.int .u64 t181, .int .u64 t182, .int .u64 t183, .int .u64 t184] 23 (0, 0)) (by exact B185.out)) : g185 ≠ g198)); have n15_ := Aside0.mk ((by rw [hg]; exact Nat.ne_of_gt (blk_lt (g := g185) (o := .cells #[.int .u64 t181, .int .u64 t182, .int .u64 t183, .int .u64 t184] 23 (0, 0)) (by exact B185.out)) : g198 ≠ g185)); clear B161; clear B162; clear B180; clear B185; clear HB; have B161 := n0_; have B162 := n1_; have B180 := n2_; have B185 := n3_; have HB := n4_; have B198 := n5_; have GW198 := n6_; have GE198 := n7_; have NB161_198 := n8_; have NB198_161 := n9_; have NB162_198 := n10_; have NB198_162 := n11_; have NB180_198 := n12_; have NB198_180 := n13_; have NB185_198 := n14_; have NB198_185 := n15_; clear n0_ n1_ n2_ n3_ n4_ n5_ n6_ n7_ n8_ n9_ n10_ n11_ n12_ n13_ n14_ n15_; clear hb hbox hg; have hnb101 := NB198_161.out; have hnc101 := NB161_198.out; have hnb102 := NB198_162.out; have hnc102 := NB162_198.out; have hnb103 := NB198_180.out; have hnc103 := NB180_198.out; have hnb104 := NB198_185.out; have hnc104 := NB185_198.out; have hcz105_0 : w100.cell? ⟨g198, 0, none⟩ = some (.int .u64 0) := bq_ B198 0; have hcz105_1 : w100.cell? ⟨g198, 1, none⟩ = some (.int .u64 0) := bq_ B198 1; have hcz105_2 : w100.cell? ⟨g198, 2, none⟩ = some (.int .u64 0) := bq_ B198 2; have hcz105_3 : w100.cell? ⟨g198, 3, none⟩ = some (.int .u64 0) := bq_ B198 3; have hfz105_0 := blk_frozen B198.out 0; have hfz105_1 := blk_frozen B198.out 1; have hfz105_2 := blk_frozen B198.out 2; have hfz105_3 := blk_frozen B198.out 3))
    refine wp_loop_rounds 5 ?_
    rw [rounds_succ]
    have H := HC98.out
    clear HC98
    replace H := Option.bind_eq_some_iff.mp H
    obtain ⟨t199, A1060, H⟩ := H
    have A106 := Aside0.mk A1060
    clear A1060
    replace H := Option.bind_eq_some_iff.mp H
    obtain ⟨t200, A1070, H⟩ := H
    have A107 := Aside0.mk A1070
    clear A1070
    have HC108 := Aside0.mk H
    clear H
    try go_wp2
    have n0_ : Aside0 (((((w100.setCell ⟨g198, 0, none⟩ (.int .u64 t194)).setCell ⟨g198, 1, none⟩ (.int .u64 t195)).setCell ⟨g198, 2, none⟩ (.int .u64 t196)).setCell ⟨g198, 3, none⟩ (.int .u64 t197)).heap[g161]? = some (.cells #[.int .u64 t173, .int .u64 t175, .int .u64 t177, .int .u64 t179] 23 (0, 0))) := ⟨by refine blk_far ?_ NB161_198.out _; refine blk_far ?_ NB161_198.out _; refine blk_far ?_ NB161_198.out _; refine blk_far ?_ NB161_198.out _; exact B161.out⟩
    have n1_ : Aside0 (((((w100.setCell ⟨g198, 0, none⟩ (.int .u64 t194)).setCell ⟨g198, 1, none⟩ (.int .u64 t195)).setCell ⟨g198, 2, none⟩ (.int .u64 t196)).setCell ⟨g198, 3, none⟩ (.int .u64 t197)).heap[g162]? = some (.cells #[.int .u64 0, .int .u64 0, .int .u64 0, .int .u64 0] 23 (0, 0))) := ⟨by refine blk_far ?_ NB162_198.out _; refine blk_far ?_ NB162_198.out _; refine blk_far ?_ NB162_198.out _; refine blk_far ?_ NB162_198.out _; exact B162.out⟩
    have n2_ : Aside0 (((((w100.setCell ⟨g198, 0, none⟩ (.int .u64 t194)).setCell ⟨g198, 1, none⟩ (.int .u64 t195)).setCell ⟨g198, 2, none⟩ (.int .u64 t196)).setCell ⟨g198, 3, none⟩ (.int .u64 t197)).heap[g180]? = some (.cells #[.int .u64 t193, .int .u64 0, .int .u64 0, .int .u64 0] 23 (0, 0))) := ⟨by refine blk_far ?_ NB180_198.out _; refine blk_far ?_ NB180_198.out _; refine blk_far ?_ NB180_198.out _; refine blk_far ?_ NB180_198.out _; exact B180.out⟩
    have n3_ : Aside0 (((((w100.setCell ⟨g198, 0, none⟩ (.int .u64 t194)).setCell ⟨g198, 1, none⟩ (.int .u64 t195)).setCell ⟨g198, 2, none⟩ (.int .u64 t196)).setCell ⟨g198, 3, none⟩ (.int .u64 t197)).heap[g185]? = some (.cells #[.int .u64 t181, .int .u64 t182, .int .u64 t183, .int .u64 t184] 23 (0, 0))) := ⟨by refine blk_far ?_ NB185_198.out _; refine blk_far ?_ NB185_198.out _; refine blk_far ?_ NB185_198.out _; refine blk_far ?_ NB185_198.out _; exact B185.out⟩
    have n4_ : Aside0 (((((w100.setCell ⟨g198, 0, none⟩ (.int .u64 t194)).setCell ⟨g198, 1, none⟩ (.int .u64 t195)).setCell ⟨g198, 2, none⟩ (.int .u64 t196)).setCell ⟨g198, 3, none⟩ (.int .u64 t197)).heap[g198]? = some (.cells #[.int .u64 t194, .int .u64 t195, .int .u64 t196, .int .u64 t197] 23 (0, 0))) := ⟨by refine blk_put (cs := #[.int .u64 t194, .int .u64 t195, .int .u64 t196, .int .u64 0]) ?_ 3 _ rfl; refine blk_put (cs := #[.int .u64 t194, .int .u64 t195, .int .u64 0, .int .u64 0]) ?_ 2 _ rfl; refine blk_put (cs := #[.int .u64 t194, .int .u64 0, .int .u64 0, .int .u64 0]) ?_ 1 _ rfl; refine blk_put (cs := #[.int .u64 0, .int .u64 0, .int .u64 0, .int .u64 0]) ?_ 0 _ rfl; exact B198.out⟩
    have n5_ : Aside0 (Below w.heap.size w ((((w100.setCell ⟨g198, 0, none⟩ (.int .u64 t194)).setCell ⟨g198, 1, none⟩ (.int .u64 t195)).setCell ⟨g198, 2, none⟩ (.int .u64 t196)).setCell ⟨g198, 3, none⟩ (.int .u64 t197))) := ⟨by repeat (first | (with_reducible first | exact HB.out | apply below_alloc | apply pw_below_drewN | apply below_drew1 | refine below_set ?_ GE161.out | refine below_set ?_ GE162.out | refine below_set ?_ GE180.out | refine below_set ?_ GE185.out | refine below_set ?_ GE198.out) | exact HB.out)⟩
    (try clear B161)
    (try clear B162)
    (try clear B180)
    (try clear B185)
    (try clear B198)
    (try clear HB)
    generalize ((((w100.setCell ⟨g198, 0, none⟩ (.int .u64 t194)).setCell ⟨g198, 1, none⟩ (.int .u64 t195)).setCell ⟨g198, 2, none⟩ (.int .u64 t196)).setCell ⟨g198, 3, none⟩ (.int .u64 t197)) = w109 at n0_ n1_ n2_ n3_ n4_ n5_ ⊢
    have B161 := n0_
    have B162 := n1_
    have B180 := n2_
    have B185 := n3_
    have B198 := n4_
    have HB := n5_
    clear n0_ n1_ n2_ n3_ n4_ n5_
    have n0_ := Aside0.mk (blk_drew B161.out)
    have n1_ := Aside0.mk (blk_drew B162.out)
    have n2_ := Aside0.mk (blk_drew B180.out)
    have n3_ := Aside0.mk (blk_drew B185.out)
    have n4_ := Aside0.mk (blk_drew B198.out)
    have n5_ := Aside0.mk (below_drew1 HB.out)
    clear B161
    clear B162
    clear B180
    clear B185
    clear B198
    clear HB
    have B161 := n0_
    have B162 := n1_
    have B180 := n2_
    have B185 := n3_
    have B198 := n4_
    have HB := n5_
    clear n0_ n1_ n2_ n3_ n4_ n5_
    refine start_ (n := 16) (S := fun w' => w'.cell? ⟨g180, 0, none⟩ = some (.int .u64 t193) ∧ w'.cell? ⟨g180, 1, none⟩ = some (.int .u64 0) ∧ w'.cell? ⟨g180, 2, none⟩ = some (.int .u64 0) ∧ w'.cell? ⟨g180, 3, none⟩ = some (.int .u64 0) ∧ w'.cell? ⟨g198, 0, none⟩ = some (.int .u64 t194) ∧ w'.cell? ⟨g198, 1, none⟩ = some (.int .u64 t195) ∧ w'.cell? ⟨g198, 2, none⟩ = some (.int .u64 t196) ∧ w'.cell? ⟨g198, 3, none⟩ = some (.int .u64 t197) ∧ w'.cell? ⟨g161, 0, none⟩ = some (.int .u64 t173) ∧ w'.cell? ⟨g161, 1, none⟩ = some (.int .u64 t175) ∧ w'.cell? ⟨g161, 2, none⟩ = some (.int .u64 t177) ∧ w'.cell? ⟨g161, 3, none⟩ = some (.int .u64 t179)) (ds := [15]) z15_25_ (by kernel_rfl) rfl rfl ⟨bq_ B180 0, bq_ B180 1, bq_ B180 2, bq_ B180 3, bq_ B198 0, bq_ B198 1, bq_ B198 2, bq_ B198 3, bq_ B161 0, bq_ B161 1, bq_ B161 2, bq_ B161 3⟩ (fun hL => ?_); refine with_tabW attestorref06_Round.tab19 attestorref06_Round.bits19 (fun T_ W_ => ?_)
    generalize w109.drew = w110 at B161 B162 B180 B185 B198 HB hL ⊢
    refine pure_ (i := 0) (N := some 64) (v := ?_) (a' := ?_) z15_26_ rfl rfl (any_of T_.out (by kernel_rfl)) (fun _ _ _ h => h) (Or.inl ⟨by rfl, ?_⟩) ?_ ?_
    rotate_left; · intro w'; go_simp; with_reducible rfl
    rotate_left; · simp only [Act.put, sa_, sb_, sc_, i64_w, i32_w]; rfl
    refine pure_ (i := 1) (N := some 65) (v := ?_) (a' := ?_) z15_27_ rfl rfl (any_of T_.out (by kernel_rfl)) (fun _ _ _ h => h) (Or.inl ⟨by rfl, ?_⟩) ?_ ?_
    rotate_left; · intro w'; go_simp; with_reducible rfl
    rotate_left; · simp only [Act.put, sa_, sb_, sc_, i64_w, i32_w]; rfl
    refine pure_ (i := 2) (N := some 66) (v := ?_) (a' := ?_) z15_28_ rfl rfl (any_of T_.out (by kernel_rfl)) (fun _ _ _ h => h) (Or.inl ⟨by rfl, ?_⟩) ?_ ?_
    rotate_left; · intro w'; go_simp; with_reducible rfl
    rotate_left; · simp only [Act.put, sa_, sb_, sc_, i64_w, i32_w]; rfl
    refine pure_ (i := 3) (N := some 67) (v := ?_) (a' := ?_) z15_29_ rfl rfl (any_of T_.out (by kernel_rfl)) (fun _ _ _ h => h) (Or.inl ⟨by rfl, ?_⟩) ?_ ?_
    rotate_left; · intro w'; go_simp; with_reducible rfl
    rotate_left; · simp only [Act.put, sa_, sb_, sc_, i64_w, i32_w]; rfl
    refine pure_ (i := 5) (N := some 69) (v := ?_) (a' := ?_) z15_30_ rfl rfl (any_of T_.out (by kernel_rfl)) (fun _ _ _ h => h) (Or.inl ⟨by rfl, ?_⟩) ?_ ?_
    rotate_left; · intro w'; go_simp; with_reducible rfl
    rotate_left; · simp only [Act.put, sa_, sb_, sc_, i64_w, i32_w]; rfl
    refine pure_ (i := 6) (N := some 70) (v := ?_) (a' := ?_) z15_31_ rfl rfl (any_of T_.out (by kernel_rfl)) (fun _ _ _ h => h) (Or.inl ⟨by rfl, ?_⟩) ?_ ?_
    rotate_left; · intro w'; go_simp; with_reducible rfl
    rotate_left; · simp only [Act.put, sa_, sb_, sc_, i64_w, i32_w]; rfl
    refine pure_ (i := 7) (N := some 71) (v := ?_) (a' := ?_) z15_32_ rfl rfl (any_of T_.out (by kernel_rfl)) (fun _ _ _ h => h) (Or.inl ⟨by rfl, ?_⟩) ?_ ?_
    rotate_left; · intro w'; go_simp; with_reducible rfl
    rotate_left; · simp only [Act.put, sa_, sb_, sc_, i64_w, i32_w]; rfl
    refine pure_ (i := 9) (N := some 73) (v := ?_) (a' := ?_) z15_33_ rfl rfl (any_of T_.out (by kernel_rfl)) (fun _ _ _ h => h) (Or.inl ⟨by rfl, ?_⟩) ?_ ?_
    rotate_left; · intro w'; go_simp; with_reducible rfl
    rotate_left; · simp only [Act.put, sa_, sb_, sc_, i64_w, i32_w]; rfl
    refine pure_ (i := 10) (N := some 74) (v := ?_) (a' := ?_) z15_34_ rfl rfl (any_of T_.out (by kernel_rfl)) (fun _ _ _ h => h) (Or.inl ⟨by rfl, ?_⟩) ?_ ?_
    rotate_left; · intro w'; go_simp; with_reducible rfl
    rotate_left; · simp only [Act.put, sa_, sb_, sc_, i64_w, i32_w]; rfl
    refine take_ (i := 4) (N := some 68) (v := ?_) (a' := ?_) z15_35_ rfl rfl (take_ofW T_.out W_.out (by kernel_rfl)) (fun _ _ _ h => h) (Or.inl ⟨by rfl, ?_⟩) hL ?_ ?_
    rotate_left
    ·rintro w' ⟨s0, s1, s2, s3, s4, s5, s6, s7, s8, s9, s10, s11⟩
     go_simp
     with_reducible rfl
    rotate_left
    ·simp only [Act.put, sa_, sb_, sc_, i64_w, i32_w]
     rfl
    refine take_ (i := 8) (N := some 72) (v := ?_) (a' := ?_) z15_36_ rfl rfl (take_ofW T_.out W_.out (by kernel_rfl)) (fun _ _ _ h => h) (Or.inl ⟨by rfl, ?_⟩) hL ?_ ?_
    rotate_left
    ·rintro w' ⟨s0, s1, s2, s3, s4, s5, s6, s7, s8, s9, s10, s11⟩
     go_simp
     with_reducible rfl
    rotate_left
    ·simp only [Act.put, sa_, sb_, sc_, i64_w, i32_w]
     rfl
    refine take_ (i := 11) (N := some 75) (v := ?_) (a' := ?_) z15_37_ rfl rfl (take_ofW T_.out W_.out (by kernel_rfl)) (fun _ _ _ h => h) (Or.inl ⟨by rfl, ?_⟩) hL ?_ ?_
    rotate_left
    ·rintro w' ⟨s0, s1, s2, s3, s4, s5, s6, s7, s8, s9, s10, s11⟩
     go_simp
     with_reducible rfl
    rotate_left
    ·simp only [Act.put, sa_, sb_, sc_, i64_w, i32_w]
     rfl
    refine one_ (i := 12) (N := some 76) z15_38_ rfl rfl (one_of T_.out (by kernel_rfl)) (by decide) (fun K hK => ?_)
    refine goes_ Tryd.func40 (by kernel_rfl) rfl #[.int .i64 a0, .int .u64 t194, .int .u64 t173] (by rfl) rfl rfl (by (try simp only [List.map_toArray, List.map_cons, List.map_nil]); first | done | rfl) ?_
    with_reducible refine (attestorref01_Mul.calls a0 t194 t173 t199 _ A106.out).mono ?_
    rintro e w' ⟨rfl, ⟨nd, rfl⟩⟩
    refine ⟨_, rfl, ?_⟩
    (try (rw [drewN_self w110]; generalize q_ : World.drewN w110 _ = w110; replace B161 := ra_ q_ B161; replace B162 := ra_ q_ B162; replace B180 := ra_ q_ B180; replace B185 := ra_ q_ B185; replace B198 := ra_ q_ B198; replace HB := rb_ q_ HB; clear q_))
    refine hK.out _ _ ⟨bq_ B180 0, bq_ B180 1, bq_ B180 2, bq_ B180 3, bq_ B198 0, bq_ B198 1, bq_ B198 2, bq_ B198 3, bq_ B161 0, bq_ B161 1, bq_ B161 2, bq_ B161 3⟩ (fun hL => ?_)
    clear hK K
    refine norm_ (a' := ?_) ?_ ?_
    rotate_left
    ·show Act.put _ (some 76) _ = _
     simp only [Act.put, sa_, sb_, sc_, i64_w, i32_w]
     rfl
    refine one_ (i := 13) (N := some 77) z15_39_ rfl rfl (one_of T_.out (by kernel_rfl)) (by decide) (fun K hK => ?_)
    refine goes_ Tryd.func32 (by kernel_rfl) rfl #[.int .i64 a0, .int .u64 0, .int .u64 t199] (by rfl) rfl rfl (by (try simp only [List.map_toArray, List.map_cons, List.map_nil]); first | done | rfl) ?_
    with_reducible refine (attestorref01_Add.calls a0 0 t199 t200 _ A107.out).mono ?_
    rintro e w' ⟨rfl, ⟨nd, rfl⟩⟩
    refine ⟨_, rfl, ?_⟩
    (try (rw [drewN_self w110]; generalize q_ : World.drewN w110 _ = w110; replace B161 := ra_ q_ B161; replace B162 := ra_ q_ B162; replace B180 := ra_ q_ B180; replace B185 := ra_ q_ B185; replace B198 := ra_ q_ B198; replace HB := rb_ q_ HB; clear q_))
    refine hK.out _ _ ⟨bq_ B180 0, bq_ B180 1, bq_ B180 2, bq_ B180 3, bq_ B198 0, bq_ B198 1, bq_ B198 2, bq_ B198 3, bq_ B161 0, bq_ B161 1, bq_ B161 2, bq_ B161 3⟩ (fun hL => ?_)
    clear hK K
    refine norm_ (a' := ?_) ?_ ?_
    rotate_left
    ·show Act.put _ (some 77) _ = _
     simp only [Act.put, sa_, sb_, sc_, i64_w, i32_w]
     rfl
    refine pure_ (i := 14) (N := some 78) (v := ?_) (a' := ?_) z15_40_ rfl rfl (any_of T_.out (by kernel_rfl)) (fun _ _ _ h => h) (Or.inl ⟨by rfl, ?_⟩) ?_ ?_
    rotate_left; · intro w'; go_simp; with_reducible rfl
    rotate_left; · simp only [Act.put, sa_, sb_, sc_, i64_w, i32_w]; rfl
    refine last_ (i := 15) (N := none) z15_41_ rfl rfl (one_of T_.out (by kernel_rfl)) (by decide) (fun K hK => ?_)
    have hs111 : w110.cell? ⟨g180, 1, none⟩ = some (.int .u64 0) := bq_ B180 1
    have hfs111 := blk_frozen B180.out 1
    have hns111_0 := NB161_180.out
    have hns111_1 := NB162_180.out
    have hns111_3 := NB185_180.out
    have hns111_4 := NB198_180.out
    have hms111_0 := NB180_161.out
    have hms111_1 := NB180_162.out
    have hms111_3 := NB180_185.out
    have hms111_4 := NB180_198.out
    refine skip_ (w1 := ?_) (by rfl) rfl ?_ ?_
    rotate_left
    ·go_simp
     rfl
    refine hK.out _ _ ?_
    clear hK K
    refine done_ (done_of T_.out (by kernel_rfl)) ?_
    try go_wp2
    rw [rounds_succ]
    have H := HC108.out
    clear HC108
    replace H := Option.bind_eq_some_iff.mp H
    obtain ⟨t201, A1120, H⟩ := H
    have A112 := Aside0.mk A1120
    clear A1120
    replace H := Option.bind_eq_some_iff.mp H
    obtain ⟨t202, A1130, H⟩ := H
    have A113 := Aside0.mk A1130
    clear A1130
    have HC114 := Aside0.mk H
    clear H
    try go_wp2
    have n0_ := bf_ B161 NB161_180 ⟨g180, 1, none⟩ (.int .u64 t200) rfl
    have n1_ := bf_ B162 NB162_180 ⟨g180, 1, none⟩ (.int .u64 t200) rfl
    have n2_ : Aside0 ((w110.setCell ⟨g180, 1, none⟩ (.int .u64 t200)).heap[g180]? = some (.cells #[.int .u64 t193, .int .u64 t200, .int .u64 0, .int .u64 0] 23 (0, 0))) := ⟨by refine blk_put (cs := #[.int .u64 t193, .int .u64 0, .int .u64 0, .int .u64 0]) ?_ 1 _ rfl; exact B180.out⟩
    have n3_ := bf_ B185 NB185_180 ⟨g180, 1, none⟩ (.int .u64 t200) rfl
    have n4_ := bf_ B198 NB198_180 ⟨g180, 1, none⟩ (.int .u64 t200) rfl
    have n5_ : Aside0 (Below w.heap.size w (w110.setCell ⟨g180, 1, none⟩ (.int .u64 t200))) := ⟨by repeat (first | (with_reducible first | exact HB.out | apply below_alloc | apply pw_below_drewN | apply below_drew1 | refine below_set ?_ GE161.out | refine below_set ?_ GE162.out | refine below_set ?_ GE180.out | refine below_set ?_ GE185.out | refine below_set ?_ GE198.out) | exact HB.out)⟩
    (try clear B161)
    (try clear B162)
    (try clear B180)
    (try clear B185)
    (try clear B198)
    (try clear HB)
    generalize (w110.setCell ⟨g180, 1, none⟩ (.int .u64 t200)) = w115 at n0_ n1_ n2_ n3_ n4_ n5_ ⊢
    have B161 := n0_
    have B162 := n1_
    have B180 := n2_
    have B185 := n3_
    have B198 := n4_
    have HB := n5_
    clear n0_ n1_ n2_ n3_ n4_ n5_
    have n0_ := Aside0.mk (blk_drew B161.out)
    have n1_ := Aside0.mk (blk_drew B162.out)
    have n2_ := Aside0.mk (blk_drew B180.out)
    have n3_ := Aside0.mk (blk_drew B185.out)
    have n4_ := Aside0.mk (blk_drew B198.out)
    have n5_ := Aside0.mk (below_drew1 HB.out)
    clear B161
    clear B162
    clear B180
    clear B185
    clear B198
    clear HB
    have B161 := n0_
    have B162 := n1_
    have B180 := n2_
    have B185 := n3_
    have B198 := n4_
    have HB := n5_
    clear n0_ n1_ n2_ n3_ n4_ n5_
    refine start_ (n := 16) (S := fun w' => w'.cell? ⟨g180, 0, none⟩ = some (.int .u64 t193) ∧ w'.cell? ⟨g180, 1, none⟩ = some (.int .u64 t200) ∧ w'.cell? ⟨g180, 2, none⟩ = some (.int .u64 0) ∧ w'.cell? ⟨g180, 3, none⟩ = some (.int .u64 0) ∧ w'.cell? ⟨g198, 0, none⟩ = some (.int .u64 t194) ∧ w'.cell? ⟨g198, 1, none⟩ = some (.int .u64 t195) ∧ w'.cell? ⟨g198, 2, none⟩ = some (.int .u64 t196) ∧ w'.cell? ⟨g198, 3, none⟩ = some (.int .u64 t197) ∧ w'.cell? ⟨g161, 0, none⟩ = some (.int .u64 t173) ∧ w'.cell? ⟨g161, 1, none⟩ = some (.int .u64 t175) ∧ w'.cell? ⟨g161, 2, none⟩ = some (.int .u64 t177) ∧ w'.cell? ⟨g161, 3, none⟩ = some (.int .u64 t179)) (ds := [15]) z15_25_ (by kernel_rfl) rfl rfl ⟨bq_ B180 0, bq_ B180 1, bq_ B180 2, bq_ B180 3, bq_ B198 0, bq_ B198 1, bq_ B198 2, bq_ B198 3, bq_ B161 0, bq_ B161 1, bq_ B161 2, bq_ B161 3⟩ (fun hL => ?_); refine with_tabW attestorref06_Round.tab19 attestorref06_Round.bits19 (fun T_ W_ => ?_)
    generalize w115.drew = w116 at B161 B162 B180 B185 B198 HB hL ⊢
    refine pure_ (i := 0) (N := some 64) (v := ?_) (a' := ?_) z15_26_ rfl rfl (any_of T_.out (by kernel_rfl)) (fun _ _ _ h => h) (Or.inl ⟨by rfl, ?_⟩) ?_ ?_
    rotate_left; · intro w'; go_simp; with_reducible rfl
    rotate_left; · simp only [Act.put, sa_, sb_, sc_, i64_w, i32_w]; rfl
    refine pure_ (i := 1) (N := some 65) (v := ?_) (a' := ?_) z15_27_ rfl rfl (any_of T_.out (by kernel_rfl)) (fun _ _ _ h => h) (Or.inl ⟨by rfl, ?_⟩) ?_ ?_
    rotate_left; · intro w'; go_simp; with_reducible rfl
    rotate_left; · simp only [Act.put, sa_, sb_, sc_, i64_w, i32_w]; rfl
    refine pure_ (i := 2) (N := some 66) (v := ?_) (a' := ?_) z15_28_ rfl rfl (any_of T_.out (by kernel_rfl)) (fun _ _ _ h => h) (Or.inl ⟨by rfl, ?_⟩) ?_ ?_
    rotate_left; · intro w'; go_simp; with_reducible rfl
    rotate_left; · simp only [Act.put, sa_, sb_, sc_, i64_w, i32_w]; rfl
    refine pure_ (i := 3) (N := some 67) (v := ?_) (a' := ?_) z15_29_ rfl rfl (any_of T_.out (by kernel_rfl)) (fun _ _ _ h => h) (Or.inl ⟨by rfl, ?_⟩) ?_ ?_
    rotate_left; · intro w'; go_simp; with_reducible rfl
    rotate_left; · simp only [Act.put, sa_, sb_, sc_, i64_w, i32_w]; rfl
    refine pure_ (i := 5) (N := some 69) (v := ?_) (a' := ?_) z15_30_ rfl rfl (any_of T_.out (by kernel_rfl)) (fun _ _ _ h => h) (Or.inl ⟨by rfl, ?_⟩) ?_ ?_
    rotate_left; · intro w'; go_simp; with_reducible rfl
    rotate_left; · simp only [Act.put, sa_, sb_, sc_, i64_w, i32_w]; rfl
    refine pure_ (i := 6) (N := some 70) (v := ?_) (a' := ?_) z15_31_ rfl rfl (any_of T_.out (by kernel_rfl)) (fun _ _ _ h => h) (Or.inl ⟨by rfl, ?_⟩) ?_ ?_
    rotate_left; · intro w'; go_simp; with_reducible rfl
    rotate_left; · simp only [Act.put, sa_, sb_, sc_, i64_w, i32_w]; rfl
    refine pure_ (i := 7) (N := some 71) (v := ?_) (a' := ?_) z15_32_ rfl rfl (any_of T_.out (by kernel_rfl)) (fun _ _ _ h => h) (Or.inl ⟨by rfl, ?_⟩) ?_ ?_
    rotate_left; · intro w'; go_simp; with_reducible rfl
    rotate_left; · simp only [Act.put, sa_, sb_, sc_, i64_w, i32_w]; rfl
    refine pure_ (i := 9) (N := some 73) (v := ?_) (a' := ?_) z15_33_ rfl rfl (any_of T_.out (by kernel_rfl)) (fun _ _ _ h => h) (Or.inl ⟨by rfl, ?_⟩) ?_ ?_
    rotate_left; · intro w'; go_simp; with_reducible rfl
    rotate_left; · simp only [Act.put, sa_, sb_, sc_, i64_w, i32_w]; rfl
    refine pure_ (i := 10) (N := some 74) (v := ?_) (a' := ?_) z15_34_ rfl rfl (any_of T_.out (by kernel_rfl)) (fun _ _ _ h => h) (Or.inl ⟨by rfl, ?_⟩) ?_ ?_
    rotate_left; · intro w'; go_simp; with_reducible rfl
    rotate_left; · simp only [Act.put, sa_, sb_, sc_, i64_w, i32_w]; rfl
    refine take_ (i := 4) (N := some 68) (v := ?_) (a' := ?_) z15_35_ rfl rfl (take_ofW T_.out W_.out (by kernel_rfl)) (fun _ _ _ h => h) (Or.inl ⟨by rfl, ?_⟩) hL ?_ ?_
    rotate_left
    ·rintro w' ⟨s0, s1, s2, s3, s4, s5, s6, s7, s8, s9, s10, s11⟩
     go_simp
     with_reducible rfl
    rotate_left
    ·simp only [Act.put, sa_, sb_, sc_, i64_w, i32_w]
     rfl
    refine take_ (i := 8) (N := some 72) (v := ?_) (a' := ?_) z15_36_ rfl rfl (take_ofW T_.out W_.out (by kernel_rfl)) (fun _ _ _ h => h) (Or.inl ⟨by rfl, ?_⟩) hL ?_ ?_
    rotate_left
    ·rintro w' ⟨s0, s1, s2, s3, s4, s5, s6, s7, s8, s9, s10, s11⟩
     go_simp
     with_reducible rfl
    rotate_left
    ·simp only [Act.put, sa_, sb_, sc_, i64_w, i32_w]
     rfl
    refine take_ (i := 11) (N := some 75) (v := ?_) (a' := ?_) z15_37_ rfl rfl (take_ofW T_.out W_.out (by kernel_rfl)) (fun _ _ _ h => h) (Or.inl ⟨by rfl, ?_⟩) hL ?_ ?_
    rotate_left
    ·rintro w' ⟨s0, s1, s2, s3, s4, s5, s6, s7, s8, s9, s10, s11⟩
     go_simp
     with_reducible rfl
    rotate_left
    ·simp only [Act.put, sa_, sb_, sc_, i64_w, i32_w]
     rfl
    refine one_ (i := 12) (N := some 76) z15_38_ rfl rfl (one_of T_.out (by kernel_rfl)) (by decide) (fun K hK => ?_)
    refine goes_ Tryd.func40 (by kernel_rfl) rfl #[.int .i64 a0, .int .u64 t195, .int .u64 t175] (by rfl) rfl rfl (by (try simp only [List.map_toArray, List.map_cons, List.map_nil]); first | done | rfl) ?_
    with_reducible refine (attestorref01_Mul.calls a0 t195 t175 t201 _ A112.out).mono ?_
    rintro e w' ⟨rfl, ⟨nd, rfl⟩⟩
    refine ⟨_, rfl, ?_⟩
    (try (rw [drewN_self w116]; generalize q_ : World.drewN w116 _ = w116; replace B161 := ra_ q_ B161; replace B162 := ra_ q_ B162; replace B180 := ra_ q_ B180; replace B185 := ra_ q_ B185; replace B198 := ra_ q_ B198; replace HB := rb_ q_ HB; clear q_))
    refine hK.out _ _ ⟨bq_ B180 0, bq_ B180 1, bq_ B180 2, bq_ B180 3, bq_ B198 0, bq_ B198 1, bq_ B198 2, bq_ B198 3, bq_ B161 0, bq_ B161 1, bq_ B161 2, bq_ B161 3⟩ (fun hL => ?_)
    clear hK K
    refine norm_ (a' := ?_) ?_ ?_
    rotate_left
    ·show Act.put _ (some 76) _ = _
     simp only [Act.put, sa_, sb_, sc_, i64_w, i32_w]
     rfl
    refine one_ (i := 13) (N := some 77) z15_39_ rfl rfl (one_of T_.out (by kernel_rfl)) (by decide) (fun K hK => ?_)
    refine goes_ Tryd.func32 (by kernel_rfl) rfl #[.int .i64 a0, .int .u64 t200, .int .u64 t201] (by rfl) rfl rfl (by (try simp only [List.map_toArray, List.map_cons, List.map_nil]); first | done | rfl) ?_
    with_reducible refine (attestorref01_Add.calls a0 t200 t201 t202 _ A113.out).mono ?_
    rintro e w' ⟨rfl, ⟨nd, rfl⟩⟩
    refine ⟨_, rfl, ?_⟩
    (try (rw [drewN_self w116]; generalize q_ : World.drewN w116 _ = w116; replace B161 := ra_ q_ B161; replace B162 := ra_ q_ B162; replace B180 := ra_ q_ B180; replace B185 := ra_ q_ B185; replace B198 := ra_ q_ B198; replace HB := rb_ q_ HB; clear q_))
    refine hK.out _ _ ⟨bq_ B180 0, bq_ B180 1, bq_ B180 2, bq_ B180 3, bq_ B198 0, bq_ B198 1, bq_ B198 2, bq_ B198 3, bq_ B161 0, bq_ B161 1, bq_ B161 2, bq_ B161 3⟩ (fun hL => ?_)
    clear hK K
    refine norm_ (a' := ?_) ?_ ?_
    rotate_left
    ·show Act.put _ (some 77) _ = _
     simp only [Act.put, sa_, sb_, sc_, i64_w, i32_w]
     rfl
    refine pure_ (i := 14) (N := some 78) (v := ?_) (a' := ?_) z15_40_ rfl rfl (any_of T_.out (by kernel_rfl)) (fun _ _ _ h => h) (Or.inl ⟨by rfl, ?_⟩) ?_ ?_
    rotate_left; · intro w'; go_simp; with_reducible rfl
    rotate_left; · simp only [Act.put, sa_, sb_, sc_, i64_w, i32_w]; rfl
    refine last_ (i := 15) (N := none) z15_41_ rfl rfl (one_of T_.out (by kernel_rfl)) (by decide) (fun K hK => ?_)
    have hs117 : w116.cell? ⟨g180, 1, none⟩ = some (.int .u64 t200) := bq_ B180 1
    have hfs117 := blk_frozen B180.out 1
    have hns117_0 := NB161_180.out
    have hns117_1 := NB162_180.out
    have hns117_3 := NB185_180.out
    have hns117_4 := NB198_180.out
    have hms117_0 := NB180_161.out
    have hms117_1 := NB180_162.out
    have hms117_3 := NB180_185.out
    have hms117_4 := NB180_198.out
    refine skip_ (w1 := ?_) (by rfl) rfl ?_ ?_
    rotate_left
    ·go_simp
     rfl
    refine hK.out _ _ ?_
    clear hK K
    refine done_ (done_of T_.out (by kernel_rfl)) ?_
    try go_wp2
    rw [rounds_succ]
    have H := HC114.out
    clear HC114
    replace H := Option.bind_eq_some_iff.mp H
    obtain ⟨t203, A1180, H⟩ := H
    have A118 := Aside0.mk A1180
    clear A1180
    replace H := Option.bind_eq_some_iff.mp H
    obtain ⟨t204, A1190, H⟩ := H
    have A119 := Aside0.mk A1190
    clear A1190
    have HC120 := Aside0.mk H
    clear H
    try go_wp2
    have n0_ := bf_ B161 NB161_180 ⟨g180, 1, none⟩ (.int .u64 t202) rfl
    have n1_ := bf_ B162 NB162_180 ⟨g180, 1, none⟩ (.int .u64 t202) rfl
    have n2_ : Aside0 ((w116.setCell ⟨g180, 1, none⟩ (.int .u64 t202)).heap[g180]? = some (.cells #[.int .u64 t193, .int .u64 t202, .int .u64 0, .int .u64 0] 23 (0, 0))) := ⟨by refine blk_put (cs := #[.int .u64 t193, .int .u64 t200, .int .u64 0, .int .u64 0]) ?_ 1 _ rfl; exact B180.out⟩
    have n3_ := bf_ B185 NB185_180 ⟨g180, 1, none⟩ (.int .u64 t202) rfl
    have n4_ := bf_ B198 NB198_180 ⟨g180, 1, none⟩ (.int .u64 t202) rfl
    have n5_ : Aside0 (Below w.heap.size w (w116.setCell ⟨g180, 1, none⟩ (.int .u64 t202))) := ⟨by repeat (first | (with_reducible first | exact HB.out | apply below_alloc | apply pw_below_drewN | apply below_drew1 | refine below_set ?_ GE161.out | refine below_set ?_ GE162.out | refine below_set ?_ GE180.out | refine below_set ?_ GE185.out | refine below_set ?_ GE198.out) | exact HB.out)⟩
    (try clear B161)
    (try clear B162)
    (try clear B180)
    (try clear B185)
    (try clear B198)
    (try clear HB)
    generalize (w116.setCell ⟨g180, 1, none⟩ (.int .u64 t202)) = w121 at n0_ n1_ n2_ n3_ n4_ n5_ ⊢
    have B161 := n0_
    have B162 := n1_
    have B180 := n2_
    have B185 := n3_
    have B198 := n4_
    have HB := n5_
    clear n0_ n1_ n2_ n3_ n4_ n5_
    have n0_ := Aside0.mk (blk_drew B161.out)
    have n1_ := Aside0.mk (blk_drew B162.out)
    have n2_ := Aside0.mk (blk_drew B180.out)
    have n3_ := Aside0.mk (blk_drew B185.out)
    have n4_ := Aside0.mk (blk_drew B198.out)
    have n5_ := Aside0.mk (below_drew1 HB.out)
    clear B161
    clear B162
    clear B180
    clear B185
    clear B198
    clear HB
    have B161 := n0_
    have B162 := n1_
    have B180 := n2_
    have B185 := n3_
    have B198 := n4_
    have HB := n5_
    clear n0_ n1_ n2_ n3_ n4_ n5_
    refine start_ (n := 16) (S := fun w' => w'.cell? ⟨g180, 0, none⟩ = some (.int .u64 t193) ∧ w'.cell? ⟨g180, 1, none⟩ = some (.int .u64 t202) ∧ w'.cell? ⟨g180, 2, none⟩ = some (.int .u64 0) ∧ w'.cell? ⟨g180, 3, none⟩ = some (.int .u64 0) ∧ w'.cell? ⟨g198, 0, none⟩ = some (.int .u64 t194) ∧ w'.cell? ⟨g198, 1, none⟩ = some (.int .u64 t195) ∧ w'.cell? ⟨g198, 2, none⟩ = some (.int .u64 t196) ∧ w'.cell? ⟨g198, 3, none⟩ = some (.int .u64 t197) ∧ w'.cell? ⟨g161, 0, none⟩ = some (.int .u64 t173) ∧ w'.cell? ⟨g161, 1, none⟩ = some (.int .u64 t175) ∧ w'.cell? ⟨g161, 2, none⟩ = some (.int .u64 t177) ∧ w'.cell? ⟨g161, 3, none⟩ = some (.int .u64 t179)) (ds := [15]) z15_25_ (by kernel_rfl) rfl rfl ⟨bq_ B180 0, bq_ B180 1, bq_ B180 2, bq_ B180 3, bq_ B198 0, bq_ B198 1, bq_ B198 2, bq_ B198 3, bq_ B161 0, bq_ B161 1, bq_ B161 2, bq_ B161 3⟩ (fun hL => ?_); refine with_tabW attestorref06_Round.tab19 attestorref06_Round.bits19 (fun T_ W_ => ?_)
    generalize w121.drew = w122 at B161 B162 B180 B185 B198 HB hL ⊢
    refine pure_ (i := 0) (N := some 64) (v := ?_) (a' := ?_) z15_26_ rfl rfl (any_of T_.out (by kernel_rfl)) (fun _ _ _ h => h) (Or.inl ⟨by rfl, ?_⟩) ?_ ?_
    rotate_left; · intro w'; go_simp; with_reducible rfl
    rotate_left; · simp only [Act.put, sa_, sb_, sc_, i64_w, i32_w]; rfl
    refine pure_ (i := 1) (N := some 65) (v := ?_) (a' := ?_) z15_27_ rfl rfl (any_of T_.out (by kernel_rfl)) (fun _ _ _ h => h) (Or.inl ⟨by rfl, ?_⟩) ?_ ?_
    rotate_left; · intro w'; go_simp; with_reducible rfl
    rotate_left; · simp only [Act.put, sa_, sb_, sc_, i64_w, i32_w]; rfl
    refine pure_ (i := 2) (N := some 66) (v := ?_) (a' := ?_) z15_28_ rfl rfl (any_of T_.out (by kernel_rfl)) (fun _ _ _ h => h) (Or.inl ⟨by rfl, ?_⟩) ?_ ?_
    rotate_left; · intro w'; go_simp; with_reducible rfl
    rotate_left; · simp only [Act.put, sa_, sb_, sc_, i64_w, i32_w]; rfl
    refine pure_ (i := 3) (N := some 67) (v := ?_) (a' := ?_) z15_29_ rfl rfl (any_of T_.out (by kernel_rfl)) (fun _ _ _ h => h) (Or.inl ⟨by rfl, ?_⟩) ?_ ?_
    rotate_left; · intro w'; go_simp; with_reducible rfl
    rotate_left; · simp only [Act.put, sa_, sb_, sc_, i64_w, i32_w]; rfl
    refine pure_ (i := 5) (N := some 69) (v := ?_) (a' := ?_) z15_30_ rfl rfl (any_of T_.out (by kernel_rfl)) (fun _ _ _ h => h) (Or.inl ⟨by rfl, ?_⟩) ?_ ?_
    rotate_left; · intro w'; go_simp; with_reducible rfl
    rotate_left; · simp only [Act.put, sa_, sb_, sc_, i64_w, i32_w]; rfl
    refine pure_ (i := 6) (N := some 70) (v := ?_) (a' := ?_) z15_31_ rfl rfl (any_of T_.out (by kernel_rfl)) (fun _ _ _ h => h) (Or.inl ⟨by rfl, ?_⟩) ?_ ?_
    rotate_left; · intro w'; go_simp; with_reducible rfl
    rotate_left; · simp only [Act.put, sa_, sb_, sc_, i64_w, i32_w]; rfl
    refine pure_ (i := 7) (N := some 71) (v := ?_) (a' := ?_) z15_32_ rfl rfl (any_of T_.out (by kernel_rfl)) (fun _ _ _ h => h) (Or.inl ⟨by rfl, ?_⟩) ?_ ?_
    rotate_left; · intro w'; go_simp; with_reducible rfl
    rotate_left; · simp only [Act.put, sa_, sb_, sc_, i64_w, i32_w]; rfl
    refine pure_ (i := 9) (N := some 73) (v := ?_) (a' := ?_) z15_33_ rfl rfl (any_of T_.out (by kernel_rfl)) (fun _ _ _ h => h) (Or.inl ⟨by rfl, ?_⟩) ?_ ?_
    rotate_left; · intro w'; go_simp; with_reducible rfl
    rotate_left; · simp only [Act.put, sa_, sb_, sc_, i64_w, i32_w]; rfl
    refine pure_ (i := 10) (N := some 74) (v := ?_) (a' := ?_) z15_34_ rfl rfl (any_of T_.out (by kernel_rfl)) (fun _ _ _ h => h) (Or.inl ⟨by rfl, ?_⟩) ?_ ?_
    rotate_left; · intro w'; go_simp; with_reducible rfl
    rotate_left; · simp only [Act.put, sa_, sb_, sc_, i64_w, i32_w]; rfl
    refine take_ (i := 4) (N := some 68) (v := ?_) (a' := ?_) z15_35_ rfl rfl (take_ofW T_.out W_.out (by kernel_rfl)) (fun _ _ _ h => h) (Or.inl ⟨by rfl, ?_⟩) hL ?_ ?_
    rotate_left
    ·rintro w' ⟨s0, s1, s2, s3, s4, s5, s6, s7, s8, s9, s10, s11⟩
     go_simp
     with_reducible rfl
    rotate_left
    ·simp only [Act.put, sa_, sb_, sc_, i64_w, i32_w]
     rfl
    refine take_ (i := 8) (N := some 72) (v := ?_) (a' := ?_) z15_36_ rfl rfl (take_ofW T_.out W_.out (by kernel_rfl)) (fun _ _ _ h => h) (Or.inl ⟨by rfl, ?_⟩) hL ?_ ?_
    rotate_left
    ·rintro w' ⟨s0, s1, s2, s3, s4, s5, s6, s7, s8, s9, s10, s11⟩
     go_simp
     with_reducible rfl
    rotate_left
    ·simp only [Act.put, sa_, sb_, sc_, i64_w, i32_w]
     rfl
    refine take_ (i := 11) (N := some 75) (v := ?_) (a' := ?_) z15_37_ rfl rfl (take_ofW T_.out W_.out (by kernel_rfl)) (fun _ _ _ h => h) (Or.inl ⟨by rfl, ?_⟩) hL ?_ ?_
    rotate_left
    ·rintro w' ⟨s0, s1, s2, s3, s4, s5, s6, s7, s8, s9, s10, s11⟩
     go_simp
     with_reducible rfl
    rotate_left
    ·simp only [Act.put, sa_, sb_, sc_, i64_w, i32_w]
     rfl
    refine one_ (i := 12) (N := some 76) z15_38_ rfl rfl (one_of T_.out (by kernel_rfl)) (by decide) (fun K hK => ?_)
    refine goes_ Tryd.func40 (by kernel_rfl) rfl #[.int .i64 a0, .int .u64 t196, .int .u64 t177] (by rfl) rfl rfl (by (try simp only [List.map_toArray, List.map_cons, List.map_nil]); first | done | rfl) ?_
    with_reducible refine (attestorref01_Mul.calls a0 t196 t177 t203 _ A118.out).mono ?_
    rintro e w' ⟨rfl, ⟨nd, rfl⟩⟩
    refine ⟨_, rfl, ?_⟩
    (try (rw [drewN_self w122]; generalize q_ : World.drewN w122 _ = w122; replace B161 := ra_ q_ B161; replace B162 := ra_ q_ B162; replace B180 := ra_ q_ B180; replace B185 := ra_ q_ B185; replace B198 := ra_ q_ B198; replace HB := rb_ q_ HB; clear q_))
    refine hK.out _ _ ⟨bq_ B180 0, bq_ B180 1, bq_ B180 2, bq_ B180 3, bq_ B198 0, bq_ B198 1, bq_ B198 2, bq_ B198 3, bq_ B161 0, bq_ B161 1, bq_ B161 2, bq_ B161 3⟩ (fun hL => ?_)
    clear hK K
    refine norm_ (a' := ?_) ?_ ?_
    rotate_left
    ·show Act.put _ (some 76) _ = _
     simp only [Act.put, sa_, sb_, sc_, i64_w, i32_w]
     rfl
    refine one_ (i := 13) (N := some 77) z15_39_ rfl rfl (one_of T_.out (by kernel_rfl)) (by decide) (fun K hK => ?_)
    refine goes_ Tryd.func32 (by kernel_rfl) rfl #[.int .i64 a0, .int .u64 t202, .int .u64 t203] (by rfl) rfl rfl (by (try simp only [List.map_toArray, List.map_cons, List.map_nil]); first | done | rfl) ?_
    with_reducible refine (attestorref01_Add.calls a0 t202 t203 t204 _ A119.out).mono ?_
    rintro e w' ⟨rfl, ⟨nd, rfl⟩⟩
    refine ⟨_, rfl, ?_⟩
    (try (rw [drewN_self w122]; generalize q_ : World.drewN w122 _ = w122; replace B161 := ra_ q_ B161; replace B162 := ra_ q_ B162; replace B180 := ra_ q_ B180; replace B185 := ra_ q_ B185; replace B198 := ra_ q_ B198; replace HB := rb_ q_ HB; clear q_))
    refine hK.out _ _ ⟨bq_ B180 0, bq_ B180 1, bq_ B180 2, bq_ B180 3, bq_ B198 0, bq_ B198 1, bq_ B198 2, bq_ B198 3, bq_ B161 0, bq_ B161 1, bq_ B161 2, bq_ B161 3⟩ (fun hL => ?_)
    clear hK K
    refine norm_ (a' := ?_) ?_ ?_
    rotate_left
    ·show Act.put _ (some 77) _ = _
     simp only [Act.put, sa_, sb_, sc_, i64_w, i32_w]
     rfl
    refine pure_ (i := 14) (N := some 78) (v := ?_) (a' := ?_) z15_40_ rfl rfl (any_of T_.out (by kernel_rfl)) (fun _ _ _ h => h) (Or.inl ⟨by rfl, ?_⟩) ?_ ?_
    rotate_left; · intro w'; go_simp; with_reducible rfl
    rotate_left; · simp only [Act.put, sa_, sb_, sc_, i64_w, i32_w]; rfl
    refine last_ (i := 15) (N := none) z15_41_ rfl rfl (one_of T_.out (by kernel_rfl)) (by decide) (fun K hK => ?_)
    have hs123 : w122.cell? ⟨g180, 1, none⟩ = some (.int .u64 t202) := bq_ B180 1
    have hfs123 := blk_frozen B180.out 1
    have hns123_0 := NB161_180.out
    have hns123_1 := NB162_180.out
    have hns123_3 := NB185_180.out
    have hns123_4 := NB198_180.out
    have hms123_0 := NB180_161.out
    have hms123_1 := NB180_162.out
    have hms123_3 := NB180_185.out
    have hms123_4 := NB180_198.out
    refine skip_ (w1 := ?_) (by rfl) rfl ?_ ?_
    rotate_left
    ·go_simp
     rfl
    refine hK.out _ _ ?_
    clear hK K
    refine done_ (done_of T_.out (by kernel_rfl)) ?_
    try go_wp2
    rw [rounds_succ]
    have H := HC120.out
    clear HC120
    replace H := Option.bind_eq_some_iff.mp H
    obtain ⟨t205, A1240, H⟩ := H
    have A124 := Aside0.mk A1240
    clear A1240
    replace H := Option.bind_eq_some_iff.mp H
    obtain ⟨t206, A1250, H⟩ := H
    have A125 := Aside0.mk A1250
    clear A1250
    have HC126 := Aside0.mk H
    clear H
    try go_wp2
    have n0_ := bf_ B161 NB161_180 ⟨g180, 1, none⟩ (.int .u64 t204) rfl
    have n1_ := bf_ B162 NB162_180 ⟨g180, 1, none⟩ (.int .u64 t204) rfl
    have n2_ : Aside0 ((w122.setCell ⟨g180, 1, none⟩ (.int .u64 t204)).heap[g180]? = some (.cells #[.int .u64 t193, .int .u64 t204, .int .u64 0, .int .u64 0] 23 (0, 0))) := ⟨by refine blk_put (cs := #[.int .u64 t193, .int .u64 t202, .int .u64 0, .int .u64 0]) ?_ 1 _ rfl; exact B180.out⟩
    have n3_ := bf_ B185 NB185_180 ⟨g180, 1, none⟩ (.int .u64 t204) rfl
    have n4_ := bf_ B198 NB198_180 ⟨g180, 1, none⟩ (.int .u64 t204) rfl
    have n5_ : Aside0 (Below w.heap.size w (w122.setCell ⟨g180, 1, none⟩ (.int .u64 t204))) := ⟨by repeat (first | (with_reducible first | exact HB.out | apply below_alloc | apply pw_below_drewN | apply below_drew1 | refine below_set ?_ GE161.out | refine below_set ?_ GE162.out | refine below_set ?_ GE180.out | refine below_set ?_ GE185.out | refine below_set ?_ GE198.out) | exact HB.out)⟩
    (try clear B161)
    (try clear B162)
    (try clear B180)
    (try clear B185)
    (try clear B198)
    (try clear HB)
    generalize (w122.setCell ⟨g180, 1, none⟩ (.int .u64 t204)) = w127 at n0_ n1_ n2_ n3_ n4_ n5_ ⊢
    have B161 := n0_
    have B162 := n1_
    have B180 := n2_
    have B185 := n3_
    have B198 := n4_
    have HB := n5_
    clear n0_ n1_ n2_ n3_ n4_ n5_
    have n0_ := Aside0.mk (blk_drew B161.out)
    have n1_ := Aside0.mk (blk_drew B162.out)
    have n2_ := Aside0.mk (blk_drew B180.out)
    have n3_ := Aside0.mk (blk_drew B185.out)
    have n4_ := Aside0.mk (blk_drew B198.out)
    have n5_ := Aside0.mk (below_drew1 HB.out)
    clear B161
    clear B162
    clear B180
    clear B185
    clear B198
    clear HB
    have B161 := n0_
    have B162 := n1_
    have B180 := n2_
    have B185 := n3_
    have B198 := n4_
    have HB := n5_
    clear n0_ n1_ n2_ n3_ n4_ n5_
    refine start_ (n := 16) (S := fun w' => w'.cell? ⟨g180, 0, none⟩ = some (.int .u64 t193) ∧ w'.cell? ⟨g180, 1, none⟩ = some (.int .u64 t204) ∧ w'.cell? ⟨g180, 2, none⟩ = some (.int .u64 0) ∧ w'.cell? ⟨g180, 3, none⟩ = some (.int .u64 0) ∧ w'.cell? ⟨g198, 0, none⟩ = some (.int .u64 t194) ∧ w'.cell? ⟨g198, 1, none⟩ = some (.int .u64 t195) ∧ w'.cell? ⟨g198, 2, none⟩ = some (.int .u64 t196) ∧ w'.cell? ⟨g198, 3, none⟩ = some (.int .u64 t197) ∧ w'.cell? ⟨g161, 0, none⟩ = some (.int .u64 t173) ∧ w'.cell? ⟨g161, 1, none⟩ = some (.int .u64 t175) ∧ w'.cell? ⟨g161, 2, none⟩ = some (.int .u64 t177) ∧ w'.cell? ⟨g161, 3, none⟩ = some (.int .u64 t179)) (ds := [15]) z15_25_ (by kernel_rfl) rfl rfl ⟨bq_ B180 0, bq_ B180 1, bq_ B180 2, bq_ B180 3, bq_ B198 0, bq_ B198 1, bq_ B198 2, bq_ B198 3, bq_ B161 0, bq_ B161 1, bq_ B161 2, bq_ B161 3⟩ (fun hL => ?_); refine with_tabW attestorref06_Round.tab19 attestorref06_Round.bits19 (fun T_ W_ => ?_)
    generalize w127.drew = w128 at B161 B162 B180 B185 B198 HB hL ⊢
    refine pure_ (i := 0) (N := some 64) (v := ?_) (a' := ?_) z15_26_ rfl rfl (any_of T_.out (by kernel_rfl)) (fun _ _ _ h => h) (Or.inl ⟨by rfl, ?_⟩) ?_ ?_
    rotate_left; · intro w'; go_simp; with_reducible rfl
    rotate_left; · simp only [Act.put, sa_, sb_, sc_, i64_w, i32_w]; rfl
    refine pure_ (i := 1) (N := some 65) (v := ?_) (a' := ?_) z15_27_ rfl rfl (any_of T_.out (by kernel_rfl)) (fun _ _ _ h => h) (Or.inl ⟨by rfl, ?_⟩) ?_ ?_
    rotate_left; · intro w'; go_simp; with_reducible rfl
    rotate_left; · simp only [Act.put, sa_, sb_, sc_, i64_w, i32_w]; rfl
    refine pure_ (i := 2) (N := some 66) (v := ?_) (a' := ?_) z15_28_ rfl rfl (any_of T_.out (by kernel_rfl)) (fun _ _ _ h => h) (Or.inl ⟨by rfl, ?_⟩) ?_ ?_
    rotate_left; · intro w'; go_simp; with_reducible rfl
    rotate_left; · simp only [Act.put, sa_, sb_, sc_, i64_w, i32_w]; rfl
    refine pure_ (i := 3) (N := some 67) (v := ?_) (a' := ?_) z15_29_ rfl rfl (any_of T_.out (by kernel_rfl)) (fun _ _ _ h => h) (Or.inl ⟨by rfl, ?_⟩) ?_ ?_
    rotate_left; · intro w'; go_simp; with_reducible rfl
    rotate_left; · simp only [Act.put, sa_, sb_, sc_, i64_w, i32_w]; rfl
    refine pure_ (i := 5) (N := some 69) (v := ?_) (a' := ?_) z15_30_ rfl rfl (any_of T_.out (by kernel_rfl)) (fun _ _ _ h => h) (Or.inl ⟨by rfl, ?_⟩) ?_ ?_
    rotate_left; · intro w'; go_simp; with_reducible rfl
    rotate_left; · simp only [Act.put, sa_, sb_, sc_, i64_w, i32_w]; rfl
    refine pure_ (i := 6) (N := some 70) (v := ?_) (a' := ?_) z15_31_ rfl rfl (any_of T_.out (by kernel_rfl)) (fun _ _ _ h => h) (Or.inl ⟨by rfl, ?_⟩) ?_ ?_
    rotate_left; · intro w'; go_simp; with_reducible rfl
    rotate_left; · simp only [Act.put, sa_, sb_, sc_, i64_w, i32_w]; rfl
    refine pure_ (i := 7) (N := some 71) (v := ?_) (a' := ?_) z15_32_ rfl rfl (any_of T_.out (by kernel_rfl)) (fun _ _ _ h => h) (Or.inl ⟨by rfl, ?_⟩) ?_ ?_
    rotate_left; · intro w'; go_simp; with_reducible rfl
    rotate_left; · simp only [Act.put, sa_, sb_, sc_, i64_w, i32_w]; rfl
    refine pure_ (i := 9) (N := some 73) (v := ?_) (a' := ?_) z15_33_ rfl rfl (any_of T_.out (by kernel_rfl)) (fun _ _ _ h => h) (Or.inl ⟨by rfl, ?_⟩) ?_ ?_
    rotate_left; · intro w'; go_simp; with_reducible rfl
    rotate_left; · simp only [Act.put, sa_, sb_, sc_, i64_w, i32_w]; rfl
    refine pure_ (i := 10) (N := some 74) (v := ?_) (a' := ?_) z15_34_ rfl rfl (any_of T_.out (by kernel_rfl)) (fun _ _ _ h => h) (Or.inl ⟨by rfl, ?_⟩) ?_ ?_
    rotate_left; · intro w'; go_simp; with_reducible rfl
    rotate_left; · simp only [Act.put, sa_, sb_, sc_, i64_w, i32_w]; rfl
    refine take_ (i := 4) (N := some 68) (v := ?_) (a' := ?_) z15_35_ rfl rfl (take_ofW T_.out W_.out (by kernel_rfl)) (fun _ _ _ h => h) (Or.inl ⟨by rfl, ?_⟩) hL ?_ ?_
    rotate_left
    ·rintro w' ⟨s0, s1, s2, s3, s4, s5, s6, s7, s8, s9, s10, s11⟩
     go_simp
     with_reducible rfl
    rotate_left
    ·simp only [Act.put, sa_, sb_, sc_, i64_w, i32_w]
     rfl
    refine take_ (i := 8) (N := some 72) (v := ?_) (a' := ?_) z15_36_ rfl rfl (take_ofW T_.out W_.out (by kernel_rfl)) (fun _ _ _ h => h) (Or.inl ⟨by rfl, ?_⟩) hL ?_ ?_
    rotate_left
    ·rintro w' ⟨s0, s1, s2, s3, s4, s5, s6, s7, s8, s9, s10, s11⟩
     go_simp
     with_reducible rfl
    rotate_left
    ·simp only [Act.put, sa_, sb_, sc_, i64_w, i32_w]
     rfl
    refine take_ (i := 11) (N := some 75) (v := ?_) (a' := ?_) z15_37_ rfl rfl (take_ofW T_.out W_.out (by kernel_rfl)) (fun _ _ _ h => h) (Or.inl ⟨by rfl, ?_⟩) hL ?_ ?_
    rotate_left
    ·rintro w' ⟨s0, s1, s2, s3, s4, s5, s6, s7, s8, s9, s10, s11⟩
     go_simp
     with_reducible rfl
    rotate_left
    ·simp only [Act.put, sa_, sb_, sc_, i64_w, i32_w]
     rfl
    refine one_ (i := 12) (N := some 76) z15_38_ rfl rfl (one_of T_.out (by kernel_rfl)) (by decide) (fun K hK => ?_)
    refine goes_ Tryd.func40 (by kernel_rfl) rfl #[.int .i64 a0, .int .u64 t197, .int .u64 t179] (by rfl) rfl rfl (by (try simp only [List.map_toArray, List.map_cons, List.map_nil]); first | done | rfl) ?_
    with_reducible refine (attestorref01_Mul.calls a0 t197 t179 t205 _ A124.out).mono ?_
    rintro e w' ⟨rfl, ⟨nd, rfl⟩⟩
    refine ⟨_, rfl, ?_⟩
    (try (rw [drewN_self w128]; generalize q_ : World.drewN w128 _ = w128; replace B161 := ra_ q_ B161; replace B162 := ra_ q_ B162; replace B180 := ra_ q_ B180; replace B185 := ra_ q_ B185; replace B198 := ra_ q_ B198; replace HB := rb_ q_ HB; clear q_))
    refine hK.out _ _ ⟨bq_ B180 0, bq_ B180 1, bq_ B180 2, bq_ B180 3, bq_ B198 0, bq_ B198 1, bq_ B198 2, bq_ B198 3, bq_ B161 0, bq_ B161 1, bq_ B161 2, bq_ B161 3⟩ (fun hL => ?_)
    clear hK K
    refine norm_ (a' := ?_) ?_ ?_
    rotate_left
    ·show Act.put _ (some 76) _ = _
     simp only [Act.put, sa_, sb_, sc_, i64_w, i32_w]
     rfl
    refine one_ (i := 13) (N := some 77) z15_39_ rfl rfl (one_of T_.out (by kernel_rfl)) (by decide) (fun K hK => ?_)
    refine goes_ Tryd.func32 (by kernel_rfl) rfl #[.int .i64 a0, .int .u64 t204, .int .u64 t205] (by rfl) rfl rfl (by (try simp only [List.map_toArray, List.map_cons, List.map_nil]); first | done | rfl) ?_
    with_reducible refine (attestorref01_Add.calls a0 t204 t205 t206 _ A125.out).mono ?_
    rintro e w' ⟨rfl, ⟨nd, rfl⟩⟩
    refine ⟨_, rfl, ?_⟩
    (try (rw [drewN_self w128]; generalize q_ : World.drewN w128 _ = w128; replace B161 := ra_ q_ B161; replace B162 := ra_ q_ B162; replace B180 := ra_ q_ B180; replace B185 := ra_ q_ B185; replace B198 := ra_ q_ B198; replace HB := rb_ q_ HB; clear q_))
    refine hK.out _ _ ⟨bq_ B180 0, bq_ B180 1, bq_ B180 2, bq_ B180 3, bq_ B198 0, bq_ B198 1, bq_ B198 2, bq_ B198 3, bq_ B161 0, bq_ B161 1, bq_ B161 2, bq_ B161 3⟩ (fun hL => ?_)
    clear hK K
    refine norm_ (a' := ?_) ?_ ?_
    rotate_left
    ·show Act.put _ (some 77) _ = _
     simp only [Act.put, sa_, sb_, sc_, i64_w, i32_w]
     rfl
    refine pure_ (i := 14) (N := some 78) (v := ?_) (a' := ?_) z15_40_ rfl rfl (any_of T_.out (by kernel_rfl)) (fun _ _ _ h => h) (Or.inl ⟨by rfl, ?_⟩) ?_ ?_
    rotate_left; · intro w'; go_simp; with_reducible rfl
    rotate_left; · simp only [Act.put, sa_, sb_, sc_, i64_w, i32_w]; rfl
    refine last_ (i := 15) (N := none) z15_41_ rfl rfl (one_of T_.out (by kernel_rfl)) (by decide) (fun K hK => ?_)
    have hs129 : w128.cell? ⟨g180, 1, none⟩ = some (.int .u64 t204) := bq_ B180 1
    have hfs129 := blk_frozen B180.out 1
    have hns129_0 := NB161_180.out
    have hns129_1 := NB162_180.out
    have hns129_3 := NB185_180.out
    have hns129_4 := NB198_180.out
    have hms129_0 := NB180_161.out
    have hms129_1 := NB180_162.out
    have hms129_3 := NB180_185.out
    have hms129_4 := NB180_198.out
    refine skip_ (w1 := ?_) (by rfl) rfl ?_ ?_
    rotate_left
    ·go_simp
     rfl
    refine hK.out _ _ ?_
    clear hK K
    refine done_ (done_of T_.out (by kernel_rfl)) ?_
    try go_wp2
    rw [rounds_succ]
    have H := HC126.out
    clear HC126
    have HC130 := Aside0.mk H
    clear H
    go_wp2
    rw [rounds_succ]
    have H := HC130.out
    clear HC130
    replace H := Option.bind_eq_some_iff.mp H
    obtain ⟨⟨t207, t208, t209, t210⟩, A1310, H⟩ := H
    replace H : ((attestorref01_Mul.f a0 t207 t173).bind fun t212 => ((attestorref01_Add.f a0 0 t212).bind fun t213 => ((attestorref01_Mul.f a0 t208 t175).bind fun t214 => ((attestorref01_Add.f a0 t213 t214).bind fun t215 => ((attestorref01_Mul.f a0 t209 t177).bind fun t216 => ((attestorref01_Add.f a0 t215 t216).bind fun t217 => ((attestorref01_Mul.f a0 t210 t179).bind fun t218 => ((attestorref01_Add.f a0 t217 t218).bind fun t219 => ((attestorref06_row.f 3).bind fun bt220 => ((attestorref01_Mul.f a0 bt220.1 t173).bind fun t225 => ((attestorref01_Add.f a0 0 t225).bind fun t226 => ((attestorref01_Mul.f a0 bt220.2.1 t175).bind fun t227 => ((attestorref01_Add.f a0 t226 t227).bind fun t228 => ((attestorref01_Mul.f a0 bt220.2.2.1 t177).bind fun t229 => ((attestorref01_Add.f a0 t228 t229).bind fun t230 => ((attestorref01_Mul.f a0 bt220.2.2.2 t179).bind fun t231 => ((attestorref01_Add.f a0 t230 t231).bind fun t232 => (some (t193, t206, t219, t232))))))))))))))))))) = some (r1, r2, r3, r4) := H
    have A131 := Aside0.mk A1310
    clear A1310
    have HC132 := Aside0.mk H
    clear H
    go_wp2_with (first | ((with_reducible refine gate_callee (f := 39) rfl ?_); refine goesL_ (some 59) rfl rfl Tryd.func39 (by kernel_rfl) rfl #[.int .i64 2] rfl (by (try simp only [List.map_toArray, List.map_cons, List.map_nil]); first | done | rfl) ?_; (with_reducible refine (attestorref06_row.calls 2 t207 t208 t209 t210 _ A131.out).mono ?_); rintro e w133 ⟨rfl, hb⟩; refine ⟨_, rfl, ?_⟩; have n0_ := Aside0.mk (blk_below (g := g161) (o := .cells #[.int .u64 t173, .int .u64 t175, .int .u64 t177, .int .u64 t179] 23 (0, 0)) (by refine blk_far ?_ NB161_180.out _; exact B161.out) hb); have n1_ := Aside0.mk (blk_below (g := g162) (o := .cells #[.int .u64 0, .int .u64 0, .int .u64 0, .int .u64 0] 23 (0, 0)) (by refine blk_far ?_ NB162_180.out _; exact B162.out) hb); have n2_ := Aside0.mk (blk_below (g := g180) (o := .cells #[.int .u64 t193, .int .u64 t206, .int .u64 0, .int .u64 0] 23 (0, 0)) (by refine blk_put (cs := #[.int .u64 t193, .int .u64 t204, .int .u64 0, .int .u64 0]) ?_ 1 _ rfl; exact B180.out) hb); have n3_ := Aside0.mk (blk_below (g := g185) (o := .cells #[.int .u64 t181, .int .u64 t182, .int .u64 t183, .int .u64 t184] 23 (0, 0)) (by refine blk_far ?_ NB185_180.out _; exact B185.out) hb); have n4_ := Aside0.mk (blk_below (g := g198) (o := .cells #[.int .u64 t194, .int .u64 t195, .int .u64 t196, .int .u64 t197] 23 (0, 0)) (by refine blk_far ?_ NB198_180.out _; exact B198.out) hb); have n5_ := Aside0.mk (below_step (by repeat (first | (with_reducible first | exact HB.out | apply below_alloc | apply pw_below_drewN | apply below_drew1 | refine below_set ?_ GE161.out | refine below_set ?_ GE162.out | refine below_set ?_ GE180.out | refine below_set ?_ GE185.out | refine below_set ?_ GE198.out) | exact HB.out)) hb); clear B161; clear B162; clear B180; clear B185; clear B198; clear HB; have B161 := n0_; have B162 := n1_; have B180 := n2_; have B185 := n3_; have B198 := n4_; have HB := n5_; clear n0_ n1_ n2_ n3_ n4_ n5_; (try clear hb); (try clear hb2); (try clear hk); (try clear hi)) | ((with_reducible refine gate_dst (N := 11) rfl ?_); refine box_event ?hg (N := 11) ?hd (cs := #[.int .u64 0, .int .u64 0, .int .u64 0, .int .u64 0]) (t := 23) ?hr ?_; (case hd => rfl); (case hg => rfl); (case hr => first | (go_simp; done) | (go_simp; rfl)); intro g211 hg w134 hbox hb; have n0_ := Aside0.mk (blk_below (g := g161) (o := .cells #[.int .u64 t173, .int .u64 t175, .int .u64 t177, .int .u64 t179] 23 (0, 0)) (by exact B161.out) hb); have n1_ := Aside0.mk (blk_below (g := g162) (o := .cells #[.int .u64 0, .int .u64 0, .int .u64 0, .int .u64 0] 23 (0, 0)) (by exact B162.out) hb); have n2_ := Aside0.mk (blk_below (g := g180) (o := .cells #[.int .u64 t193, .int .u64 t206, .int .u64 0, .int .u64 0] 23 (0, 0)) (by exact B180.out) hb); have n3_ := Aside0.mk (blk_below (g := g185) (o := .cells #[.int .u64 t181, .int .u64 t182, .int .u64 t183, .int .u64 t184] 23 (0, 0)) (by exact B185.out) hb); have n4_ := Aside0.mk (blk_below (g := g198) (o := .cells #[.int .u64 t194, .int .u64 t195, .int .u64 t196, .int .u64 t197] 23 (0, 0)) (by exact B198.out) hb); have n5_ := Aside0.mk (below_step (by repeat (first | (with_reducible first | exact HB.out | apply below_alloc | apply pw_below_drewN | apply below_drew1 | refine below_set ?_ GE161.out | refine below_set ?_ GE162.out | refine below_set ?_ GE180.out | refine below_set ?_ GE185.out | refine below_set ?_ GE198.out) | exact HB.out)) hb); have n6_ := Aside0.mk (hbox); have n7_ := Aside0.mk ((by rw [hg]; exact (below_size (by repeat (first | (with_reducible first | exact HB.out | apply below_alloc | apply pw_below_drewN | apply below_drew1 | refine below_set ?_ GE161.out | refine below_set ?_ GE162.out | refine below_set ?_ GE180.out | refine below_set ?_ GE185.out | refine below_set ?_ GE198.out) | exact HB.out))) : w.heap.size ≤ g211)); have n8_ := Aside0.mk ((by rw [hg]; exact (below_size (by repeat (first | (with_reducible first | exact HB.out | apply below_alloc | apply pw_below_drewN | apply below_drew1 | refine below_set ?_ GE161.out | refine below_set ?_ GE162.out | refine below_set ?_ GE180.out | refine below_set ?_ GE185.out | refine below_set ?_ GE198.out) | exact HB.out))) : w.heap.size ≤ g211)); have n9_ := Aside0.mk ((by rw [hg]; exact Nat.ne_of_lt (blk_lt (g := g161) (o := .cells #[.int .u64 t173, .int .u64 t175, .int .u64 t177, .int .u64 t179] 23 (0, 0)) (by exact B161.out)) : g161 ≠ g211)); have n10_ := Aside0.mk ((by rw [hg]; exact Nat.ne_of_gt (blk_lt (g := g161) (o := .cells #[.int .u64 t173, .int .u64 t175, .int .u64 t177, .int .u64 t179] 23 (0, 0)) (by exact B161.out)) : g211 ≠ g161)); have n11_ := Aside0.mk ((by rw [hg]; exact Nat.ne_of_lt (blk_lt (g := g162) (o := .cells #[.int .u64 0, .int .u64 0, .int .u64 0, .int .u64 0] 23 (0, 0)) (by exact B162.out)) : g162 ≠ g211)); have n12_ := Aside0.mk ((by rw [hg]; exact Nat.ne_of_gt (blk_lt (g := g162) (o := .cells #[.int .u64 0, .int .u64 0, .int .u64 0, .int .u64 0] 23 (0, 0)) (by exact B162.out)) : g211 ≠ g162)); have n13_ := Aside0.mk ((by rw [hg]; exact Nat.ne_of_lt (blk_lt (g := g180) (o := .cells #[.int .u64 t193, .int .u64 t206, .int .u64 0, .int .u64 0] 23 (0, 0)) (by exact B180.out)) : g180 ≠ g211)); have n14_ := Aside0.mk ((by rw [hg]; exact Nat.ne_of_gt (blk_lt (g := g180) (o := .cells #[.int .u64 t193, .int .u64 t206, .int .u64 0, .int .u64 0] 23 (0, 0)) (by exact B180.out)) : g211 ≠ g180)); have n15_ := Aside0.mk ((by rw [hg]; exact Nat.ne_of_lt (blk_lt (g := g185) (o := .cells #[.int .u64 t181, .int .u64 t182, .int .u64 t183, .int .u64 t184] 23 (0, 0)) (by exact B185.out)) : g185 ≠ g211)); have n16_ := Aside0.mk ((by rw [hg]; exact Nat.ne_of_gt (blk_lt (g := g185) (o := .cells #[.int .u64 t181, .int .u64 t182, .int .u64 t183, .int .u64 t184] 23 (0, 0)) (by exact B185.out)) : g211 ≠ g185)); have n17_ := Aside0.mk ((by rw [hg]; exact Nat.ne_of_lt (blk_lt (g := g198) (o := .cells #[.int .u64 t194, .int .u64 t195, .int .u64 t196, .int .u64 t197] 23 (0, 0)) (by exact B198.out)) : g198 ≠ g211)); have n18_ := Aside0.mk ((by rw [hg]; exact Nat.ne_of_gt (blk_lt (g := g198) (o := .cells #[.int .u64 t194, .int .u64 t195, .int .u64 t196, .int .u64 t197] 23 (0, 0)) (by exact B198.out)) : g211 ≠ g198)); clear B161; clear B162; clear B180; clear B185; clear B198; clear HB; have B161 := n0_; have B162 := n1_; have B180 := n2_; have B185 := n3_; have B198 := n4_; have HB := n5_; have B211 := n6_; have GW211 := n7_; have GE211 := n8_; have NB161_211 := n9_; have NB211_161 := n10_; have NB162_211 := n11_; have NB211_162 := n12_; have NB180_211 := n13_; have NB211_180 := n14_; have NB185_211 := n15_; have NB211_185 := n16_; have NB198_211 := n17_; have NB211_198 := n18_; clear n0_ n1_ n2_ n3_ n4_ n5_ n6_ n7_ n8_ n9_ n10_ n11_ n12_ n13_ n14_ n15_ n16_ n17_ n18_; clear hb hbox hg; have hnb135 := NB211_161.out; have hnc135 := NB161_211.out; have hnb136 := NB211_162.out; have hnc136 := NB162_211.out; have hnb137 := NB211_180.out; have hnc137 := NB180_211.out; have hnb138 := NB211_185.out; have hnc138 := NB185_211.out; have hnb139 := NB211_198.out; have hnc139 := NB198_211.out; have hcz140_0 : w134.cell? ⟨g211, 0, none⟩ = some (.int .u64 0) := bq_ B211 0; have hcz140_1 : w134.cell? ⟨g211, 1, none⟩ = some (.int .u64 0) := bq_ B211 1; have hcz140_2 : w134.cell? ⟨g211, 2, none⟩ = some (.int .u64 0) := bq_ B211 2; have hcz140_3 : w134.cell? ⟨g211, 3, none⟩ = some (.int .u64 0) := bq_ B211 3; have hfz140_0 := blk_frozen B211.out 0; have hfz140_1 := blk_frozen B211.out 1; have hfz140_2 := blk_frozen B211.out 2; have hfz140_3 := blk_frozen B211.out 3))
    refine wp_loop_rounds 5 ?_
    rw [rounds_succ]
    have H := HC132.out
    clear HC132
    replace H := Option.bind_eq_some_iff.mp H
    obtain ⟨t212, A1410, H⟩ := H
    have A141 := Aside0.mk A1410
    clear A1410
    replace H := Option.bind_eq_some_iff.mp H
    obtain ⟨t213, A1420, H⟩ := H
    have A142 := Aside0.mk A1420
    clear A1420
    have HC143 := Aside0.mk H
    clear H
    try go_wp2
    have n0_ : Aside0 (((((w134.setCell ⟨g211, 0, none⟩ (.int .u64 t207)).setCell ⟨g211, 1, none⟩ (.int .u64 t208)).setCell ⟨g211, 2, none⟩ (.int .u64 t209)).setCell ⟨g211, 3, none⟩ (.int .u64 t210)).heap[g161]? = some (.cells #[.int .u64 t173, .int .u64 t175, .int .u64 t177, .int .u64 t179] 23 (0, 0))) := ⟨by refine blk_far ?_ NB161_211.out _; refine blk_far ?_ NB161_211.out _; refine blk_far ?_ NB161_211.out _; refine blk_far ?_ NB161_211.out _; exact B161.out⟩
    have n1_ : Aside0 (((((w134.setCell ⟨g211, 0, none⟩ (.int .u64 t207)).setCell ⟨g211, 1, none⟩ (.int .u64 t208)).setCell ⟨g211, 2, none⟩ (.int .u64 t209)).setCell ⟨g211, 3, none⟩ (.int .u64 t210)).heap[g162]? = some (.cells #[.int .u64 0, .int .u64 0, .int .u64 0, .int .u64 0] 23 (0, 0))) := ⟨by refine blk_far ?_ NB162_211.out _; refine blk_far ?_ NB162_211.out _; refine blk_far ?_ NB162_211.out _; refine blk_far ?_ NB162_211.out _; exact B162.out⟩
    have n2_ : Aside0 (((((w134.setCell ⟨g211, 0, none⟩ (.int .u64 t207)).setCell ⟨g211, 1, none⟩ (.int .u64 t208)).setCell ⟨g211, 2, none⟩ (.int .u64 t209)).setCell ⟨g211, 3, none⟩ (.int .u64 t210)).heap[g180]? = some (.cells #[.int .u64 t193, .int .u64 t206, .int .u64 0, .int .u64 0] 23 (0, 0))) := ⟨by refine blk_far ?_ NB180_211.out _; refine blk_far ?_ NB180_211.out _; refine blk_far ?_ NB180_211.out _; refine blk_far ?_ NB180_211.out _; exact B180.out⟩
    have n3_ : Aside0 (((((w134.setCell ⟨g211, 0, none⟩ (.int .u64 t207)).setCell ⟨g211, 1, none⟩ (.int .u64 t208)).setCell ⟨g211, 2, none⟩ (.int .u64 t209)).setCell ⟨g211, 3, none⟩ (.int .u64 t210)).heap[g185]? = some (.cells #[.int .u64 t181, .int .u64 t182, .int .u64 t183, .int .u64 t184] 23 (0, 0))) := ⟨by refine blk_far ?_ NB185_211.out _; refine blk_far ?_ NB185_211.out _; refine blk_far ?_ NB185_211.out _; refine blk_far ?_ NB185_211.out _; exact B185.out⟩
    have n4_ : Aside0 (((((w134.setCell ⟨g211, 0, none⟩ (.int .u64 t207)).setCell ⟨g211, 1, none⟩ (.int .u64 t208)).setCell ⟨g211, 2, none⟩ (.int .u64 t209)).setCell ⟨g211, 3, none⟩ (.int .u64 t210)).heap[g198]? = some (.cells #[.int .u64 t194, .int .u64 t195, .int .u64 t196, .int .u64 t197] 23 (0, 0))) := ⟨by refine blk_far ?_ NB198_211.out _; refine blk_far ?_ NB198_211.out _; refine blk_far ?_ NB198_211.out _; refine blk_far ?_ NB198_211.out _; exact B198.out⟩
    have n5_ : Aside0 (((((w134.setCell ⟨g211, 0, none⟩ (.int .u64 t207)).setCell ⟨g211, 1, none⟩ (.int .u64 t208)).setCell ⟨g211, 2, none⟩ (.int .u64 t209)).setCell ⟨g211, 3, none⟩ (.int .u64 t210)).heap[g211]? = some (.cells #[.int .u64 t207, .int .u64 t208, .int .u64 t209, .int .u64 t210] 23 (0, 0))) := ⟨by refine blk_put (cs := #[.int .u64 t207, .int .u64 t208, .int .u64 t209, .int .u64 0]) ?_ 3 _ rfl; refine blk_put (cs := #[.int .u64 t207, .int .u64 t208, .int .u64 0, .int .u64 0]) ?_ 2 _ rfl; refine blk_put (cs := #[.int .u64 t207, .int .u64 0, .int .u64 0, .int .u64 0]) ?_ 1 _ rfl; refine blk_put (cs := #[.int .u64 0, .int .u64 0, .int .u64 0, .int .u64 0]) ?_ 0 _ rfl; exact B211.out⟩
    have n6_ : Aside0 (Below w.heap.size w ((((w134.setCell ⟨g211, 0, none⟩ (.int .u64 t207)).setCell ⟨g211, 1, none⟩ (.int .u64 t208)).setCell ⟨g211, 2, none⟩ (.int .u64 t209)).setCell ⟨g211, 3, none⟩ (.int .u64 t210))) := ⟨by repeat (first | (with_reducible first | exact HB.out | apply below_alloc | apply pw_below_drewN | apply below_drew1 | refine below_set ?_ GE161.out | refine below_set ?_ GE162.out | refine below_set ?_ GE180.out | refine below_set ?_ GE185.out | refine below_set ?_ GE198.out | refine below_set ?_ GE211.out) | exact HB.out)⟩
    (try clear B161)
    (try clear B162)
    (try clear B180)
    (try clear B185)
    (try clear B198)
    (try clear B211)
    (try clear HB)
    generalize ((((w134.setCell ⟨g211, 0, none⟩ (.int .u64 t207)).setCell ⟨g211, 1, none⟩ (.int .u64 t208)).setCell ⟨g211, 2, none⟩ (.int .u64 t209)).setCell ⟨g211, 3, none⟩ (.int .u64 t210)) = w144 at n0_ n1_ n2_ n3_ n4_ n5_ n6_ ⊢
    have B161 := n0_
    have B162 := n1_
    have B180 := n2_
    have B185 := n3_
    have B198 := n4_
    have B211 := n5_
    have HB := n6_
    clear n0_ n1_ n2_ n3_ n4_ n5_ n6_
    have n0_ := Aside0.mk (blk_drew B161.out)
    have n1_ := Aside0.mk (blk_drew B162.out)
    have n2_ := Aside0.mk (blk_drew B180.out)
    have n3_ := Aside0.mk (blk_drew B185.out)
    have n4_ := Aside0.mk (blk_drew B198.out)
    have n5_ := Aside0.mk (blk_drew B211.out)
    have n6_ := Aside0.mk (below_drew1 HB.out)
    clear B161
    clear B162
    clear B180
    clear B185
    clear B198
    clear B211
    clear HB
    have B161 := n0_
    have B162 := n1_
    have B180 := n2_
    have B185 := n3_
    have B198 := n4_
    have B211 := n5_
    have HB := n6_
    clear n0_ n1_ n2_ n3_ n4_ n5_ n6_
    refine start_ (n := 16) (S := fun w' => w'.cell? ⟨g180, 0, none⟩ = some (.int .u64 t193) ∧ w'.cell? ⟨g180, 1, none⟩ = some (.int .u64 t206) ∧ w'.cell? ⟨g180, 2, none⟩ = some (.int .u64 0) ∧ w'.cell? ⟨g180, 3, none⟩ = some (.int .u64 0) ∧ w'.cell? ⟨g211, 0, none⟩ = some (.int .u64 t207) ∧ w'.cell? ⟨g211, 1, none⟩ = some (.int .u64 t208) ∧ w'.cell? ⟨g211, 2, none⟩ = some (.int .u64 t209) ∧ w'.cell? ⟨g211, 3, none⟩ = some (.int .u64 t210) ∧ w'.cell? ⟨g161, 0, none⟩ = some (.int .u64 t173) ∧ w'.cell? ⟨g161, 1, none⟩ = some (.int .u64 t175) ∧ w'.cell? ⟨g161, 2, none⟩ = some (.int .u64 t177) ∧ w'.cell? ⟨g161, 3, none⟩ = some (.int .u64 t179)) (ds := [15]) z15_25_ (by kernel_rfl) rfl rfl ⟨bq_ B180 0, bq_ B180 1, bq_ B180 2, bq_ B180 3, bq_ B211 0, bq_ B211 1, bq_ B211 2, bq_ B211 3, bq_ B161 0, bq_ B161 1, bq_ B161 2, bq_ B161 3⟩ (fun hL => ?_); refine with_tabW attestorref06_Round.tab19 attestorref06_Round.bits19 (fun T_ W_ => ?_)
    generalize w144.drew = w145 at B161 B162 B180 B185 B198 B211 HB hL ⊢
    refine pure_ (i := 0) (N := some 64) (v := ?_) (a' := ?_) z15_26_ rfl rfl (any_of T_.out (by kernel_rfl)) (fun _ _ _ h => h) (Or.inl ⟨by rfl, ?_⟩) ?_ ?_
    rotate_left; · intro w'; go_simp; with_reducible rfl
    rotate_left; · simp only [Act.put, sa_, sb_, sc_, i64_w, i32_w]; rfl
    refine pure_ (i := 1) (N := some 65) (v := ?_) (a' := ?_) z15_27_ rfl rfl (any_of T_.out (by kernel_rfl)) (fun _ _ _ h => h) (Or.inl ⟨by rfl, ?_⟩) ?_ ?_
    rotate_left; · intro w'; go_simp; with_reducible rfl
    rotate_left; · simp only [Act.put, sa_, sb_, sc_, i64_w, i32_w]; rfl
    refine pure_ (i := 2) (N := some 66) (v := ?_) (a' := ?_) z15_28_ rfl rfl (any_of T_.out (by kernel_rfl)) (fun _ _ _ h => h) (Or.inl ⟨by rfl, ?_⟩) ?_ ?_
    rotate_left; · intro w'; go_simp; with_reducible rfl
    rotate_left; · simp only [Act.put, sa_, sb_, sc_, i64_w, i32_w]; rfl
    refine pure_ (i := 3) (N := some 67) (v := ?_) (a' := ?_) z15_29_ rfl rfl (any_of T_.out (by kernel_rfl)) (fun _ _ _ h => h) (Or.inl ⟨by rfl, ?_⟩) ?_ ?_
    rotate_left; · intro w'; go_simp; with_reducible rfl
    rotate_left; · simp only [Act.put, sa_, sb_, sc_, i64_w, i32_w]; rfl
    refine pure_ (i := 5) (N := some 69) (v := ?_) (a' := ?_) z15_30_ rfl rfl (any_of T_.out (by kernel_rfl)) (fun _ _ _ h => h) (Or.inl ⟨by rfl, ?_⟩) ?_ ?_
    rotate_left; · intro w'; go_simp; with_reducible rfl
    rotate_left; · simp only [Act.put, sa_, sb_, sc_, i64_w, i32_w]; rfl
    refine pure_ (i := 6) (N := some 70) (v := ?_) (a' := ?_) z15_31_ rfl rfl (any_of T_.out (by kernel_rfl)) (fun _ _ _ h => h) (Or.inl ⟨by rfl, ?_⟩) ?_ ?_
    rotate_left; · intro w'; go_simp; with_reducible rfl
    rotate_left; · simp only [Act.put, sa_, sb_, sc_, i64_w, i32_w]; rfl
    refine pure_ (i := 7) (N := some 71) (v := ?_) (a' := ?_) z15_32_ rfl rfl (any_of T_.out (by kernel_rfl)) (fun _ _ _ h => h) (Or.inl ⟨by rfl, ?_⟩) ?_ ?_
    rotate_left; · intro w'; go_simp; with_reducible rfl
    rotate_left; · simp only [Act.put, sa_, sb_, sc_, i64_w, i32_w]; rfl
    refine pure_ (i := 9) (N := some 73) (v := ?_) (a' := ?_) z15_33_ rfl rfl (any_of T_.out (by kernel_rfl)) (fun _ _ _ h => h) (Or.inl ⟨by rfl, ?_⟩) ?_ ?_
    rotate_left; · intro w'; go_simp; with_reducible rfl
    rotate_left; · simp only [Act.put, sa_, sb_, sc_, i64_w, i32_w]; rfl
    refine pure_ (i := 10) (N := some 74) (v := ?_) (a' := ?_) z15_34_ rfl rfl (any_of T_.out (by kernel_rfl)) (fun _ _ _ h => h) (Or.inl ⟨by rfl, ?_⟩) ?_ ?_
    rotate_left; · intro w'; go_simp; with_reducible rfl
    rotate_left; · simp only [Act.put, sa_, sb_, sc_, i64_w, i32_w]; rfl
    refine take_ (i := 4) (N := some 68) (v := ?_) (a' := ?_) z15_35_ rfl rfl (take_ofW T_.out W_.out (by kernel_rfl)) (fun _ _ _ h => h) (Or.inl ⟨by rfl, ?_⟩) hL ?_ ?_
    rotate_left
    ·rintro w' ⟨s0, s1, s2, s3, s4, s5, s6, s7, s8, s9, s10, s11⟩
     go_simp
     with_reducible rfl
    rotate_left
    ·simp only [Act.put, sa_, sb_, sc_, i64_w, i32_w]
     rfl
    refine take_ (i := 8) (N := some 72) (v := ?_) (a' := ?_) z15_36_ rfl rfl (take_ofW T_.out W_.out (by kernel_rfl)) (fun _ _ _ h => h) (Or.inl ⟨by rfl, ?_⟩) hL ?_ ?_
    rotate_left
    ·rintro w' ⟨s0, s1, s2, s3, s4, s5, s6, s7, s8, s9, s10, s11⟩
     go_simp
     with_reducible rfl
    rotate_left
    ·simp only [Act.put, sa_, sb_, sc_, i64_w, i32_w]
     rfl
    refine take_ (i := 11) (N := some 75) (v := ?_) (a' := ?_) z15_37_ rfl rfl (take_ofW T_.out W_.out (by kernel_rfl)) (fun _ _ _ h => h) (Or.inl ⟨by rfl, ?_⟩) hL ?_ ?_
    rotate_left
    ·rintro w' ⟨s0, s1, s2, s3, s4, s5, s6, s7, s8, s9, s10, s11⟩
     go_simp
     with_reducible rfl
    rotate_left
    ·simp only [Act.put, sa_, sb_, sc_, i64_w, i32_w]
     rfl
    refine one_ (i := 12) (N := some 76) z15_38_ rfl rfl (one_of T_.out (by kernel_rfl)) (by decide) (fun K hK => ?_)
    refine goes_ Tryd.func40 (by kernel_rfl) rfl #[.int .i64 a0, .int .u64 t207, .int .u64 t173] (by rfl) rfl rfl (by (try simp only [List.map_toArray, List.map_cons, List.map_nil]); first | done | rfl) ?_
    with_reducible refine (attestorref01_Mul.calls a0 t207 t173 t212 _ A141.out).mono ?_
    rintro e w' ⟨rfl, ⟨nd, rfl⟩⟩
    refine ⟨_, rfl, ?_⟩
    (try (rw [drewN_self w145]; generalize q_ : World.drewN w145 _ = w145; replace B161 := ra_ q_ B161; replace B162 := ra_ q_ B162; replace B180 := ra_ q_ B180; replace B185 := ra_ q_ B185; replace B198 := ra_ q_ B198; replace B211 := ra_ q_ B211; replace HB := rb_ q_ HB; clear q_))
    refine hK.out _ _ ⟨bq_ B180 0, bq_ B180 1, bq_ B180 2, bq_ B180 3, bq_ B211 0, bq_ B211 1, bq_ B211 2, bq_ B211 3, bq_ B161 0, bq_ B161 1, bq_ B161 2, bq_ B161 3⟩ (fun hL => ?_)
    clear hK K
    refine norm_ (a' := ?_) ?_ ?_
    rotate_left
    ·show Act.put _ (some 76) _ = _
     simp only [Act.put, sa_, sb_, sc_, i64_w, i32_w]
     rfl
    refine one_ (i := 13) (N := some 77) z15_39_ rfl rfl (one_of T_.out (by kernel_rfl)) (by decide) (fun K hK => ?_)
    refine goes_ Tryd.func32 (by kernel_rfl) rfl #[.int .i64 a0, .int .u64 0, .int .u64 t212] (by rfl) rfl rfl (by (try simp only [List.map_toArray, List.map_cons, List.map_nil]); first | done | rfl) ?_
    with_reducible refine (attestorref01_Add.calls a0 0 t212 t213 _ A142.out).mono ?_
    rintro e w' ⟨rfl, ⟨nd, rfl⟩⟩
    refine ⟨_, rfl, ?_⟩
    (try (rw [drewN_self w145]; generalize q_ : World.drewN w145 _ = w145; replace B161 := ra_ q_ B161; replace B162 := ra_ q_ B162; replace B180 := ra_ q_ B180; replace B185 := ra_ q_ B185; replace B198 := ra_ q_ B198; replace B211 := ra_ q_ B211; replace HB := rb_ q_ HB; clear q_))
    refine hK.out _ _ ⟨bq_ B180 0, bq_ B180 1, bq_ B180 2, bq_ B180 3, bq_ B211 0, bq_ B211 1, bq_ B211 2, bq_ B211 3, bq_ B161 0, bq_ B161 1, bq_ B161 2, bq_ B161 3⟩ (fun hL => ?_)
    clear hK K
    refine norm_ (a' := ?_) ?_ ?_
    rotate_left
    ·show Act.put _ (some 77) _ = _
     simp only [Act.put, sa_, sb_, sc_, i64_w, i32_w]
     rfl
    refine pure_ (i := 14) (N := some 78) (v := ?_) (a' := ?_) z15_40_ rfl rfl (any_of T_.out (by kernel_rfl)) (fun _ _ _ h => h) (Or.inl ⟨by rfl, ?_⟩) ?_ ?_
    rotate_left; · intro w'; go_simp; with_reducible rfl
    rotate_left; · simp only [Act.put, sa_, sb_, sc_, i64_w, i32_w]; rfl
    refine last_ (i := 15) (N := none) z15_41_ rfl rfl (one_of T_.out (by kernel_rfl)) (by decide) (fun K hK => ?_)
    have hs146 : w145.cell? ⟨g180, 2, none⟩ = some (.int .u64 0) := bq_ B180 2
    have hfs146 := blk_frozen B180.out 2
    have hns146_0 := NB161_180.out
    have hns146_1 := NB162_180.out
    have hns146_3 := NB185_180.out
    have hns146_4 := NB198_180.out
    have hns146_5 := NB211_180.out
    have hms146_0 := NB180_161.out
    have hms146_1 := NB180_162.out
    have hms146_3 := NB180_185.out
    have hms146_4 := NB180_198.out
    have hms146_5 := NB180_211.out
    refine skip_ (w1 := ?_) (by rfl) rfl ?_ ?_
    rotate_left
    ·go_simp
     rfl
    refine hK.out _ _ ?_
    clear hK K
    refine done_ (done_of T_.out (by kernel_rfl)) ?_
    try go_wp2
    rw [rounds_succ]
    have H := HC143.out
    clear HC143
    replace H := Option.bind_eq_some_iff.mp H
    obtain ⟨t214, A1470, H⟩ := H
    have A147 := Aside0.mk A1470
    clear A1470
    replace H := Option.bind_eq_some_iff.mp H
    obtain ⟨t215, A1480, H⟩ := H
    have A148 := Aside0.mk A1480
    clear A1480
    have HC149 := Aside0.mk H
    clear H
    try go_wp2
    have n0_ := bf_ B161 NB161_180 ⟨g180, 2, none⟩ (.int .u64 t213) rfl
    have n1_ := bf_ B162 NB162_180 ⟨g180, 2, none⟩ (.int .u64 t213) rfl
    have n2_ : Aside0 ((w145.setCell ⟨g180, 2, none⟩ (.int .u64 t213)).heap[g180]? = some (.cells #[.int .u64 t193, .int .u64 t206, .int .u64 t213, .int .u64 0] 23 (0, 0))) := ⟨by refine blk_put (cs := #[.int .u64 t193, .int .u64 t206, .int .u64 0, .int .u64 0]) ?_ 2 _ rfl; exact B180.out⟩
    have n3_ := bf_ B185 NB185_180 ⟨g180, 2, none⟩ (.int .u64 t213) rfl
    have n4_ := bf_ B198 NB198_180 ⟨g180, 2, none⟩ (.int .u64 t213) rfl
    have n5_ := bf_ B211 NB211_180 ⟨g180, 2, none⟩ (.int .u64 t213) rfl
    have n6_ : Aside0 (Below w.heap.size w (w145.setCell ⟨g180, 2, none⟩ (.int .u64 t213))) := ⟨by repeat (first | (with_reducible first | exact HB.out | apply below_alloc | apply pw_below_drewN | apply below_drew1 | refine below_set ?_ GE161.out | refine below_set ?_ GE162.out | refine below_set ?_ GE180.out | refine below_set ?_ GE185.out | refine below_set ?_ GE198.out | refine below_set ?_ GE211.out) | exact HB.out)⟩
    (try clear B161)
    (try clear B162)
    (try clear B180)
    (try clear B185)
    (try clear B198)
    (try clear B211)
    (try clear HB)
    generalize (w145.setCell ⟨g180, 2, none⟩ (.int .u64 t213)) = w150 at n0_ n1_ n2_ n3_ n4_ n5_ n6_ ⊢
    have B161 := n0_
    have B162 := n1_
    have B180 := n2_
    have B185 := n3_
    have B198 := n4_
    have B211 := n5_
    have HB := n6_
    clear n0_ n1_ n2_ n3_ n4_ n5_ n6_
    have n0_ := Aside0.mk (blk_drew B161.out)
    have n1_ := Aside0.mk (blk_drew B162.out)
    have n2_ := Aside0.mk (blk_drew B180.out)
    have n3_ := Aside0.mk (blk_drew B185.out)
    have n4_ := Aside0.mk (blk_drew B198.out)
    have n5_ := Aside0.mk (blk_drew B211.out)
    have n6_ := Aside0.mk (below_drew1 HB.out)
    clear B161
    clear B162
    clear B180
    clear B185
    clear B198
    clear B211
    clear HB
    have B161 := n0_
    have B162 := n1_
    have B180 := n2_
    have B185 := n3_
    have B198 := n4_
    have B211 := n5_
    have HB := n6_
    clear n0_ n1_ n2_ n3_ n4_ n5_ n6_
    refine start_ (n := 16) (S := fun w' => w'.cell? ⟨g180, 0, none⟩ = some (.int .u64 t193) ∧ w'.cell? ⟨g180, 1, none⟩ = some (.int .u64 t206) ∧ w'.cell? ⟨g180, 2, none⟩ = some (.int .u64 t213) ∧ w'.cell? ⟨g180, 3, none⟩ = some (.int .u64 0) ∧ w'.cell? ⟨g211, 0, none⟩ = some (.int .u64 t207) ∧ w'.cell? ⟨g211, 1, none⟩ = some (.int .u64 t208) ∧ w'.cell? ⟨g211, 2, none⟩ = some (.int .u64 t209) ∧ w'.cell? ⟨g211, 3, none⟩ = some (.int .u64 t210) ∧ w'.cell? ⟨g161, 0, none⟩ = some (.int .u64 t173) ∧ w'.cell? ⟨g161, 1, none⟩ = some (.int .u64 t175) ∧ w'.cell? ⟨g161, 2, none⟩ = some (.int .u64 t177) ∧ w'.cell? ⟨g161, 3, none⟩ = some (.int .u64 t179)) (ds := [15]) z15_25_ (by kernel_rfl) rfl rfl ⟨bq_ B180 0, bq_ B180 1, bq_ B180 2, bq_ B180 3, bq_ B211 0, bq_ B211 1, bq_ B211 2, bq_ B211 3, bq_ B161 0, bq_ B161 1, bq_ B161 2, bq_ B161 3⟩ (fun hL => ?_); refine with_tabW attestorref06_Round.tab19 attestorref06_Round.bits19 (fun T_ W_ => ?_)
    generalize w150.drew = w151 at B161 B162 B180 B185 B198 B211 HB hL ⊢
    refine pure_ (i := 0) (N := some 64) (v := ?_) (a' := ?_) z15_26_ rfl rfl (any_of T_.out (by kernel_rfl)) (fun _ _ _ h => h) (Or.inl ⟨by rfl, ?_⟩) ?_ ?_
    rotate_left; · intro w'; go_simp; with_reducible rfl
    rotate_left; · simp only [Act.put, sa_, sb_, sc_, i64_w, i32_w]; rfl
    refine pure_ (i := 1) (N := some 65) (v := ?_) (a' := ?_) z15_27_ rfl rfl (any_of T_.out (by kernel_rfl)) (fun _ _ _ h => h) (Or.inl ⟨by rfl, ?_⟩) ?_ ?_
    rotate_left; · intro w'; go_simp; with_reducible rfl
    rotate_left; · simp only [Act.put, sa_, sb_, sc_, i64_w, i32_w]; rfl
    refine pure_ (i := 2) (N := some 66) (v := ?_) (a' := ?_) z15_28_ rfl rfl (any_of T_.out (by kernel_rfl)) (fun _ _ _ h => h) (Or.inl ⟨by rfl, ?_⟩) ?_ ?_
    rotate_left; · intro w'; go_simp; with_reducible rfl
    rotate_left; · simp only [Act.put, sa_, sb_, sc_, i64_w, i32_w]; rfl
    refine pure_ (i := 3) (N := some 67) (v := ?_) (a' := ?_) z15_29_ rfl rfl (any_of T_.out (by kernel_rfl)) (fun _ _ _ h => h) (Or.inl ⟨by rfl, ?_⟩) ?_ ?_
    rotate_left; · intro w'; go_simp; with_reducible rfl
    rotate_left; · simp only [Act.put, sa_, sb_, sc_, i64_w, i32_w]; rfl
    refine pure_ (i := 5) (N := some 69) (v := ?_) (a' := ?_) z15_30_ rfl rfl (any_of T_.out (by kernel_rfl)) (fun _ _ _ h => h) (Or.inl ⟨by rfl, ?_⟩) ?_ ?_
    rotate_left; · intro w'; go_simp; with_reducible rfl
    rotate_left; · simp only [Act.put, sa_, sb_, sc_, i64_w, i32_w]; rfl
    refine pure_ (i := 6) (N := some 70) (v := ?_) (a' := ?_) z15_31_ rfl rfl (any_of T_.out (by kernel_rfl)) (fun _ _ _ h => h) (Or.inl ⟨by rfl, ?_⟩) ?_ ?_
    rotate_left; · intro w'; go_simp; with_reducible rfl
    rotate_left; · simp only [Act.put, sa_, sb_, sc_, i64_w, i32_w]; rfl
    refine pure_ (i := 7) (N := some 71) (v := ?_) (a' := ?_) z15_32_ rfl rfl (any_of T_.out (by kernel_rfl)) (fun _ _ _ h => h) (Or.inl ⟨by rfl, ?_⟩) ?_ ?_
    rotate_left; · intro w'; go_simp; with_reducible rfl
    rotate_left; · simp only [Act.put, sa_, sb_, sc_, i64_w, i32_w]; rfl
    refine pure_ (i := 9) (N := some 73) (v := ?_) (a' := ?_) z15_33_ rfl rfl (any_of T_.out (by kernel_rfl)) (fun _ _ _ h => h) (Or.inl ⟨by rfl, ?_⟩) ?_ ?_
    rotate_left; · intro w'; go_simp; with_reducible rfl
    rotate_left; · simp only [Act.put, sa_, sb_, sc_, i64_w, i32_w]; rfl
    refine pure_ (i := 10) (N := some 74) (v := ?_) (a' := ?_) z15_34_ rfl rfl (any_of T_.out (by kernel_rfl)) (fun _ _ _ h => h) (Or.inl ⟨by rfl, ?_⟩) ?_ ?_
    rotate_left; · intro w'; go_simp; with_reducible rfl
    rotate_left; · simp only [Act.put, sa_, sb_, sc_, i64_w, i32_w]; rfl
    refine take_ (i := 4) (N := some 68) (v := ?_) (a' := ?_) z15_35_ rfl rfl (take_ofW T_.out W_.out (by kernel_rfl)) (fun _ _ _ h => h) (Or.inl ⟨by rfl, ?_⟩) hL ?_ ?_
    rotate_left
    ·rintro w' ⟨s0, s1, s2, s3, s4, s5, s6, s7, s8, s9, s10, s11⟩
     go_simp
     with_reducible rfl
    rotate_left
    ·simp only [Act.put, sa_, sb_, sc_, i64_w, i32_w]
     rfl
    refine take_ (i := 8) (N := some 72) (v := ?_) (a' := ?_) z15_36_ rfl rfl (take_ofW T_.out W_.out (by kernel_rfl)) (fun _ _ _ h => h) (Or.inl ⟨by rfl, ?_⟩) hL ?_ ?_
    rotate_left
    ·rintro w' ⟨s0, s1, s2, s3, s4, s5, s6, s7, s8, s9, s10, s11⟩
     go_simp
     with_reducible rfl
    rotate_left
    ·simp only [Act.put, sa_, sb_, sc_, i64_w, i32_w]
     rfl
    refine take_ (i := 11) (N := some 75) (v := ?_) (a' := ?_) z15_37_ rfl rfl (take_ofW T_.out W_.out (by kernel_rfl)) (fun _ _ _ h => h) (Or.inl ⟨by rfl, ?_⟩) hL ?_ ?_
    rotate_left
    ·rintro w' ⟨s0, s1, s2, s3, s4, s5, s6, s7, s8, s9, s10, s11⟩
     go_simp
     with_reducible rfl
    rotate_left
    ·simp only [Act.put, sa_, sb_, sc_, i64_w, i32_w]
     rfl
    refine one_ (i := 12) (N := some 76) z15_38_ rfl rfl (one_of T_.out (by kernel_rfl)) (by decide) (fun K hK => ?_)
    refine goes_ Tryd.func40 (by kernel_rfl) rfl #[.int .i64 a0, .int .u64 t208, .int .u64 t175] (by rfl) rfl rfl (by (try simp only [List.map_toArray, List.map_cons, List.map_nil]); first | done | rfl) ?_
    with_reducible refine (attestorref01_Mul.calls a0 t208 t175 t214 _ A147.out).mono ?_
    rintro e w' ⟨rfl, ⟨nd, rfl⟩⟩
    refine ⟨_, rfl, ?_⟩
    (try (rw [drewN_self w151]; generalize q_ : World.drewN w151 _ = w151; replace B161 := ra_ q_ B161; replace B162 := ra_ q_ B162; replace B180 := ra_ q_ B180; replace B185 := ra_ q_ B185; replace B198 := ra_ q_ B198; replace B211 := ra_ q_ B211; replace HB := rb_ q_ HB; clear q_))
    refine hK.out _ _ ⟨bq_ B180 0, bq_ B180 1, bq_ B180 2, bq_ B180 3, bq_ B211 0, bq_ B211 1, bq_ B211 2, bq_ B211 3, bq_ B161 0, bq_ B161 1, bq_ B161 2, bq_ B161 3⟩ (fun hL => ?_)
    clear hK K
    refine norm_ (a' := ?_) ?_ ?_
    rotate_left
    ·show Act.put _ (some 76) _ = _
     simp only [Act.put, sa_, sb_, sc_, i64_w, i32_w]
     rfl
    refine one_ (i := 13) (N := some 77) z15_39_ rfl rfl (one_of T_.out (by kernel_rfl)) (by decide) (fun K hK => ?_)
    refine goes_ Tryd.func32 (by kernel_rfl) rfl #[.int .i64 a0, .int .u64 t213, .int .u64 t214] (by rfl) rfl rfl (by (try simp only [List.map_toArray, List.map_cons, List.map_nil]); first | done | rfl) ?_
    with_reducible refine (attestorref01_Add.calls a0 t213 t214 t215 _ A148.out).mono ?_
    rintro e w' ⟨rfl, ⟨nd, rfl⟩⟩
    refine ⟨_, rfl, ?_⟩
    (try (rw [drewN_self w151]; generalize q_ : World.drewN w151 _ = w151; replace B161 := ra_ q_ B161; replace B162 := ra_ q_ B162; replace B180 := ra_ q_ B180; replace B185 := ra_ q_ B185; replace B198 := ra_ q_ B198; replace B211 := ra_ q_ B211; replace HB := rb_ q_ HB; clear q_))
    refine hK.out _ _ ⟨bq_ B180 0, bq_ B180 1, bq_ B180 2, bq_ B180 3, bq_ B211 0, bq_ B211 1, bq_ B211 2, bq_ B211 3, bq_ B161 0, bq_ B161 1, bq_ B161 2, bq_ B161 3⟩ (fun hL => ?_)
    clear hK K
    refine norm_ (a' := ?_) ?_ ?_
    rotate_left
    ·show Act.put _ (some 77) _ = _
     simp only [Act.put, sa_, sb_, sc_, i64_w, i32_w]
     rfl
    refine pure_ (i := 14) (N := some 78) (v := ?_) (a' := ?_) z15_40_ rfl rfl (any_of T_.out (by kernel_rfl)) (fun _ _ _ h => h) (Or.inl ⟨by rfl, ?_⟩) ?_ ?_
    rotate_left; · intro w'; go_simp; with_reducible rfl
    rotate_left; · simp only [Act.put, sa_, sb_, sc_, i64_w, i32_w]; rfl
    refine last_ (i := 15) (N := none) z15_41_ rfl rfl (one_of T_.out (by kernel_rfl)) (by decide) (fun K hK => ?_)
    have hs152 : w151.cell? ⟨g180, 2, none⟩ = some (.int .u64 t213) := bq_ B180 2
    have hfs152 := blk_frozen B180.out 2
    have hns152_0 := NB161_180.out
    have hns152_1 := NB162_180.out
    have hns152_3 := NB185_180.out
    have hns152_4 := NB198_180.out
    have hns152_5 := NB211_180.out
    have hms152_0 := NB180_161.out
    have hms152_1 := NB180_162.out
    have hms152_3 := NB180_185.out
    have hms152_4 := NB180_198.out
    have hms152_5 := NB180_211.out
    refine skip_ (w1 := ?_) (by rfl) rfl ?_ ?_
    rotate_left
    ·go_simp
     rfl
    refine hK.out _ _ ?_
    clear hK K
    refine done_ (done_of T_.out (by kernel_rfl)) ?_
    try go_wp2
    rw [rounds_succ]
    have H := HC149.out
    clear HC149
    replace H := Option.bind_eq_some_iff.mp H
    obtain ⟨t216, A1530, H⟩ := H
    have A153 := Aside0.mk A1530
    clear A1530
    replace H := Option.bind_eq_some_iff.mp H
    obtain ⟨t217, A1540, H⟩ := H
    have A154 := Aside0.mk A1540
    clear A1540
    have HC155 := Aside0.mk H
    clear H
    try go_wp2
    have n0_ := bf_ B161 NB161_180 ⟨g180, 2, none⟩ (.int .u64 t215) rfl
    have n1_ := bf_ B162 NB162_180 ⟨g180, 2, none⟩ (.int .u64 t215) rfl
    have n2_ : Aside0 ((w151.setCell ⟨g180, 2, none⟩ (.int .u64 t215)).heap[g180]? = some (.cells #[.int .u64 t193, .int .u64 t206, .int .u64 t215, .int .u64 0] 23 (0, 0))) := ⟨by refine blk_put (cs := #[.int .u64 t193, .int .u64 t206, .int .u64 t213, .int .u64 0]) ?_ 2 _ rfl; exact B180.out⟩
    have n3_ := bf_ B185 NB185_180 ⟨g180, 2, none⟩ (.int .u64 t215) rfl
    have n4_ := bf_ B198 NB198_180 ⟨g180, 2, none⟩ (.int .u64 t215) rfl
    have n5_ := bf_ B211 NB211_180 ⟨g180, 2, none⟩ (.int .u64 t215) rfl
    have n6_ : Aside0 (Below w.heap.size w (w151.setCell ⟨g180, 2, none⟩ (.int .u64 t215))) := ⟨by repeat (first | (with_reducible first | exact HB.out | apply below_alloc | apply pw_below_drewN | apply below_drew1 | refine below_set ?_ GE161.out | refine below_set ?_ GE162.out | refine below_set ?_ GE180.out | refine below_set ?_ GE185.out | refine below_set ?_ GE198.out | refine below_set ?_ GE211.out) | exact HB.out)⟩
    (try clear B161)
    (try clear B162)
    (try clear B180)
    (try clear B185)
    (try clear B198)
    (try clear B211)
    (try clear HB)
    generalize (w151.setCell ⟨g180, 2, none⟩ (.int .u64 t215)) = w156 at n0_ n1_ n2_ n3_ n4_ n5_ n6_ ⊢
    have B161 := n0_
    have B162 := n1_
    have B180 := n2_
    have B185 := n3_
    have B198 := n4_
    have B211 := n5_
    have HB := n6_
    clear n0_ n1_ n2_ n3_ n4_ n5_ n6_
    have n0_ := Aside0.mk (blk_drew B161.out)
    have n1_ := Aside0.mk (blk_drew B162.out)
    have n2_ := Aside0.mk (blk_drew B180.out)
    have n3_ := Aside0.mk (blk_drew B185.out)
    have n4_ := Aside0.mk (blk_drew B198.out)
    have n5_ := Aside0.mk (blk_drew B211.out)
    have n6_ := Aside0.mk (below_drew1 HB.out)
    clear B161
    clear B162
    clear B180
    clear B185
    clear B198
    clear B211
    clear HB
    have B161 := n0_
    have B162 := n1_
    have B180 := n2_
    have B185 := n3_
    have B198 := n4_
    have B211 := n5_
    have HB := n6_
    clear n0_ n1_ n2_ n3_ n4_ n5_ n6_
    refine start_ (n := 16) (S := fun w' => w'.cell? ⟨g180, 0, none⟩ = some (.int .u64 t193) ∧ w'.cell? ⟨g180, 1, none⟩ = some (.int .u64 t206) ∧ w'.cell? ⟨g180, 2, none⟩ = some (.int .u64 t215) ∧ w'.cell? ⟨g180, 3, none⟩ = some (.int .u64 0) ∧ w'.cell? ⟨g211, 0, none⟩ = some (.int .u64 t207) ∧ w'.cell? ⟨g211, 1, none⟩ = some (.int .u64 t208) ∧ w'.cell? ⟨g211, 2, none⟩ = some (.int .u64 t209) ∧ w'.cell? ⟨g211, 3, none⟩ = some (.int .u64 t210) ∧ w'.cell? ⟨g161, 0, none⟩ = some (.int .u64 t173) ∧ w'.cell? ⟨g161, 1, none⟩ = some (.int .u64 t175) ∧ w'.cell? ⟨g161, 2, none⟩ = some (.int .u64 t177) ∧ w'.cell? ⟨g161, 3, none⟩ = some (.int .u64 t179)) (ds := [15]) z15_25_ (by kernel_rfl) rfl rfl ⟨bq_ B180 0, bq_ B180 1, bq_ B180 2, bq_ B180 3, bq_ B211 0, bq_ B211 1, bq_ B211 2, bq_ B211 3, bq_ B161 0, bq_ B161 1, bq_ B161 2, bq_ B161 3⟩ (fun hL => ?_); refine with_tabW attestorref06_Round.tab19 attestorref06_Round.bits19 (fun T_ W_ => ?_)
    generalize w156.drew = w157 at B161 B162 B180 B185 B198 B211 HB hL ⊢
    refine pure_ (i := 0) (N := some 64) (v := ?_) (a' := ?_) z15_26_ rfl rfl (any_of T_.out (by kernel_rfl)) (fun _ _ _ h => h) (Or.inl ⟨by rfl, ?_⟩) ?_ ?_
    rotate_left; · intro w'; go_simp; with_reducible rfl
    rotate_left; · simp only [Act.put, sa_, sb_, sc_, i64_w, i32_w]; rfl
    refine pure_ (i := 1) (N := some 65) (v := ?_) (a' := ?_) z15_27_ rfl rfl (any_of T_.out (by kernel_rfl)) (fun _ _ _ h => h) (Or.inl ⟨by rfl, ?_⟩) ?_ ?_
    rotate_left; · intro w'; go_simp; with_reducible rfl
    rotate_left; · simp only [Act.put, sa_, sb_, sc_, i64_w, i32_w]; rfl
    refine pure_ (i := 2) (N := some 66) (v := ?_) (a' := ?_) z15_28_ rfl rfl (any_of T_.out (by kernel_rfl)) (fun _ _ _ h => h) (Or.inl ⟨by rfl, ?_⟩) ?_ ?_
    rotate_left; · intro w'; go_simp; with_reducible rfl
    rotate_left; · simp only [Act.put, sa_, sb_, sc_, i64_w, i32_w]; rfl
    refine pure_ (i := 3) (N := some 67) (v := ?_) (a' := ?_) z15_29_ rfl rfl (any_of T_.out (by kernel_rfl)) (fun _ _ _ h => h) (Or.inl ⟨by rfl, ?_⟩) ?_ ?_
    rotate_left; · intro w'; go_simp; with_reducible rfl
    rotate_left; · simp only [Act.put, sa_, sb_, sc_, i64_w, i32_w]; rfl
    refine pure_ (i := 5) (N := some 69) (v := ?_) (a' := ?_) z15_30_ rfl rfl (any_of T_.out (by kernel_rfl)) (fun _ _ _ h => h) (Or.inl ⟨by rfl, ?_⟩) ?_ ?_
    rotate_left; · intro w'; go_simp; with_reducible rfl
    rotate_left; · simp only [Act.put, sa_, sb_, sc_, i64_w, i32_w]; rfl
    refine pure_ (i := 6) (N := some 70) (v := ?_) (a' := ?_) z15_31_ rfl rfl (any_of T_.out (by kernel_rfl)) (fun _ _ _ h => h) (Or.inl ⟨by rfl, ?_⟩) ?_ ?_
    rotate_left; · intro w'; go_simp; with_reducible rfl
    rotate_left; · simp only [Act.put, sa_, sb_, sc_, i64_w, i32_w]; rfl
    refine pure_ (i := 7) (N := some 71) (v := ?_) (a' := ?_) z15_32_ rfl rfl (any_of T_.out (by kernel_rfl)) (fun _ _ _ h => h) (Or.inl ⟨by rfl, ?_⟩) ?_ ?_
    rotate_left; · intro w'; go_simp; with_reducible rfl
    rotate_left; · simp only [Act.put, sa_, sb_, sc_, i64_w, i32_w]; rfl
    refine pure_ (i := 9) (N := some 73) (v := ?_) (a' := ?_) z15_33_ rfl rfl (any_of T_.out (by kernel_rfl)) (fun _ _ _ h => h) (Or.inl ⟨by rfl, ?_⟩) ?_ ?_
    rotate_left; · intro w'; go_simp; with_reducible rfl
    rotate_left; · simp only [Act.put, sa_, sb_, sc_, i64_w, i32_w]; rfl
    refine pure_ (i := 10) (N := some 74) (v := ?_) (a' := ?_) z15_34_ rfl rfl (any_of T_.out (by kernel_rfl)) (fun _ _ _ h => h) (Or.inl ⟨by rfl, ?_⟩) ?_ ?_
    rotate_left; · intro w'; go_simp; with_reducible rfl
    rotate_left; · simp only [Act.put, sa_, sb_, sc_, i64_w, i32_w]; rfl
    refine take_ (i := 4) (N := some 68) (v := ?_) (a' := ?_) z15_35_ rfl rfl (take_ofW T_.out W_.out (by kernel_rfl)) (fun _ _ _ h => h) (Or.inl ⟨by rfl, ?_⟩) hL ?_ ?_
    rotate_left
    ·rintro w' ⟨s0, s1, s2, s3, s4, s5, s6, s7, s8, s9, s10, s11⟩
     go_simp
     with_reducible rfl
    rotate_left
    ·simp only [Act.put, sa_, sb_, sc_, i64_w, i32_w]
     rfl
    refine take_ (i := 8) (N := some 72) (v := ?_) (a' := ?_) z15_36_ rfl rfl (take_ofW T_.out W_.out (by kernel_rfl)) (fun _ _ _ h => h) (Or.inl ⟨by rfl, ?_⟩) hL ?_ ?_
    rotate_left
    ·rintro w' ⟨s0, s1, s2, s3, s4, s5, s6, s7, s8, s9, s10, s11⟩
     go_simp
     with_reducible rfl
    rotate_left
    ·simp only [Act.put, sa_, sb_, sc_, i64_w, i32_w]
     rfl
    refine take_ (i := 11) (N := some 75) (v := ?_) (a' := ?_) z15_37_ rfl rfl (take_ofW T_.out W_.out (by kernel_rfl)) (fun _ _ _ h => h) (Or.inl ⟨by rfl, ?_⟩) hL ?_ ?_
    rotate_left
    ·rintro w' ⟨s0, s1, s2, s3, s4, s5, s6, s7, s8, s9, s10, s11⟩
     go_simp
     with_reducible rfl
    rotate_left
    ·simp only [Act.put, sa_, sb_, sc_, i64_w, i32_w]
     rfl
    refine one_ (i := 12) (N := some 76) z15_38_ rfl rfl (one_of T_.out (by kernel_rfl)) (by decide) (fun K hK => ?_)
    refine goes_ Tryd.func40 (by kernel_rfl) rfl #[.int .i64 a0, .int .u64 t209, .int .u64 t177] (by rfl) rfl rfl (by (try simp only [List.map_toArray, List.map_cons, List.map_nil]); first | done | rfl) ?_
    with_reducible refine (attestorref01_Mul.calls a0 t209 t177 t216 _ A153.out).mono ?_
    rintro e w' ⟨rfl, ⟨nd, rfl⟩⟩
    refine ⟨_, rfl, ?_⟩
    (try (rw [drewN_self w157]; generalize q_ : World.drewN w157 _ = w157; replace B161 := ra_ q_ B161; replace B162 := ra_ q_ B162; replace B180 := ra_ q_ B180; replace B185 := ra_ q_ B185; replace B198 := ra_ q_ B198; replace B211 := ra_ q_ B211; replace HB := rb_ q_ HB; clear q_))
    refine hK.out _ _ ⟨bq_ B180 0, bq_ B180 1, bq_ B180 2, bq_ B180 3, bq_ B211 0, bq_ B211 1, bq_ B211 2, bq_ B211 3, bq_ B161 0, bq_ B161 1, bq_ B161 2, bq_ B161 3⟩ (fun hL => ?_)
    clear hK K
    refine norm_ (a' := ?_) ?_ ?_
    rotate_left
    ·show Act.put _ (some 76) _ = _
     simp only [Act.put, sa_, sb_, sc_, i64_w, i32_w]
     rfl
    refine one_ (i := 13) (N := some 77) z15_39_ rfl rfl (one_of T_.out (by kernel_rfl)) (by decide) (fun K hK => ?_)
    refine goes_ Tryd.func32 (by kernel_rfl) rfl #[.int .i64 a0, .int .u64 t215, .int .u64 t216] (by rfl) rfl rfl (by (try simp only [List.map_toArray, List.map_cons, List.map_nil]); first | done | rfl) ?_
    with_reducible refine (attestorref01_Add.calls a0 t215 t216 t217 _ A154.out).mono ?_
    rintro e w' ⟨rfl, ⟨nd, rfl⟩⟩
    refine ⟨_, rfl, ?_⟩
    (try (rw [drewN_self w157]; generalize q_ : World.drewN w157 _ = w157; replace B161 := ra_ q_ B161; replace B162 := ra_ q_ B162; replace B180 := ra_ q_ B180; replace B185 := ra_ q_ B185; replace B198 := ra_ q_ B198; replace B211 := ra_ q_ B211; replace HB := rb_ q_ HB; clear q_))
    refine hK.out _ _ ⟨bq_ B180 0, bq_ B180 1, bq_ B180 2, bq_ B180 3, bq_ B211 0, bq_ B211 1, bq_ B211 2, bq_ B211 3, bq_ B161 0, bq_ B161 1, bq_ B161 2, bq_ B161 3⟩ (fun hL => ?_)
    clear hK K
    refine norm_ (a' := ?_) ?_ ?_
    rotate_left
    ·show Act.put _ (some 77) _ = _
     simp only [Act.put, sa_, sb_, sc_, i64_w, i32_w]
     rfl
    refine pure_ (i := 14) (N := some 78) (v := ?_) (a' := ?_) z15_40_ rfl rfl (any_of T_.out (by kernel_rfl)) (fun _ _ _ h => h) (Or.inl ⟨by rfl, ?_⟩) ?_ ?_
    rotate_left; · intro w'; go_simp; with_reducible rfl
    rotate_left; · simp only [Act.put, sa_, sb_, sc_, i64_w, i32_w]; rfl
    refine last_ (i := 15) (N := none) z15_41_ rfl rfl (one_of T_.out (by kernel_rfl)) (by decide) (fun K hK => ?_)
    have hs158 : w157.cell? ⟨g180, 2, none⟩ = some (.int .u64 t215) := bq_ B180 2
    have hfs158 := blk_frozen B180.out 2
    have hns158_0 := NB161_180.out
    have hns158_1 := NB162_180.out
    have hns158_3 := NB185_180.out
    have hns158_4 := NB198_180.out
    have hns158_5 := NB211_180.out
    have hms158_0 := NB180_161.out
    have hms158_1 := NB180_162.out
    have hms158_3 := NB180_185.out
    have hms158_4 := NB180_198.out
    have hms158_5 := NB180_211.out
    refine skip_ (w1 := ?_) (by rfl) rfl ?_ ?_
    rotate_left
    ·go_simp
     rfl
    refine hK.out _ _ ?_
    clear hK K
    refine done_ (done_of T_.out (by kernel_rfl)) ?_
    try go_wp2
    rw [rounds_succ]
    have H := HC155.out
    clear HC155
    replace H := Option.bind_eq_some_iff.mp H
    obtain ⟨t218, A1590, H⟩ := H
    have A159 := Aside0.mk A1590
    clear A1590
    replace H := Option.bind_eq_some_iff.mp H
    obtain ⟨t219, A1600, H⟩ := H
    have A160 := Aside0.mk A1600
    clear A1600
    have HC161 := Aside0.mk H
    clear H
    try go_wp2
    have n0_ := bf_ B161 NB161_180 ⟨g180, 2, none⟩ (.int .u64 t217) rfl
    have n1_ := bf_ B162 NB162_180 ⟨g180, 2, none⟩ (.int .u64 t217) rfl
    have n2_ : Aside0 ((w157.setCell ⟨g180, 2, none⟩ (.int .u64 t217)).heap[g180]? = some (.cells #[.int .u64 t193, .int .u64 t206, .int .u64 t217, .int .u64 0] 23 (0, 0))) := ⟨by refine blk_put (cs := #[.int .u64 t193, .int .u64 t206, .int .u64 t215, .int .u64 0]) ?_ 2 _ rfl; exact B180.out⟩
    have n3_ := bf_ B185 NB185_180 ⟨g180, 2, none⟩ (.int .u64 t217) rfl
    have n4_ := bf_ B198 NB198_180 ⟨g180, 2, none⟩ (.int .u64 t217) rfl
    have n5_ := bf_ B211 NB211_180 ⟨g180, 2, none⟩ (.int .u64 t217) rfl
    have n6_ : Aside0 (Below w.heap.size w (w157.setCell ⟨g180, 2, none⟩ (.int .u64 t217))) := ⟨by repeat (first | (with_reducible first | exact HB.out | apply below_alloc | apply pw_below_drewN | apply below_drew1 | refine below_set ?_ GE161.out | refine below_set ?_ GE162.out | refine below_set ?_ GE180.out | refine below_set ?_ GE185.out | refine below_set ?_ GE198.out | refine below_set ?_ GE211.out) | exact HB.out)⟩
    (try clear B161)
    (try clear B162)
    (try clear B180)
    (try clear B185)
    (try clear B198)
    (try clear B211)
    (try clear HB)
    generalize (w157.setCell ⟨g180, 2, none⟩ (.int .u64 t217)) = w162 at n0_ n1_ n2_ n3_ n4_ n5_ n6_ ⊢
    have B161 := n0_
    have B162 := n1_
    have B180 := n2_
    have B185 := n3_
    have B198 := n4_
    have B211 := n5_
    have HB := n6_
    clear n0_ n1_ n2_ n3_ n4_ n5_ n6_
    have n0_ := Aside0.mk (blk_drew B161.out)
    have n1_ := Aside0.mk (blk_drew B162.out)
    have n2_ := Aside0.mk (blk_drew B180.out)
    have n3_ := Aside0.mk (blk_drew B185.out)
    have n4_ := Aside0.mk (blk_drew B198.out)
    have n5_ := Aside0.mk (blk_drew B211.out)
    have n6_ := Aside0.mk (below_drew1 HB.out)
    clear B161
    clear B162
    clear B180
    clear B185
    clear B198
    clear B211
    clear HB
    have B161 := n0_
    have B162 := n1_
    have B180 := n2_
    have B185 := n3_
    have B198 := n4_
    have B211 := n5_
    have HB := n6_
    clear n0_ n1_ n2_ n3_ n4_ n5_ n6_
    refine start_ (n := 16) (S := fun w' => w'.cell? ⟨g180, 0, none⟩ = some (.int .u64 t193) ∧ w'.cell? ⟨g180, 1, none⟩ = some (.int .u64 t206) ∧ w'.cell? ⟨g180, 2, none⟩ = some (.int .u64 t217) ∧ w'.cell? ⟨g180, 3, none⟩ = some (.int .u64 0) ∧ w'.cell? ⟨g211, 0, none⟩ = some (.int .u64 t207) ∧ w'.cell? ⟨g211, 1, none⟩ = some (.int .u64 t208) ∧ w'.cell? ⟨g211, 2, none⟩ = some (.int .u64 t209) ∧ w'.cell? ⟨g211, 3, none⟩ = some (.int .u64 t210) ∧ w'.cell? ⟨g161, 0, none⟩ = some (.int .u64 t173) ∧ w'.cell? ⟨g161, 1, none⟩ = some (.int .u64 t175) ∧ w'.cell? ⟨g161, 2, none⟩ = some (.int .u64 t177) ∧ w'.cell? ⟨g161, 3, none⟩ = some (.int .u64 t179)) (ds := [15]) z15_25_ (by kernel_rfl) rfl rfl ⟨bq_ B180 0, bq_ B180 1, bq_ B180 2, bq_ B180 3, bq_ B211 0, bq_ B211 1, bq_ B211 2, bq_ B211 3, bq_ B161 0, bq_ B161 1, bq_ B161 2, bq_ B161 3⟩ (fun hL => ?_); refine with_tabW attestorref06_Round.tab19 attestorref06_Round.bits19 (fun T_ W_ => ?_)
    generalize w162.drew = w163 at B161 B162 B180 B185 B198 B211 HB hL ⊢
    refine pure_ (i := 0) (N := some 64) (v := ?_) (a' := ?_) z15_26_ rfl rfl (any_of T_.out (by kernel_rfl)) (fun _ _ _ h => h) (Or.inl ⟨by rfl, ?_⟩) ?_ ?_
    rotate_left; · intro w'; go_simp; with_reducible rfl
    rotate_left; · simp only [Act.put, sa_, sb_, sc_, i64_w, i32_w]; rfl
    refine pure_ (i := 1) (N := some 65) (v := ?_) (a' := ?_) z15_27_ rfl rfl (any_of T_.out (by kernel_rfl)) (fun _ _ _ h => h) (Or.inl ⟨by rfl, ?_⟩) ?_ ?_
    rotate_left; · intro w'; go_simp; with_reducible rfl
    rotate_left; · simp only [Act.put, sa_, sb_, sc_, i64_w, i32_w]; rfl
    refine pure_ (i := 2) (N := some 66) (v := ?_) (a' := ?_) z15_28_ rfl rfl (any_of T_.out (by kernel_rfl)) (fun _ _ _ h => h) (Or.inl ⟨by rfl, ?_⟩) ?_ ?_
    rotate_left; · intro w'; go_simp; with_reducible rfl
    rotate_left; · simp only [Act.put, sa_, sb_, sc_, i64_w, i32_w]; rfl
    refine pure_ (i := 3) (N := some 67) (v := ?_) (a' := ?_) z15_29_ rfl rfl (any_of T_.out (by kernel_rfl)) (fun _ _ _ h => h) (Or.inl ⟨by rfl, ?_⟩) ?_ ?_
    rotate_left; · intro w'; go_simp; with_reducible rfl
    rotate_left; · simp only [Act.put, sa_, sb_, sc_, i64_w, i32_w]; rfl
    refine pure_ (i := 5) (N := some 69) (v := ?_) (a' := ?_) z15_30_ rfl rfl (any_of T_.out (by kernel_rfl)) (fun _ _ _ h => h) (Or.inl ⟨by rfl, ?_⟩) ?_ ?_
    rotate_left; · intro w'; go_simp; with_reducible rfl
    rotate_left; · simp only [Act.put, sa_, sb_, sc_, i64_w, i32_w]; rfl
    refine pure_ (i := 6) (N := some 70) (v := ?_) (a' := ?_) z15_31_ rfl rfl (any_of T_.out (by kernel_rfl)) (fun _ _ _ h => h) (Or.inl ⟨by rfl, ?_⟩) ?_ ?_
    rotate_left; · intro w'; go_simp; with_reducible rfl
    rotate_left; · simp only [Act.put, sa_, sb_, sc_, i64_w, i32_w]; rfl
    refine pure_ (i := 7) (N := some 71) (v := ?_) (a' := ?_) z15_32_ rfl rfl (any_of T_.out (by kernel_rfl)) (fun _ _ _ h => h) (Or.inl ⟨by rfl, ?_⟩) ?_ ?_
    rotate_left; · intro w'; go_simp; with_reducible rfl
    rotate_left; · simp only [Act.put, sa_, sb_, sc_, i64_w, i32_w]; rfl
    refine pure_ (i := 9) (N := some 73) (v := ?_) (a' := ?_) z15_33_ rfl rfl (any_of T_.out (by kernel_rfl)) (fun _ _ _ h => h) (Or.inl ⟨by rfl, ?_⟩) ?_ ?_
    rotate_left; · intro w'; go_simp; with_reducible rfl
    rotate_left; · simp only [Act.put, sa_, sb_, sc_, i64_w, i32_w]; rfl
    refine pure_ (i := 10) (N := some 74) (v := ?_) (a' := ?_) z15_34_ rfl rfl (any_of T_.out (by kernel_rfl)) (fun _ _ _ h => h) (Or.inl ⟨by rfl, ?_⟩) ?_ ?_
    rotate_left; · intro w'; go_simp; with_reducible rfl
    rotate_left; · simp only [Act.put, sa_, sb_, sc_, i64_w, i32_w]; rfl
    refine take_ (i := 4) (N := some 68) (v := ?_) (a' := ?_) z15_35_ rfl rfl (take_ofW T_.out W_.out (by kernel_rfl)) (fun _ _ _ h => h) (Or.inl ⟨by rfl, ?_⟩) hL ?_ ?_
    rotate_left
    ·rintro w' ⟨s0, s1, s2, s3, s4, s5, s6, s7, s8, s9, s10, s11⟩
     go_simp
     with_reducible rfl
    rotate_left
    ·simp only [Act.put, sa_, sb_, sc_, i64_w, i32_w]
     rfl
    refine take_ (i := 8) (N := some 72) (v := ?_) (a' := ?_) z15_36_ rfl rfl (take_ofW T_.out W_.out (by kernel_rfl)) (fun _ _ _ h => h) (Or.inl ⟨by rfl, ?_⟩) hL ?_ ?_
    rotate_left
    ·rintro w' ⟨s0, s1, s2, s3, s4, s5, s6, s7, s8, s9, s10, s11⟩
     go_simp
     with_reducible rfl
    rotate_left
    ·simp only [Act.put, sa_, sb_, sc_, i64_w, i32_w]
     rfl
    refine take_ (i := 11) (N := some 75) (v := ?_) (a' := ?_) z15_37_ rfl rfl (take_ofW T_.out W_.out (by kernel_rfl)) (fun _ _ _ h => h) (Or.inl ⟨by rfl, ?_⟩) hL ?_ ?_
    rotate_left
    ·rintro w' ⟨s0, s1, s2, s3, s4, s5, s6, s7, s8, s9, s10, s11⟩
     go_simp
     with_reducible rfl
    rotate_left
    ·simp only [Act.put, sa_, sb_, sc_, i64_w, i32_w]
     rfl
    refine one_ (i := 12) (N := some 76) z15_38_ rfl rfl (one_of T_.out (by kernel_rfl)) (by decide) (fun K hK => ?_)
    refine goes_ Tryd.func40 (by kernel_rfl) rfl #[.int .i64 a0, .int .u64 t210, .int .u64 t179] (by rfl) rfl rfl (by (try simp only [List.map_toArray, List.map_cons, List.map_nil]); first | done | rfl) ?_
    with_reducible refine (attestorref01_Mul.calls a0 t210 t179 t218 _ A159.out).mono ?_
    rintro e w' ⟨rfl, ⟨nd, rfl⟩⟩
    refine ⟨_, rfl, ?_⟩
    (try (rw [drewN_self w163]; generalize q_ : World.drewN w163 _ = w163; replace B161 := ra_ q_ B161; replace B162 := ra_ q_ B162; replace B180 := ra_ q_ B180; replace B185 := ra_ q_ B185; replace B198 := ra_ q_ B198; replace B211 := ra_ q_ B211; replace HB := rb_ q_ HB; clear q_))
    refine hK.out _ _ ⟨bq_ B180 0, bq_ B180 1, bq_ B180 2, bq_ B180 3, bq_ B211 0, bq_ B211 1, bq_ B211 2, bq_ B211 3, bq_ B161 0, bq_ B161 1, bq_ B161 2, bq_ B161 3⟩ (fun hL => ?_)
    clear hK K
    refine norm_ (a' := ?_) ?_ ?_
    rotate_left
    ·show Act.put _ (some 76) _ = _
     simp only [Act.put, sa_, sb_, sc_, i64_w, i32_w]
     rfl
    refine one_ (i := 13) (N := some 77) z15_39_ rfl rfl (one_of T_.out (by kernel_rfl)) (by decide) (fun K hK => ?_)
    refine goes_ Tryd.func32 (by kernel_rfl) rfl #[.int .i64 a0, .int .u64 t217, .int .u64 t218] (by rfl) rfl rfl (by (try simp only [List.map_toArray, List.map_cons, List.map_nil]); first | done | rfl) ?_
    with_reducible refine (attestorref01_Add.calls a0 t217 t218 t219 _ A160.out).mono ?_
    rintro e w' ⟨rfl, ⟨nd, rfl⟩⟩
    refine ⟨_, rfl, ?_⟩
    (try (rw [drewN_self w163]; generalize q_ : World.drewN w163 _ = w163; replace B161 := ra_ q_ B161; replace B162 := ra_ q_ B162; replace B180 := ra_ q_ B180; replace B185 := ra_ q_ B185; replace B198 := ra_ q_ B198; replace B211 := ra_ q_ B211; replace HB := rb_ q_ HB; clear q_))
    refine hK.out _ _ ⟨bq_ B180 0, bq_ B180 1, bq_ B180 2, bq_ B180 3, bq_ B211 0, bq_ B211 1, bq_ B211 2, bq_ B211 3, bq_ B161 0, bq_ B161 1, bq_ B161 2, bq_ B161 3⟩ (fun hL => ?_)
    clear hK K
    refine norm_ (a' := ?_) ?_ ?_
    rotate_left
    ·show Act.put _ (some 77) _ = _
     simp only [Act.put, sa_, sb_, sc_, i64_w, i32_w]
     rfl
    refine pure_ (i := 14) (N := some 78) (v := ?_) (a' := ?_) z15_40_ rfl rfl (any_of T_.out (by kernel_rfl)) (fun _ _ _ h => h) (Or.inl ⟨by rfl, ?_⟩) ?_ ?_
    rotate_left; · intro w'; go_simp; with_reducible rfl
    rotate_left; · simp only [Act.put, sa_, sb_, sc_, i64_w, i32_w]; rfl
    refine last_ (i := 15) (N := none) z15_41_ rfl rfl (one_of T_.out (by kernel_rfl)) (by decide) (fun K hK => ?_)
    have hs164 : w163.cell? ⟨g180, 2, none⟩ = some (.int .u64 t217) := bq_ B180 2
    have hfs164 := blk_frozen B180.out 2
    have hns164_0 := NB161_180.out
    have hns164_1 := NB162_180.out
    have hns164_3 := NB185_180.out
    have hns164_4 := NB198_180.out
    have hns164_5 := NB211_180.out
    have hms164_0 := NB180_161.out
    have hms164_1 := NB180_162.out
    have hms164_3 := NB180_185.out
    have hms164_4 := NB180_198.out
    have hms164_5 := NB180_211.out
    refine skip_ (w1 := ?_) (by rfl) rfl ?_ ?_
    rotate_left
    ·go_simp
     rfl
    refine hK.out _ _ ?_
    clear hK K
    refine done_ (done_of T_.out (by kernel_rfl)) ?_
    try go_wp2
    rw [rounds_succ]
    have H := HC161.out
    clear HC161
    have HC165 := Aside0.mk H
    clear H
    go_wp2
    rw [rounds_succ]
    have H := HC165.out
    clear HC165
    replace H := Option.bind_eq_some_iff.mp H
    obtain ⟨⟨t220, t221, t222, t223⟩, A1660, H⟩ := H
    replace H : ((attestorref01_Mul.f a0 t220 t173).bind fun t225 => ((attestorref01_Add.f a0 0 t225).bind fun t226 => ((attestorref01_Mul.f a0 t221 t175).bind fun t227 => ((attestorref01_Add.f a0 t226 t227).bind fun t228 => ((attestorref01_Mul.f a0 t222 t177).bind fun t229 => ((attestorref01_Add.f a0 t228 t229).bind fun t230 => ((attestorref01_Mul.f a0 t223 t179).bind fun t231 => ((attestorref01_Add.f a0 t230 t231).bind fun t232 => (some (t193, t206, t219, t232)))))))))) = some (r1, r2, r3, r4) := H
    have A166 := Aside0.mk A1660
    clear A1660
    have HC167 := Aside0.mk H
    clear H
    go_wp2_with (first | ((with_reducible refine gate_callee (f := 39) rfl ?_); refine goesL_ (some 59) rfl rfl Tryd.func39 (by kernel_rfl) rfl #[.int .i64 3] rfl (by (try simp only [List.map_toArray, List.map_cons, List.map_nil]); first | done | rfl) ?_; (with_reducible refine (attestorref06_row.calls 3 t220 t221 t222 t223 _ A166.out).mono ?_); rintro e w168 ⟨rfl, hb⟩; refine ⟨_, rfl, ?_⟩; have n0_ := Aside0.mk (blk_below (g := g161) (o := .cells #[.int .u64 t173, .int .u64 t175, .int .u64 t177, .int .u64 t179] 23 (0, 0)) (by refine blk_far ?_ NB161_180.out _; exact B161.out) hb); have n1_ := Aside0.mk (blk_below (g := g162) (o := .cells #[.int .u64 0, .int .u64 0, .int .u64 0, .int .u64 0] 23 (0, 0)) (by refine blk_far ?_ NB162_180.out _; exact B162.out) hb); have n2_ := Aside0.mk (blk_below (g := g180) (o := .cells #[.int .u64 t193, .int .u64 t206, .int .u64 t219, .int .u64 0] 23 (0, 0)) (by refine blk_put (cs := #[.int .u64 t193, .int .u64 t206, .int .u64 t217, .int .u64 0]) ?_ 2 _ rfl; exact B180.out) hb); have n3_ := Aside0.mk (blk_below (g := g185) (o := .cells #[.int .u64 t181, .int .u64 t182, .int .u64 t183, .int .u64 t184] 23 (0, 0)) (by refine blk_far ?_ NB185_180.out _; exact B185.out) hb); have n4_ := Aside0.mk (blk_below (g := g198) (o := .cells #[.int .u64 t194, .int .u64 t195, .int .u64 t196, .int .u64 t197] 23 (0, 0)) (by refine blk_far ?_ NB198_180.out _; exact B198.out) hb); have n5_ := Aside0.mk (blk_below (g := g211) (o := .cells #[.int .u64 t207, .int .u64 t208, .int .u64 t209, .int .u64 t210] 23 (0, 0)) (by refine blk_far ?_ NB211_180.out _; exact B211.out) hb); have n6_ := Aside0.mk (below_step (by repeat (first | (with_reducible first | exact HB.out | apply below_alloc | apply pw_below_drewN | apply below_drew1 | refine below_set ?_ GE161.out | refine below_set ?_ GE162.out | refine below_set ?_ GE180.out | refine below_set ?_ GE185.out | refine below_set ?_ GE198.out | refine below_set ?_ GE211.out) | exact HB.out)) hb); clear B161; clear B162; clear B180; clear B185; clear B198; clear B211; clear HB; have B161 := n0_; have B162 := n1_; have B180 := n2_; have B185 := n3_; have B198 := n4_; have B211 := n5_; have HB := n6_; clear n0_ n1_ n2_ n3_ n4_ n5_ n6_; (try clear hb); (try clear hb2); (try clear hk); (try clear hi)) | ((with_reducible refine gate_dst (N := 11) rfl ?_); refine box_event ?hg (N := 11) ?hd (cs := #[.int .u64 0, .int .u64 0, .int .u64 0, .int .u64 0]) (t := 23) ?hr ?_; (case hd => rfl); (case hg => rfl); (case hr => first | (go_simp; done) | (go_simp; rfl)); intro g224 hg w169 hbox hb; have n0_ := Aside0.mk (blk_below (g := g161) (o := .cells #[.int .u64 t173, .int .u64 t175, .int .u64 t177, .int .u64 t179] 23 (0, 0)) (by exact B161.out) hb); have n1_ := Aside0.mk (blk_below (g := g162) (o := .cells #[.int .u64 0, .int .u64 0, .int .u64 0, .int .u64 0] 23 (0, 0)) (by exact B162.out) hb); have n2_ := Aside0.mk (blk_below (g := g180) (o := .cells #[.int .u64 t193, .int .u64 t206, .int .u64 t219, .int .u64 0] 23 (0, 0)) (by exact B180.out) hb); have n3_ := Aside0.mk (blk_below (g := g185) (o := .cells #[.int .u64 t181, .int .u64 t182, .int .u64 t183, .int .u64 t184] 23 (0, 0)) (by exact B185.out) hb); have n4_ := Aside0.mk (blk_below (g := g198) (o := .cells #[.int .u64 t194, .int .u64 t195, .int .u64 t196, .int .u64 t197] 23 (0, 0)) (by exact B198.out) hb); have n5_ := Aside0.mk (blk_below (g := g211) (o := .cells #[.int .u64 t207, .int .u64 t208, .int .u64 t209, .int .u64 t210] 23 (0, 0)) (by exact B211.out) hb); have n6_ := Aside0.mk (below_step (by repeat (first | (with_reducible first | exact HB.out | apply below_alloc | apply pw_below_drewN | apply below_drew1 | refine below_set ?_ GE161.out | refine below_set ?_ GE162.out | refine below_set ?_ GE180.out | refine below_set ?_ GE185.out | refine below_set ?_ GE198.out | refine below_set ?_ GE211.out) | exact HB.out)) hb); have n7_ := Aside0.mk (hbox); have n8_ := Aside0.mk ((by rw [hg]; exact (below_size (by repeat (first | (with_reducible first | exact HB.out | apply below_alloc | apply pw_below_drewN | apply below_drew1 | refine below_set ?_ GE161.out | refine below_set ?_ GE162.out | refine below_set ?_ GE180.out | refine below_set ?_ GE185.out | refine below_set ?_ GE198.out | refine below_set ?_ GE211.out) | exact HB.out))) : w.heap.size ≤ g224)); have n9_ := Aside0.mk ((by rw [hg]; exact (below_size (by repeat (first | (with_reducible first | exact HB.out | apply below_alloc | apply pw_below_drewN | apply below_drew1 | refine below_set ?_ GE161.out | refine below_set ?_ GE162.out | refine below_set ?_ GE180.out | refine below_set ?_ GE185.out | refine below_set ?_ GE198.out | refine below_set ?_ GE211.out) | exact HB.out))) : w.heap.size ≤ g224)); have n10_ := Aside0.mk ((by rw [hg]; exact Nat.ne_of_lt (blk_lt (g := g161) (o := .cells #[.int .u64 t173, .int .u64 t175, .int .u64 t177, .int .u64 t179] 23 (0, 0)) (by exact B161.out)) : g161 ≠ g224)); have n11_ := Aside0.mk ((by rw [hg]; exact Nat.ne_of_gt (blk_lt (g := g161) (o := .cells #[.int .u64 t173, .int .u64 t175, .int .u64 t177, .int .u64 t179] 23 (0, 0)) (by exact B161.out)) : g224 ≠ g161)); have n12_ := Aside0.mk ((by rw [hg]; exact Nat.ne_of_lt (blk_lt (g := g162) (o := .cells #[.int .u64 0, .int .u64 0, .int .u64 0, .int .u64 0] 23 (0, 0)) (by exact B162.out)) : g162 ≠ g224)); have n13_ := Aside0.mk ((by rw [hg]; exact Nat.ne_of_gt (blk_lt (g := g162) (o := .cells #[.int .u64 0, .int .u64 0, .int .u64 0, .int .u64 0] 23 (0, 0)) (by exact B162.out)) : g224 ≠ g162)); have n14_ := Aside0.mk ((by rw [hg]; exact Nat.ne_of_lt (blk_lt (g := g180) (o := .cells #[.int .u64 t193, .int .u64 t206, .int .u64 t219, .int .u64 0] 23 (0, 0)) (by exact B180.out)) : g180 ≠ g224)); have n15_ := Aside0.mk ((by rw [hg]; exact Nat.ne_of_gt (blk_lt (g := g180) (o := .cells #[.int .u64 t193, .int .u64 t206, .int .u64 t219, .int .u64 0] 23 (0, 0)) (by exact B180.out)) : g224 ≠ g180)); have n16_ := Aside0.mk ((by rw [hg]; exact Nat.ne_of_lt (blk_lt (g := g185) (o := .cells #[.int .u64 t181, .int .u64 t182, .int .u64 t183, .int .u64 t184] 23 (0, 0)) (by exact B185.out)) : g185 ≠ g224)); have n17_ := Aside0.mk ((by rw [hg]; exact Nat.ne_of_gt (blk_lt (g := g185) (o := .cells #[.int .u64 t181, .int .u64 t182, .int .u64 t183, .int .u64 t184] 23 (0, 0)) (by exact B185.out)) : g224 ≠ g185)); have n18_ := Aside0.mk ((by rw [hg]; exact Nat.ne_of_lt (blk_lt (g := g198) (o := .cells #[.int .u64 t194, .int .u64 t195, .int .u64 t196, .int .u64 t197] 23 (0, 0)) (by exact B198.out)) : g198 ≠ g224)); have n19_ := Aside0.mk ((by rw [hg]; exact Nat.ne_of_gt (blk_lt (g := g198) (o := .cells #[.int .u64 t194, .int .u64 t195, .int .u64 t196, .int .u64 t197] 23 (0, 0)) (by exact B198.out)) : g224 ≠ g198)); have n20_ := Aside0.mk ((by rw [hg]; exact Nat.ne_of_lt (blk_lt (g := g211) (o := .cells #[.int .u64 t207, .int .u64 t208, .int .u64 t209, .int .u64 t210] 23 (0, 0)) (by exact B211.out)) : g211 ≠ g224)); have n21_ := Aside0.mk ((by rw [hg]; exact Nat.ne_of_gt (blk_lt (g := g211) (o := .cells #[.int .u64 t207, .int .u64 t208, .int .u64 t209, .int .u64 t210] 23 (0, 0)) (by exact B211.out)) : g224 ≠ g211)); clear B161; clear B162; clear B180; clear B185; clear B198; clear B211; clear HB; have B161 := n0_; have B162 := n1_; have B180 := n2_; have B185 := n3_; have B198 := n4_; have B211 := n5_; have HB := n6_; have B224 := n7_; have GW224 := n8_; have GE224 := n9_; have NB161_224 := n10_; have NB224_161 := n11_; have NB162_224 := n12_; have NB224_162 := n13_; have NB180_224 := n14_; have NB224_180 := n15_; have NB185_224 := n16_; have NB224_185 := n17_; have NB198_224 := n18_; have NB224_198 := n19_; have NB211_224 := n20_; have NB224_211 := n21_; clear n0_ n1_ n2_ n3_ n4_ n5_ n6_ n7_ n8_ n9_ n10_ n11_ n12_ n13_ n14_ n15_ n16_ n17_ n18_ n19_ n20_ n21_; clear hb hbox hg; have hnb170 := NB224_161.out; have hnc170 := NB161_224.out; have hnb171 := NB224_162.out; have hnc171 := NB162_224.out; have hnb172 := NB224_180.out; have hnc172 := NB180_224.out; have hnb173 := NB224_185.out; have hnc173 := NB185_224.out; have hnb174 := NB224_198.out; have hnc174 := NB198_224.out; have hnb175 := NB224_211.out; have hnc175 := NB211_224.out; have hcz176_0 : w169.cell? ⟨g224, 0, none⟩ = some (.int .u64 0) := bq_ B224 0; have hcz176_1 : w169.cell? ⟨g224, 1, none⟩ = some (.int .u64 0) := bq_ B224 1; have hcz176_2 : w169.cell? ⟨g224, 2, none⟩ = some (.int .u64 0) := bq_ B224 2; have hcz176_3 : w169.cell? ⟨g224, 3, none⟩ = some (.int .u64 0) := bq_ B224 3; have hfz176_0 := blk_frozen B224.out 0; have hfz176_1 := blk_frozen B224.out 1; have hfz176_2 := blk_frozen B224.out 2; have hfz176_3 := blk_frozen B224.out 3))
    refine wp_loop_rounds 5 ?_
    rw [rounds_succ]
    have H := HC167.out
    clear HC167
    replace H := Option.bind_eq_some_iff.mp H
    obtain ⟨t225, A1770, H⟩ := H
    have A177 := Aside0.mk A1770
    clear A1770
    replace H := Option.bind_eq_some_iff.mp H
    obtain ⟨t226, A1780, H⟩ := H
    have A178 := Aside0.mk A1780
    clear A1780
    have HC179 := Aside0.mk H
    clear H
    try go_wp2
    have n0_ : Aside0 (((((w169.setCell ⟨g224, 0, none⟩ (.int .u64 t220)).setCell ⟨g224, 1, none⟩ (.int .u64 t221)).setCell ⟨g224, 2, none⟩ (.int .u64 t222)).setCell ⟨g224, 3, none⟩ (.int .u64 t223)).heap[g161]? = some (.cells #[.int .u64 t173, .int .u64 t175, .int .u64 t177, .int .u64 t179] 23 (0, 0))) := ⟨by refine blk_far ?_ NB161_224.out _; refine blk_far ?_ NB161_224.out _; refine blk_far ?_ NB161_224.out _; refine blk_far ?_ NB161_224.out _; exact B161.out⟩
    have n1_ : Aside0 (((((w169.setCell ⟨g224, 0, none⟩ (.int .u64 t220)).setCell ⟨g224, 1, none⟩ (.int .u64 t221)).setCell ⟨g224, 2, none⟩ (.int .u64 t222)).setCell ⟨g224, 3, none⟩ (.int .u64 t223)).heap[g162]? = some (.cells #[.int .u64 0, .int .u64 0, .int .u64 0, .int .u64 0] 23 (0, 0))) := ⟨by refine blk_far ?_ NB162_224.out _; refine blk_far ?_ NB162_224.out _; refine blk_far ?_ NB162_224.out _; refine blk_far ?_ NB162_224.out _; exact B162.out⟩
    have n2_ : Aside0 (((((w169.setCell ⟨g224, 0, none⟩ (.int .u64 t220)).setCell ⟨g224, 1, none⟩ (.int .u64 t221)).setCell ⟨g224, 2, none⟩ (.int .u64 t222)).setCell ⟨g224, 3, none⟩ (.int .u64 t223)).heap[g180]? = some (.cells #[.int .u64 t193, .int .u64 t206, .int .u64 t219, .int .u64 0] 23 (0, 0))) := ⟨by refine blk_far ?_ NB180_224.out _; refine blk_far ?_ NB180_224.out _; refine blk_far ?_ NB180_224.out _; refine blk_far ?_ NB180_224.out _; exact B180.out⟩
    have n3_ : Aside0 (((((w169.setCell ⟨g224, 0, none⟩ (.int .u64 t220)).setCell ⟨g224, 1, none⟩ (.int .u64 t221)).setCell ⟨g224, 2, none⟩ (.int .u64 t222)).setCell ⟨g224, 3, none⟩ (.int .u64 t223)).heap[g185]? = some (.cells #[.int .u64 t181, .int .u64 t182, .int .u64 t183, .int .u64 t184] 23 (0, 0))) := ⟨by refine blk_far ?_ NB185_224.out _; refine blk_far ?_ NB185_224.out _; refine blk_far ?_ NB185_224.out _; refine blk_far ?_ NB185_224.out _; exact B185.out⟩
    have n4_ : Aside0 (((((w169.setCell ⟨g224, 0, none⟩ (.int .u64 t220)).setCell ⟨g224, 1, none⟩ (.int .u64 t221)).setCell ⟨g224, 2, none⟩ (.int .u64 t222)).setCell ⟨g224, 3, none⟩ (.int .u64 t223)).heap[g198]? = some (.cells #[.int .u64 t194, .int .u64 t195, .int .u64 t196, .int .u64 t197] 23 (0, 0))) := ⟨by refine blk_far ?_ NB198_224.out _; refine blk_far ?_ NB198_224.out _; refine blk_far ?_ NB198_224.out _; refine blk_far ?_ NB198_224.out _; exact B198.out⟩
    have n5_ : Aside0 (((((w169.setCell ⟨g224, 0, none⟩ (.int .u64 t220)).setCell ⟨g224, 1, none⟩ (.int .u64 t221)).setCell ⟨g224, 2, none⟩ (.int .u64 t222)).setCell ⟨g224, 3, none⟩ (.int .u64 t223)).heap[g211]? = some (.cells #[.int .u64 t207, .int .u64 t208, .int .u64 t209, .int .u64 t210] 23 (0, 0))) := ⟨by refine blk_far ?_ NB211_224.out _; refine blk_far ?_ NB211_224.out _; refine blk_far ?_ NB211_224.out _; refine blk_far ?_ NB211_224.out _; exact B211.out⟩
    have n6_ : Aside0 (((((w169.setCell ⟨g224, 0, none⟩ (.int .u64 t220)).setCell ⟨g224, 1, none⟩ (.int .u64 t221)).setCell ⟨g224, 2, none⟩ (.int .u64 t222)).setCell ⟨g224, 3, none⟩ (.int .u64 t223)).heap[g224]? = some (.cells #[.int .u64 t220, .int .u64 t221, .int .u64 t222, .int .u64 t223] 23 (0, 0))) := ⟨by refine blk_put (cs := #[.int .u64 t220, .int .u64 t221, .int .u64 t222, .int .u64 0]) ?_ 3 _ rfl; refine blk_put (cs := #[.int .u64 t220, .int .u64 t221, .int .u64 0, .int .u64 0]) ?_ 2 _ rfl; refine blk_put (cs := #[.int .u64 t220, .int .u64 0, .int .u64 0, .int .u64 0]) ?_ 1 _ rfl; refine blk_put (cs := #[.int .u64 0, .int .u64 0, .int .u64 0, .int .u64 0]) ?_ 0 _ rfl; exact B224.out⟩
    have n7_ : Aside0 (Below w.heap.size w ((((w169.setCell ⟨g224, 0, none⟩ (.int .u64 t220)).setCell ⟨g224, 1, none⟩ (.int .u64 t221)).setCell ⟨g224, 2, none⟩ (.int .u64 t222)).setCell ⟨g224, 3, none⟩ (.int .u64 t223))) := ⟨by repeat (first | (with_reducible first | exact HB.out | apply below_alloc | apply pw_below_drewN | apply below_drew1 | refine below_set ?_ GE161.out | refine below_set ?_ GE162.out | refine below_set ?_ GE180.out | refine below_set ?_ GE185.out | refine below_set ?_ GE198.out | refine below_set ?_ GE211.out | refine below_set ?_ GE224.out) | exact HB.out)⟩
    (try clear B161)
    (try clear B162)
    (try clear B180)
    (try clear B185)
    (try clear B198)
    (try clear B211)
    (try clear B224)
    (try clear HB)
    generalize ((((w169.setCell ⟨g224, 0, none⟩ (.int .u64 t220)).setCell ⟨g224, 1, none⟩ (.int .u64 t221)).setCell ⟨g224, 2, none⟩ (.int .u64 t222)).setCell ⟨g224, 3, none⟩ (.int .u64 t223)) = w180 at n0_ n1_ n2_ n3_ n4_ n5_ n6_ n7_ ⊢
    have B161 := n0_
    have B162 := n1_
    have B180 := n2_
    have B185 := n3_
    have B198 := n4_
    have B211 := n5_
    have B224 := n6_
    have HB := n7_
    clear n0_ n1_ n2_ n3_ n4_ n5_ n6_ n7_
    have n0_ := Aside0.mk (blk_drew B161.out)
    have n1_ := Aside0.mk (blk_drew B162.out)
    have n2_ := Aside0.mk (blk_drew B180.out)
    have n3_ := Aside0.mk (blk_drew B185.out)
    have n4_ := Aside0.mk (blk_drew B198.out)
    have n5_ := Aside0.mk (blk_drew B211.out)
    have n6_ := Aside0.mk (blk_drew B224.out)
    have n7_ := Aside0.mk (below_drew1 HB.out)
    clear B161
    clear B162
    clear B180
    clear B185
    clear B198
    clear B211
    clear B224
    clear HB
    have B161 := n0_
    have B162 := n1_
    have B180 := n2_
    have B185 := n3_
    have B198 := n4_
    have B211 := n5_
    have B224 := n6_
    have HB := n7_
    clear n0_ n1_ n2_ n3_ n4_ n5_ n6_ n7_
    refine start_ (n := 16) (S := fun w' => w'.cell? ⟨g180, 0, none⟩ = some (.int .u64 t193) ∧ w'.cell? ⟨g180, 1, none⟩ = some (.int .u64 t206) ∧ w'.cell? ⟨g180, 2, none⟩ = some (.int .u64 t219) ∧ w'.cell? ⟨g180, 3, none⟩ = some (.int .u64 0) ∧ w'.cell? ⟨g224, 0, none⟩ = some (.int .u64 t220) ∧ w'.cell? ⟨g224, 1, none⟩ = some (.int .u64 t221) ∧ w'.cell? ⟨g224, 2, none⟩ = some (.int .u64 t222) ∧ w'.cell? ⟨g224, 3, none⟩ = some (.int .u64 t223) ∧ w'.cell? ⟨g161, 0, none⟩ = some (.int .u64 t173) ∧ w'.cell? ⟨g161, 1, none⟩ = some (.int .u64 t175) ∧ w'.cell? ⟨g161, 2, none⟩ = some (.int .u64 t177) ∧ w'.cell? ⟨g161, 3, none⟩ = some (.int .u64 t179)) (ds := [15]) z15_25_ (by kernel_rfl) rfl rfl ⟨bq_ B180 0, bq_ B180 1, bq_ B180 2, bq_ B180 3, bq_ B224 0, bq_ B224 1, bq_ B224 2, bq_ B224 3, bq_ B161 0, bq_ B161 1, bq_ B161 2, bq_ B161 3⟩ (fun hL => ?_); refine with_tabW attestorref06_Round.tab19 attestorref06_Round.bits19 (fun T_ W_ => ?_)
    generalize w180.drew = w181 at B161 B162 B180 B185 B198 B211 B224 HB hL ⊢
    refine pure_ (i := 0) (N := some 64) (v := ?_) (a' := ?_) z15_26_ rfl rfl (any_of T_.out (by kernel_rfl)) (fun _ _ _ h => h) (Or.inl ⟨by rfl, ?_⟩) ?_ ?_
    rotate_left; · intro w'; go_simp; with_reducible rfl
    rotate_left; · simp only [Act.put, sa_, sb_, sc_, i64_w, i32_w]; rfl
    refine pure_ (i := 1) (N := some 65) (v := ?_) (a' := ?_) z15_27_ rfl rfl (any_of T_.out (by kernel_rfl)) (fun _ _ _ h => h) (Or.inl ⟨by rfl, ?_⟩) ?_ ?_
    rotate_left; · intro w'; go_simp; with_reducible rfl
    rotate_left; · simp only [Act.put, sa_, sb_, sc_, i64_w, i32_w]; rfl
    refine pure_ (i := 2) (N := some 66) (v := ?_) (a' := ?_) z15_28_ rfl rfl (any_of T_.out (by kernel_rfl)) (fun _ _ _ h => h) (Or.inl ⟨by rfl, ?_⟩) ?_ ?_
    rotate_left; · intro w'; go_simp; with_reducible rfl
    rotate_left; · simp only [Act.put, sa_, sb_, sc_, i64_w, i32_w]; rfl
    refine pure_ (i := 3) (N := some 67) (v := ?_) (a' := ?_) z15_29_ rfl rfl (any_of T_.out (by kernel_rfl)) (fun _ _ _ h => h) (Or.inl ⟨by rfl, ?_⟩) ?_ ?_
    rotate_left; · intro w'; go_simp; with_reducible rfl
    rotate_left; · simp only [Act.put, sa_, sb_, sc_, i64_w, i32_w]; rfl
    refine pure_ (i := 5) (N := some 69) (v := ?_) (a' := ?_) z15_30_ rfl rfl (any_of T_.out (by kernel_rfl)) (fun _ _ _ h => h) (Or.inl ⟨by rfl, ?_⟩) ?_ ?_
    rotate_left; · intro w'; go_simp; with_reducible rfl
    rotate_left; · simp only [Act.put, sa_, sb_, sc_, i64_w, i32_w]; rfl
    refine pure_ (i := 6) (N := some 70) (v := ?_) (a' := ?_) z15_31_ rfl rfl (any_of T_.out (by kernel_rfl)) (fun _ _ _ h => h) (Or.inl ⟨by rfl, ?_⟩) ?_ ?_
    rotate_left; · intro w'; go_simp; with_reducible rfl
    rotate_left; · simp only [Act.put, sa_, sb_, sc_, i64_w, i32_w]; rfl
    refine pure_ (i := 7) (N := some 71) (v := ?_) (a' := ?_) z15_32_ rfl rfl (any_of T_.out (by kernel_rfl)) (fun _ _ _ h => h) (Or.inl ⟨by rfl, ?_⟩) ?_ ?_
    rotate_left; · intro w'; go_simp; with_reducible rfl
    rotate_left; · simp only [Act.put, sa_, sb_, sc_, i64_w, i32_w]; rfl
    refine pure_ (i := 9) (N := some 73) (v := ?_) (a' := ?_) z15_33_ rfl rfl (any_of T_.out (by kernel_rfl)) (fun _ _ _ h => h) (Or.inl ⟨by rfl, ?_⟩) ?_ ?_
    rotate_left; · intro w'; go_simp; with_reducible rfl
    rotate_left; · simp only [Act.put, sa_, sb_, sc_, i64_w, i32_w]; rfl
    refine pure_ (i := 10) (N := some 74) (v := ?_) (a' := ?_) z15_34_ rfl rfl (any_of T_.out (by kernel_rfl)) (fun _ _ _ h => h) (Or.inl ⟨by rfl, ?_⟩) ?_ ?_
    rotate_left; · intro w'; go_simp; with_reducible rfl
    rotate_left; · simp only [Act.put, sa_, sb_, sc_, i64_w, i32_w]; rfl
    refine take_ (i := 4) (N := some 68) (v := ?_) (a' := ?_) z15_35_ rfl rfl (take_ofW T_.out W_.out (by kernel_rfl)) (fun _ _ _ h => h) (Or.inl ⟨by rfl, ?_⟩) hL ?_ ?_
    rotate_left
    ·rintro w' ⟨s0, s1, s2, s3, s4, s5, s6, s7, s8, s9, s10, s11⟩
     go_simp
     with_reducible rfl
    rotate_left
    ·simp only [Act.put, sa_, sb_, sc_, i64_w, i32_w]
     rfl
    refine take_ (i := 8) (N := some 72) (v := ?_) (a' := ?_) z15_36_ rfl rfl (take_ofW T_.out W_.out (by kernel_rfl)) (fun _ _ _ h => h) (Or.inl ⟨by rfl, ?_⟩) hL ?_ ?_
    rotate_left
    ·rintro w' ⟨s0, s1, s2, s3, s4, s5, s6, s7, s8, s9, s10, s11⟩
     go_simp
     with_reducible rfl
    rotate_left
    ·simp only [Act.put, sa_, sb_, sc_, i64_w, i32_w]
     rfl
    refine take_ (i := 11) (N := some 75) (v := ?_) (a' := ?_) z15_37_ rfl rfl (take_ofW T_.out W_.out (by kernel_rfl)) (fun _ _ _ h => h) (Or.inl ⟨by rfl, ?_⟩) hL ?_ ?_
    rotate_left
    ·rintro w' ⟨s0, s1, s2, s3, s4, s5, s6, s7, s8, s9, s10, s11⟩
     go_simp
     with_reducible rfl
    rotate_left
    ·simp only [Act.put, sa_, sb_, sc_, i64_w, i32_w]
     rfl
    refine one_ (i := 12) (N := some 76) z15_38_ rfl rfl (one_of T_.out (by kernel_rfl)) (by decide) (fun K hK => ?_)
    refine goes_ Tryd.func40 (by kernel_rfl) rfl #[.int .i64 a0, .int .u64 t220, .int .u64 t173] (by rfl) rfl rfl (by (try simp only [List.map_toArray, List.map_cons, List.map_nil]); first | done | rfl) ?_
    with_reducible refine (attestorref01_Mul.calls a0 t220 t173 t225 _ A177.out).mono ?_
    rintro e w' ⟨rfl, ⟨nd, rfl⟩⟩
    refine ⟨_, rfl, ?_⟩
    (try (rw [drewN_self w181]; generalize q_ : World.drewN w181 _ = w181; replace B161 := ra_ q_ B161; replace B162 := ra_ q_ B162; replace B180 := ra_ q_ B180; replace B185 := ra_ q_ B185; replace B198 := ra_ q_ B198; replace B211 := ra_ q_ B211; replace B224 := ra_ q_ B224; replace HB := rb_ q_ HB; clear q_))
    refine hK.out _ _ ⟨bq_ B180 0, bq_ B180 1, bq_ B180 2, bq_ B180 3, bq_ B224 0, bq_ B224 1, bq_ B224 2, bq_ B224 3, bq_ B161 0, bq_ B161 1, bq_ B161 2, bq_ B161 3⟩ (fun hL => ?_)
    clear hK K
    refine norm_ (a' := ?_) ?_ ?_
    rotate_left
    ·show Act.put _ (some 76) _ = _
     simp only [Act.put, sa_, sb_, sc_, i64_w, i32_w]
     rfl
    refine one_ (i := 13) (N := some 77) z15_39_ rfl rfl (one_of T_.out (by kernel_rfl)) (by decide) (fun K hK => ?_)
    refine goes_ Tryd.func32 (by kernel_rfl) rfl #[.int .i64 a0, .int .u64 0, .int .u64 t225] (by rfl) rfl rfl (by (try simp only [List.map_toArray, List.map_cons, List.map_nil]); first | done | rfl) ?_
    with_reducible refine (attestorref01_Add.calls a0 0 t225 t226 _ A178.out).mono ?_
    rintro e w' ⟨rfl, ⟨nd, rfl⟩⟩
    refine ⟨_, rfl, ?_⟩
    (try (rw [drewN_self w181]; generalize q_ : World.drewN w181 _ = w181; replace B161 := ra_ q_ B161; replace B162 := ra_ q_ B162; replace B180 := ra_ q_ B180; replace B185 := ra_ q_ B185; replace B198 := ra_ q_ B198; replace B211 := ra_ q_ B211; replace B224 := ra_ q_ B224; replace HB := rb_ q_ HB; clear q_))
    refine hK.out _ _ ⟨bq_ B180 0, bq_ B180 1, bq_ B180 2, bq_ B180 3, bq_ B224 0, bq_ B224 1, bq_ B224 2, bq_ B224 3, bq_ B161 0, bq_ B161 1, bq_ B161 2, bq_ B161 3⟩ (fun hL => ?_)
    clear hK K
    refine norm_ (a' := ?_) ?_ ?_
    rotate_left
    ·show Act.put _ (some 77) _ = _
     simp only [Act.put, sa_, sb_, sc_, i64_w, i32_w]
     rfl
    refine pure_ (i := 14) (N := some 78) (v := ?_) (a' := ?_) z15_40_ rfl rfl (any_of T_.out (by kernel_rfl)) (fun _ _ _ h => h) (Or.inl ⟨by rfl, ?_⟩) ?_ ?_
    rotate_left; · intro w'; go_simp; with_reducible rfl
    rotate_left; · simp only [Act.put, sa_, sb_, sc_, i64_w, i32_w]; rfl
    refine last_ (i := 15) (N := none) z15_41_ rfl rfl (one_of T_.out (by kernel_rfl)) (by decide) (fun K hK => ?_)
    have hs182 : w181.cell? ⟨g180, 3, none⟩ = some (.int .u64 0) := bq_ B180 3
    have hfs182 := blk_frozen B180.out 3
    have hns182_0 := NB161_180.out
    have hns182_1 := NB162_180.out
    have hns182_3 := NB185_180.out
    have hns182_4 := NB198_180.out
    have hns182_5 := NB211_180.out
    have hns182_6 := NB224_180.out
    have hms182_0 := NB180_161.out
    have hms182_1 := NB180_162.out
    have hms182_3 := NB180_185.out
    have hms182_4 := NB180_198.out
    have hms182_5 := NB180_211.out
    have hms182_6 := NB180_224.out
    refine skip_ (w1 := ?_) (by rfl) rfl ?_ ?_
    rotate_left
    ·go_simp
     rfl
    refine hK.out _ _ ?_
    clear hK K
    refine done_ (done_of T_.out (by kernel_rfl)) ?_
    try go_wp2
    rw [rounds_succ]
    have H := HC179.out
    clear HC179
    replace H := Option.bind_eq_some_iff.mp H
    obtain ⟨t227, A1830, H⟩ := H
    have A183 := Aside0.mk A1830
    clear A1830
    replace H := Option.bind_eq_some_iff.mp H
    obtain ⟨t228, A1840, H⟩ := H
    have A184 := Aside0.mk A1840
    clear A1840
    have HC185 := Aside0.mk H
    clear H
    try go_wp2
    have n0_ := bf_ B161 NB161_180 ⟨g180, 3, none⟩ (.int .u64 t226) rfl
    have n1_ := bf_ B162 NB162_180 ⟨g180, 3, none⟩ (.int .u64 t226) rfl
    have n2_ : Aside0 ((w181.setCell ⟨g180, 3, none⟩ (.int .u64 t226)).heap[g180]? = some (.cells #[.int .u64 t193, .int .u64 t206, .int .u64 t219, .int .u64 t226] 23 (0, 0))) := ⟨by refine blk_put (cs := #[.int .u64 t193, .int .u64 t206, .int .u64 t219, .int .u64 0]) ?_ 3 _ rfl; exact B180.out⟩
    have n3_ := bf_ B185 NB185_180 ⟨g180, 3, none⟩ (.int .u64 t226) rfl
    have n4_ := bf_ B198 NB198_180 ⟨g180, 3, none⟩ (.int .u64 t226) rfl
    have n5_ := bf_ B211 NB211_180 ⟨g180, 3, none⟩ (.int .u64 t226) rfl
    have n6_ := bf_ B224 NB224_180 ⟨g180, 3, none⟩ (.int .u64 t226) rfl
    have n7_ : Aside0 (Below w.heap.size w (w181.setCell ⟨g180, 3, none⟩ (.int .u64 t226))) := ⟨by repeat (first | (with_reducible first | exact HB.out | apply below_alloc | apply pw_below_drewN | apply below_drew1 | refine below_set ?_ GE161.out | refine below_set ?_ GE162.out | refine below_set ?_ GE180.out | refine below_set ?_ GE185.out | refine below_set ?_ GE198.out | refine below_set ?_ GE211.out | refine below_set ?_ GE224.out) | exact HB.out)⟩
    (try clear B161)
    (try clear B162)
    (try clear B180)
    (try clear B185)
    (try clear B198)
    (try clear B211)
    (try clear B224)
    (try clear HB)
    generalize (w181.setCell ⟨g180, 3, none⟩ (.int .u64 t226)) = w186 at n0_ n1_ n2_ n3_ n4_ n5_ n6_ n7_ ⊢
    have B161 := n0_
    have B162 := n1_
    have B180 := n2_
    have B185 := n3_
    have B198 := n4_
    have B211 := n5_
    have B224 := n6_
    have HB := n7_
    clear n0_ n1_ n2_ n3_ n4_ n5_ n6_ n7_
    have n0_ := Aside0.mk (blk_drew B161.out)
    have n1_ := Aside0.mk (blk_drew B162.out)
    have n2_ := Aside0.mk (blk_drew B180.out)
    have n3_ := Aside0.mk (blk_drew B185.out)
    have n4_ := Aside0.mk (blk_drew B198.out)
    have n5_ := Aside0.mk (blk_drew B211.out)
    have n6_ := Aside0.mk (blk_drew B224.out)
    have n7_ := Aside0.mk (below_drew1 HB.out)
    clear B161
    clear B162
    clear B180
    clear B185
    clear B198
    clear B211
    clear B224
    clear HB
    have B161 := n0_
    have B162 := n1_
    have B180 := n2_
    have B185 := n3_
    have B198 := n4_
    have B211 := n5_
    have B224 := n6_
    have HB := n7_
    clear n0_ n1_ n2_ n3_ n4_ n5_ n6_ n7_
    refine start_ (n := 16) (S := fun w' => w'.cell? ⟨g180, 0, none⟩ = some (.int .u64 t193) ∧ w'.cell? ⟨g180, 1, none⟩ = some (.int .u64 t206) ∧ w'.cell? ⟨g180, 2, none⟩ = some (.int .u64 t219) ∧ w'.cell? ⟨g180, 3, none⟩ = some (.int .u64 t226) ∧ w'.cell? ⟨g224, 0, none⟩ = some (.int .u64 t220) ∧ w'.cell? ⟨g224, 1, none⟩ = some (.int .u64 t221) ∧ w'.cell? ⟨g224, 2, none⟩ = some (.int .u64 t222) ∧ w'.cell? ⟨g224, 3, none⟩ = some (.int .u64 t223) ∧ w'.cell? ⟨g161, 0, none⟩ = some (.int .u64 t173) ∧ w'.cell? ⟨g161, 1, none⟩ = some (.int .u64 t175) ∧ w'.cell? ⟨g161, 2, none⟩ = some (.int .u64 t177) ∧ w'.cell? ⟨g161, 3, none⟩ = some (.int .u64 t179)) (ds := [15]) z15_25_ (by kernel_rfl) rfl rfl ⟨bq_ B180 0, bq_ B180 1, bq_ B180 2, bq_ B180 3, bq_ B224 0, bq_ B224 1, bq_ B224 2, bq_ B224 3, bq_ B161 0, bq_ B161 1, bq_ B161 2, bq_ B161 3⟩ (fun hL => ?_); refine with_tabW attestorref06_Round.tab19 attestorref06_Round.bits19 (fun T_ W_ => ?_)
    generalize w186.drew = w187 at B161 B162 B180 B185 B198 B211 B224 HB hL ⊢
    refine pure_ (i := 0) (N := some 64) (v := ?_) (a' := ?_) z15_26_ rfl rfl (any_of T_.out (by kernel_rfl)) (fun _ _ _ h => h) (Or.inl ⟨by rfl, ?_⟩) ?_ ?_
    rotate_left; · intro w'; go_simp; with_reducible rfl
    rotate_left; · simp only [Act.put, sa_, sb_, sc_, i64_w, i32_w]; rfl
    refine pure_ (i := 1) (N := some 65) (v := ?_) (a' := ?_) z15_27_ rfl rfl (any_of T_.out (by kernel_rfl)) (fun _ _ _ h => h) (Or.inl ⟨by rfl, ?_⟩) ?_ ?_
    rotate_left; · intro w'; go_simp; with_reducible rfl
    rotate_left; · simp only [Act.put, sa_, sb_, sc_, i64_w, i32_w]; rfl
    refine pure_ (i := 2) (N := some 66) (v := ?_) (a' := ?_) z15_28_ rfl rfl (any_of T_.out (by kernel_rfl)) (fun _ _ _ h => h) (Or.inl ⟨by rfl, ?_⟩) ?_ ?_
    rotate_left; · intro w'; go_simp; with_reducible rfl
    rotate_left; · simp only [Act.put, sa_, sb_, sc_, i64_w, i32_w]; rfl
    refine pure_ (i := 3) (N := some 67) (v := ?_) (a' := ?_) z15_29_ rfl rfl (any_of T_.out (by kernel_rfl)) (fun _ _ _ h => h) (Or.inl ⟨by rfl, ?_⟩) ?_ ?_
    rotate_left; · intro w'; go_simp; with_reducible rfl
    rotate_left; · simp only [Act.put, sa_, sb_, sc_, i64_w, i32_w]; rfl
    refine pure_ (i := 5) (N := some 69) (v := ?_) (a' := ?_) z15_30_ rfl rfl (any_of T_.out (by kernel_rfl)) (fun _ _ _ h => h) (Or.inl ⟨by rfl, ?_⟩) ?_ ?_
    rotate_left; · intro w'; go_simp; with_reducible rfl
    rotate_left; · simp only [Act.put, sa_, sb_, sc_, i64_w, i32_w]; rfl
    refine pure_ (i := 6) (N := some 70) (v := ?_) (a' := ?_) z15_31_ rfl rfl (any_of T_.out (by kernel_rfl)) (fun _ _ _ h => h) (Or.inl ⟨by rfl, ?_⟩) ?_ ?_
    rotate_left; · intro w'; go_simp; with_reducible rfl
    rotate_left; · simp only [Act.put, sa_, sb_, sc_, i64_w, i32_w]; rfl
    refine pure_ (i := 7) (N := some 71) (v := ?_) (a' := ?_) z15_32_ rfl rfl (any_of T_.out (by kernel_rfl)) (fun _ _ _ h => h) (Or.inl ⟨by rfl, ?_⟩) ?_ ?_
    rotate_left; · intro w'; go_simp; with_reducible rfl
    rotate_left; · simp only [Act.put, sa_, sb_, sc_, i64_w, i32_w]; rfl
    refine pure_ (i := 9) (N := some 73) (v := ?_) (a' := ?_) z15_33_ rfl rfl (any_of T_.out (by kernel_rfl)) (fun _ _ _ h => h) (Or.inl ⟨by rfl, ?_⟩) ?_ ?_
    rotate_left; · intro w'; go_simp; with_reducible rfl
    rotate_left; · simp only [Act.put, sa_, sb_, sc_, i64_w, i32_w]; rfl
    refine pure_ (i := 10) (N := some 74) (v := ?_) (a' := ?_) z15_34_ rfl rfl (any_of T_.out (by kernel_rfl)) (fun _ _ _ h => h) (Or.inl ⟨by rfl, ?_⟩) ?_ ?_
    rotate_left; · intro w'; go_simp; with_reducible rfl
    rotate_left; · simp only [Act.put, sa_, sb_, sc_, i64_w, i32_w]; rfl
    refine take_ (i := 4) (N := some 68) (v := ?_) (a' := ?_) z15_35_ rfl rfl (take_ofW T_.out W_.out (by kernel_rfl)) (fun _ _ _ h => h) (Or.inl ⟨by rfl, ?_⟩) hL ?_ ?_
    rotate_left
    ·rintro w' ⟨s0, s1, s2, s3, s4, s5, s6, s7, s8, s9, s10, s11⟩
     go_simp
     with_reducible rfl
    rotate_left
    ·simp only [Act.put, sa_, sb_, sc_, i64_w, i32_w]
     rfl
    refine take_ (i := 8) (N := some 72) (v := ?_) (a' := ?_) z15_36_ rfl rfl (take_ofW T_.out W_.out (by kernel_rfl)) (fun _ _ _ h => h) (Or.inl ⟨by rfl, ?_⟩) hL ?_ ?_
    rotate_left
    ·rintro w' ⟨s0, s1, s2, s3, s4, s5, s6, s7, s8, s9, s10, s11⟩
     go_simp
     with_reducible rfl
    rotate_left
    ·simp only [Act.put, sa_, sb_, sc_, i64_w, i32_w]
     rfl
    refine take_ (i := 11) (N := some 75) (v := ?_) (a' := ?_) z15_37_ rfl rfl (take_ofW T_.out W_.out (by kernel_rfl)) (fun _ _ _ h => h) (Or.inl ⟨by rfl, ?_⟩) hL ?_ ?_
    rotate_left
    ·rintro w' ⟨s0, s1, s2, s3, s4, s5, s6, s7, s8, s9, s10, s11⟩
     go_simp
     with_reducible rfl
    rotate_left
    ·simp only [Act.put, sa_, sb_, sc_, i64_w, i32_w]
     rfl
    refine one_ (i := 12) (N := some 76) z15_38_ rfl rfl (one_of T_.out (by kernel_rfl)) (by decide) (fun K hK => ?_)
    refine goes_ Tryd.func40 (by kernel_rfl) rfl #[.int .i64 a0, .int .u64 t221, .int .u64 t175] (by rfl) rfl rfl (by (try simp only [List.map_toArray, List.map_cons, List.map_nil]); first | done | rfl) ?_
    with_reducible refine (attestorref01_Mul.calls a0 t221 t175 t227 _ A183.out).mono ?_
    rintro e w' ⟨rfl, ⟨nd, rfl⟩⟩
    refine ⟨_, rfl, ?_⟩
    (try (rw [drewN_self w187]; generalize q_ : World.drewN w187 _ = w187; replace B161 := ra_ q_ B161; replace B162 := ra_ q_ B162; replace B180 := ra_ q_ B180; replace B185 := ra_ q_ B185; replace B198 := ra_ q_ B198; replace B211 := ra_ q_ B211; replace B224 := ra_ q_ B224; replace HB := rb_ q_ HB; clear q_))
    refine hK.out _ _ ⟨bq_ B180 0, bq_ B180 1, bq_ B180 2, bq_ B180 3, bq_ B224 0, bq_ B224 1, bq_ B224 2, bq_ B224 3, bq_ B161 0, bq_ B161 1, bq_ B161 2, bq_ B161 3⟩ (fun hL => ?_)
    clear hK K
    refine norm_ (a' := ?_) ?_ ?_
    rotate_left
    ·show Act.put _ (some 76) _ = _
     simp only [Act.put, sa_, sb_, sc_, i64_w, i32_w]
     rfl
    refine one_ (i := 13) (N := some 77) z15_39_ rfl rfl (one_of T_.out (by kernel_rfl)) (by decide) (fun K hK => ?_)
    refine goes_ Tryd.func32 (by kernel_rfl) rfl #[.int .i64 a0, .int .u64 t226, .int .u64 t227] (by rfl) rfl rfl (by (try simp only [List.map_toArray, List.map_cons, List.map_nil]); first | done | rfl) ?_
    with_reducible refine (attestorref01_Add.calls a0 t226 t227 t228 _ A184.out).mono ?_
    rintro e w' ⟨rfl, ⟨nd, rfl⟩⟩
    refine ⟨_, rfl, ?_⟩
    (try (rw [drewN_self w187]; generalize q_ : World.drewN w187 _ = w187; replace B161 := ra_ q_ B161; replace B162 := ra_ q_ B162; replace B180 := ra_ q_ B180; replace B185 := ra_ q_ B185; replace B198 := ra_ q_ B198; replace B211 := ra_ q_ B211; replace B224 := ra_ q_ B224; replace HB := rb_ q_ HB; clear q_))
    refine hK.out _ _ ⟨bq_ B180 0, bq_ B180 1, bq_ B180 2, bq_ B180 3, bq_ B224 0, bq_ B224 1, bq_ B224 2, bq_ B224 3, bq_ B161 0, bq_ B161 1, bq_ B161 2, bq_ B161 3⟩ (fun hL => ?_)
    clear hK K
    refine norm_ (a' := ?_) ?_ ?_
    rotate_left
    ·show Act.put _ (some 77) _ = _
     simp only [Act.put, sa_, sb_, sc_, i64_w, i32_w]
     rfl
    refine pure_ (i := 14) (N := some 78) (v := ?_) (a' := ?_) z15_40_ rfl rfl (any_of T_.out (by kernel_rfl)) (fun _ _ _ h => h) (Or.inl ⟨by rfl, ?_⟩) ?_ ?_
    rotate_left; · intro w'; go_simp; with_reducible rfl
    rotate_left; · simp only [Act.put, sa_, sb_, sc_, i64_w, i32_w]; rfl
    refine last_ (i := 15) (N := none) z15_41_ rfl rfl (one_of T_.out (by kernel_rfl)) (by decide) (fun K hK => ?_)
    have hs188 : w187.cell? ⟨g180, 3, none⟩ = some (.int .u64 t226) := bq_ B180 3
    have hfs188 := blk_frozen B180.out 3
    have hns188_0 := NB161_180.out
    have hns188_1 := NB162_180.out
    have hns188_3 := NB185_180.out
    have hns188_4 := NB198_180.out
    have hns188_5 := NB211_180.out
    have hns188_6 := NB224_180.out
    have hms188_0 := NB180_161.out
    have hms188_1 := NB180_162.out
    have hms188_3 := NB180_185.out
    have hms188_4 := NB180_198.out
    have hms188_5 := NB180_211.out
    have hms188_6 := NB180_224.out
    refine skip_ (w1 := ?_) (by rfl) rfl ?_ ?_
    rotate_left
    ·go_simp
     rfl
    refine hK.out _ _ ?_
    clear hK K
    refine done_ (done_of T_.out (by kernel_rfl)) ?_
    try go_wp2
    rw [rounds_succ]
    have H := HC185.out
    clear HC185
    replace H := Option.bind_eq_some_iff.mp H
    obtain ⟨t229, A1890, H⟩ := H
    have A189 := Aside0.mk A1890
    clear A1890
    replace H := Option.bind_eq_some_iff.mp H
    obtain ⟨t230, A1900, H⟩ := H
    have A190 := Aside0.mk A1900
    clear A1900
    have HC191 := Aside0.mk H
    clear H
    try go_wp2
    have n0_ := bf_ B161 NB161_180 ⟨g180, 3, none⟩ (.int .u64 t228) rfl
    have n1_ := bf_ B162 NB162_180 ⟨g180, 3, none⟩ (.int .u64 t228) rfl
    have n2_ : Aside0 ((w187.setCell ⟨g180, 3, none⟩ (.int .u64 t228)).heap[g180]? = some (.cells #[.int .u64 t193, .int .u64 t206, .int .u64 t219, .int .u64 t228] 23 (0, 0))) := ⟨by refine blk_put (cs := #[.int .u64 t193, .int .u64 t206, .int .u64 t219, .int .u64 t226]) ?_ 3 _ rfl; exact B180.out⟩
    have n3_ := bf_ B185 NB185_180 ⟨g180, 3, none⟩ (.int .u64 t228) rfl
    have n4_ := bf_ B198 NB198_180 ⟨g180, 3, none⟩ (.int .u64 t228) rfl
    have n5_ := bf_ B211 NB211_180 ⟨g180, 3, none⟩ (.int .u64 t228) rfl
    have n6_ := bf_ B224 NB224_180 ⟨g180, 3, none⟩ (.int .u64 t228) rfl
    have n7_ : Aside0 (Below w.heap.size w (w187.setCell ⟨g180, 3, none⟩ (.int .u64 t228))) := ⟨by repeat (first | (with_reducible first | exact HB.out | apply below_alloc | apply pw_below_drewN | apply below_drew1 | refine below_set ?_ GE161.out | refine below_set ?_ GE162.out | refine below_set ?_ GE180.out | refine below_set ?_ GE185.out | refine below_set ?_ GE198.out | refine below_set ?_ GE211.out | refine below_set ?_ GE224.out) | exact HB.out)⟩
    (try clear B161)
    (try clear B162)
    (try clear B180)
    (try clear B185)
    (try clear B198)
    (try clear B211)
    (try clear B224)
    (try clear HB)
    generalize (w187.setCell ⟨g180, 3, none⟩ (.int .u64 t228)) = w192 at n0_ n1_ n2_ n3_ n4_ n5_ n6_ n7_ ⊢
    have B161 := n0_
    have B162 := n1_
    have B180 := n2_
    have B185 := n3_
    have B198 := n4_
    have B211 := n5_
    have B224 := n6_
    have HB := n7_
    clear n0_ n1_ n2_ n3_ n4_ n5_ n6_ n7_
    have n0_ := Aside0.mk (blk_drew B161.out)
    have n1_ := Aside0.mk (blk_drew B162.out)
    have n2_ := Aside0.mk (blk_drew B180.out)
    have n3_ := Aside0.mk (blk_drew B185.out)
    have n4_ := Aside0.mk (blk_drew B198.out)
    have n5_ := Aside0.mk (blk_drew B211.out)
    have n6_ := Aside0.mk (blk_drew B224.out)
    have n7_ := Aside0.mk (below_drew1 HB.out)
    clear B161
    clear B162
    clear B180
    clear B185
    clear B198
    clear B211
    clear B224
    clear HB
    have B161 := n0_
    have B162 := n1_
    have B180 := n2_
    have B185 := n3_
    have B198 := n4_
    have B211 := n5_
    have B224 := n6_
    have HB := n7_
    clear n0_ n1_ n2_ n3_ n4_ n5_ n6_ n7_
    refine start_ (n := 16) (S := fun w' => w'.cell? ⟨g180, 0, none⟩ = some (.int .u64 t193) ∧ w'.cell? ⟨g180, 1, none⟩ = some (.int .u64 t206) ∧ w'.cell? ⟨g180, 2, none⟩ = some (.int .u64 t219) ∧ w'.cell? ⟨g180, 3, none⟩ = some (.int .u64 t228) ∧ w'.cell? ⟨g224, 0, none⟩ = some (.int .u64 t220) ∧ w'.cell? ⟨g224, 1, none⟩ = some (.int .u64 t221) ∧ w'.cell? ⟨g224, 2, none⟩ = some (.int .u64 t222) ∧ w'.cell? ⟨g224, 3, none⟩ = some (.int .u64 t223) ∧ w'.cell? ⟨g161, 0, none⟩ = some (.int .u64 t173) ∧ w'.cell? ⟨g161, 1, none⟩ = some (.int .u64 t175) ∧ w'.cell? ⟨g161, 2, none⟩ = some (.int .u64 t177) ∧ w'.cell? ⟨g161, 3, none⟩ = some (.int .u64 t179)) (ds := [15]) z15_25_ (by kernel_rfl) rfl rfl ⟨bq_ B180 0, bq_ B180 1, bq_ B180 2, bq_ B180 3, bq_ B224 0, bq_ B224 1, bq_ B224 2, bq_ B224 3, bq_ B161 0, bq_ B161 1, bq_ B161 2, bq_ B161 3⟩ (fun hL => ?_); refine with_tabW attestorref06_Round.tab19 attestorref06_Round.bits19 (fun T_ W_ => ?_)
    generalize w192.drew = w193 at B161 B162 B180 B185 B198 B211 B224 HB hL ⊢
    refine pure_ (i := 0) (N := some 64) (v := ?_) (a' := ?_) z15_26_ rfl rfl (any_of T_.out (by kernel_rfl)) (fun _ _ _ h => h) (Or.inl ⟨by rfl, ?_⟩) ?_ ?_
    rotate_left; · intro w'; go_simp; with_reducible rfl
    rotate_left; · simp only [Act.put, sa_, sb_, sc_, i64_w, i32_w]; rfl
    refine pure_ (i := 1) (N := some 65) (v := ?_) (a' := ?_) z15_27_ rfl rfl (any_of T_.out (by kernel_rfl)) (fun _ _ _ h => h) (Or.inl ⟨by rfl, ?_⟩) ?_ ?_
    rotate_left; · intro w'; go_simp; with_reducible rfl
    rotate_left; · simp only [Act.put, sa_, sb_, sc_, i64_w, i32_w]; rfl
    refine pure_ (i := 2) (N := some 66) (v := ?_) (a' := ?_) z15_28_ rfl rfl (any_of T_.out (by kernel_rfl)) (fun _ _ _ h => h) (Or.inl ⟨by rfl, ?_⟩) ?_ ?_
    rotate_left; · intro w'; go_simp; with_reducible rfl
    rotate_left; · simp only [Act.put, sa_, sb_, sc_, i64_w, i32_w]; rfl
    refine pure_ (i := 3) (N := some 67) (v := ?_) (a' := ?_) z15_29_ rfl rfl (any_of T_.out (by kernel_rfl)) (fun _ _ _ h => h) (Or.inl ⟨by rfl, ?_⟩) ?_ ?_
    rotate_left; · intro w'; go_simp; with_reducible rfl
    rotate_left; · simp only [Act.put, sa_, sb_, sc_, i64_w, i32_w]; rfl
    refine pure_ (i := 5) (N := some 69) (v := ?_) (a' := ?_) z15_30_ rfl rfl (any_of T_.out (by kernel_rfl)) (fun _ _ _ h => h) (Or.inl ⟨by rfl, ?_⟩) ?_ ?_
    rotate_left; · intro w'; go_simp; with_reducible rfl
    rotate_left; · simp only [Act.put, sa_, sb_, sc_, i64_w, i32_w]; rfl
    refine pure_ (i := 6) (N := some 70) (v := ?_) (a' := ?_) z15_31_ rfl rfl (any_of T_.out (by kernel_rfl)) (fun _ _ _ h => h) (Or.inl ⟨by rfl, ?_⟩) ?_ ?_
    rotate_left; · intro w'; go_simp; with_reducible rfl
    rotate_left; · simp only [Act.put, sa_, sb_, sc_, i64_w, i32_w]; rfl
    refine pure_ (i := 7) (N := some 71) (v := ?_) (a' := ?_) z15_32_ rfl rfl (any_of T_.out (by kernel_rfl)) (fun _ _ _ h => h) (Or.inl ⟨by rfl, ?_⟩) ?_ ?_
    rotate_left; · intro w'; go_simp; with_reducible rfl
    rotate_left; · simp only [Act.put, sa_, sb_, sc_, i64_w, i32_w]; rfl
    refine pure_ (i := 9) (N := some 73) (v := ?_) (a' := ?_) z15_33_ rfl rfl (any_of T_.out (by kernel_rfl)) (fun _ _ _ h => h) (Or.inl ⟨by rfl, ?_⟩) ?_ ?_
    rotate_left; · intro w'; go_simp; with_reducible rfl
    rotate_left; · simp only [Act.put, sa_, sb_, sc_, i64_w, i32_w]; rfl
    refine pure_ (i := 10) (N := some 74) (v := ?_) (a' := ?_) z15_34_ rfl rfl (any_of T_.out (by kernel_rfl)) (fun _ _ _ h => h) (Or.inl ⟨by rfl, ?_⟩) ?_ ?_
    rotate_left; · intro w'; go_simp; with_reducible rfl
    rotate_left; · simp only [Act.put, sa_, sb_, sc_, i64_w, i32_w]; rfl
    refine take_ (i := 4) (N := some 68) (v := ?_) (a' := ?_) z15_35_ rfl rfl (take_ofW T_.out W_.out (by kernel_rfl)) (fun _ _ _ h => h) (Or.inl ⟨by rfl, ?_⟩) hL ?_ ?_
    rotate_left
    ·rintro w' ⟨s0, s1, s2, s3, s4, s5, s6, s7, s8, s9, s10, s11⟩
     go_simp
     with_reducible rfl
    rotate_left
    ·simp only [Act.put, sa_, sb_, sc_, i64_w, i32_w]
     rfl
    refine take_ (i := 8) (N := some 72) (v := ?_) (a' := ?_) z15_36_ rfl rfl (take_ofW T_.out W_.out (by kernel_rfl)) (fun _ _ _ h => h) (Or.inl ⟨by rfl, ?_⟩) hL ?_ ?_
    rotate_left
    ·rintro w' ⟨s0, s1, s2, s3, s4, s5, s6, s7, s8, s9, s10, s11⟩
     go_simp
     with_reducible rfl
    rotate_left
    ·simp only [Act.put, sa_, sb_, sc_, i64_w, i32_w]
     rfl
    refine take_ (i := 11) (N := some 75) (v := ?_) (a' := ?_) z15_37_ rfl rfl (take_ofW T_.out W_.out (by kernel_rfl)) (fun _ _ _ h => h) (Or.inl ⟨by rfl, ?_⟩) hL ?_ ?_
    rotate_left
    ·rintro w' ⟨s0, s1, s2, s3, s4, s5, s6, s7, s8, s9, s10, s11⟩
     go_simp
     with_reducible rfl
    rotate_left
    ·simp only [Act.put, sa_, sb_, sc_, i64_w, i32_w]
     rfl
    refine one_ (i := 12) (N := some 76) z15_38_ rfl rfl (one_of T_.out (by kernel_rfl)) (by decide) (fun K hK => ?_)
    refine goes_ Tryd.func40 (by kernel_rfl) rfl #[.int .i64 a0, .int .u64 t222, .int .u64 t177] (by rfl) rfl rfl (by (try simp only [List.map_toArray, List.map_cons, List.map_nil]); first | done | rfl) ?_
    with_reducible refine (attestorref01_Mul.calls a0 t222 t177 t229 _ A189.out).mono ?_
    rintro e w' ⟨rfl, ⟨nd, rfl⟩⟩
    refine ⟨_, rfl, ?_⟩
    (try (rw [drewN_self w193]; generalize q_ : World.drewN w193 _ = w193; replace B161 := ra_ q_ B161; replace B162 := ra_ q_ B162; replace B180 := ra_ q_ B180; replace B185 := ra_ q_ B185; replace B198 := ra_ q_ B198; replace B211 := ra_ q_ B211; replace B224 := ra_ q_ B224; replace HB := rb_ q_ HB; clear q_))
    refine hK.out _ _ ⟨bq_ B180 0, bq_ B180 1, bq_ B180 2, bq_ B180 3, bq_ B224 0, bq_ B224 1, bq_ B224 2, bq_ B224 3, bq_ B161 0, bq_ B161 1, bq_ B161 2, bq_ B161 3⟩ (fun hL => ?_)
    clear hK K
    refine norm_ (a' := ?_) ?_ ?_
    rotate_left
    ·show Act.put _ (some 76) _ = _
     simp only [Act.put, sa_, sb_, sc_, i64_w, i32_w]
     rfl
    refine one_ (i := 13) (N := some 77) z15_39_ rfl rfl (one_of T_.out (by kernel_rfl)) (by decide) (fun K hK => ?_)
    refine goes_ Tryd.func32 (by kernel_rfl) rfl #[.int .i64 a0, .int .u64 t228, .int .u64 t229] (by rfl) rfl rfl (by (try simp only [List.map_toArray, List.map_cons, List.map_nil]); first | done | rfl) ?_
    with_reducible refine (attestorref01_Add.calls a0 t228 t229 t230 _ A190.out).mono ?_
    rintro e w' ⟨rfl, ⟨nd, rfl⟩⟩
    refine ⟨_, rfl, ?_⟩
    (try (rw [drewN_self w193]; generalize q_ : World.drewN w193 _ = w193; replace B161 := ra_ q_ B161; replace B162 := ra_ q_ B162; replace B180 := ra_ q_ B180; replace B185 := ra_ q_ B185; replace B198 := ra_ q_ B198; replace B211 := ra_ q_ B211; replace B224 := ra_ q_ B224; replace HB := rb_ q_ HB; clear q_))
    refine hK.out _ _ ⟨bq_ B180 0, bq_ B180 1, bq_ B180 2, bq_ B180 3, bq_ B224 0, bq_ B224 1, bq_ B224 2, bq_ B224 3, bq_ B161 0, bq_ B161 1, bq_ B161 2, bq_ B161 3⟩ (fun hL => ?_)
    clear hK K
    refine norm_ (a' := ?_) ?_ ?_
    rotate_left
    ·show Act.put _ (some 77) _ = _
     simp only [Act.put, sa_, sb_, sc_, i64_w, i32_w]
     rfl
    refine pure_ (i := 14) (N := some 78) (v := ?_) (a' := ?_) z15_40_ rfl rfl (any_of T_.out (by kernel_rfl)) (fun _ _ _ h => h) (Or.inl ⟨by rfl, ?_⟩) ?_ ?_
    rotate_left; · intro w'; go_simp; with_reducible rfl
    rotate_left; · simp only [Act.put, sa_, sb_, sc_, i64_w, i32_w]; rfl
    refine last_ (i := 15) (N := none) z15_41_ rfl rfl (one_of T_.out (by kernel_rfl)) (by decide) (fun K hK => ?_)
    have hs194 : w193.cell? ⟨g180, 3, none⟩ = some (.int .u64 t228) := bq_ B180 3
    have hfs194 := blk_frozen B180.out 3
    have hns194_0 := NB161_180.out
    have hns194_1 := NB162_180.out
    have hns194_3 := NB185_180.out
    have hns194_4 := NB198_180.out
    have hns194_5 := NB211_180.out
    have hns194_6 := NB224_180.out
    have hms194_0 := NB180_161.out
    have hms194_1 := NB180_162.out
    have hms194_3 := NB180_185.out
    have hms194_4 := NB180_198.out
    have hms194_5 := NB180_211.out
    have hms194_6 := NB180_224.out
    refine skip_ (w1 := ?_) (by rfl) rfl ?_ ?_
    rotate_left
    ·go_simp
     rfl
    refine hK.out _ _ ?_
    clear hK K
    refine done_ (done_of T_.out (by kernel_rfl)) ?_
    try go_wp2
    rw [rounds_succ]
    have H := HC191.out
    clear HC191
    replace H := Option.bind_eq_some_iff.mp H
    obtain ⟨t231, A1950, H⟩ := H
    have A195 := Aside0.mk A1950
    clear A1950
    replace H := Option.bind_eq_some_iff.mp H
    obtain ⟨t232, A1960, H⟩ := H
    have A196 := Aside0.mk A1960
    clear A1960
    have HC197 := Aside0.mk H
    clear H
    try go_wp2
    have n0_ := bf_ B161 NB161_180 ⟨g180, 3, none⟩ (.int .u64 t230) rfl
    have n1_ := bf_ B162 NB162_180 ⟨g180, 3, none⟩ (.int .u64 t230) rfl
    have n2_ : Aside0 ((w193.setCell ⟨g180, 3, none⟩ (.int .u64 t230)).heap[g180]? = some (.cells #[.int .u64 t193, .int .u64 t206, .int .u64 t219, .int .u64 t230] 23 (0, 0))) := ⟨by refine blk_put (cs := #[.int .u64 t193, .int .u64 t206, .int .u64 t219, .int .u64 t228]) ?_ 3 _ rfl; exact B180.out⟩
    have n3_ := bf_ B185 NB185_180 ⟨g180, 3, none⟩ (.int .u64 t230) rfl
    have n4_ := bf_ B198 NB198_180 ⟨g180, 3, none⟩ (.int .u64 t230) rfl
    have n5_ := bf_ B211 NB211_180 ⟨g180, 3, none⟩ (.int .u64 t230) rfl
    have n6_ := bf_ B224 NB224_180 ⟨g180, 3, none⟩ (.int .u64 t230) rfl
    have n7_ : Aside0 (Below w.heap.size w (w193.setCell ⟨g180, 3, none⟩ (.int .u64 t230))) := ⟨by repeat (first | (with_reducible first | exact HB.out | apply below_alloc | apply pw_below_drewN | apply below_drew1 | refine below_set ?_ GE161.out | refine below_set ?_ GE162.out | refine below_set ?_ GE180.out | refine below_set ?_ GE185.out | refine below_set ?_ GE198.out | refine below_set ?_ GE211.out | refine below_set ?_ GE224.out) | exact HB.out)⟩
    (try clear B161)
    (try clear B162)
    (try clear B180)
    (try clear B185)
    (try clear B198)
    (try clear B211)
    (try clear B224)
    (try clear HB)
    generalize (w193.setCell ⟨g180, 3, none⟩ (.int .u64 t230)) = w198 at n0_ n1_ n2_ n3_ n4_ n5_ n6_ n7_ ⊢
    have B161 := n0_
    have B162 := n1_
    have B180 := n2_
    have B185 := n3_
    have B198 := n4_
    have B211 := n5_
    have B224 := n6_
    have HB := n7_
    clear n0_ n1_ n2_ n3_ n4_ n5_ n6_ n7_
    have n0_ := Aside0.mk (blk_drew B161.out)
    have n1_ := Aside0.mk (blk_drew B162.out)
    have n2_ := Aside0.mk (blk_drew B180.out)
    have n3_ := Aside0.mk (blk_drew B185.out)
    have n4_ := Aside0.mk (blk_drew B198.out)
    have n5_ := Aside0.mk (blk_drew B211.out)
    have n6_ := Aside0.mk (blk_drew B224.out)
    have n7_ := Aside0.mk (below_drew1 HB.out)
    clear B161
    clear B162
    clear B180
    clear B185
    clear B198
    clear B211
    clear B224
    clear HB
    have B161 := n0_
    have B162 := n1_
    have B180 := n2_
    have B185 := n3_
    have B198 := n4_
    have B211 := n5_
    have B224 := n6_
    have HB := n7_
    clear n0_ n1_ n2_ n3_ n4_ n5_ n6_ n7_
    refine start_ (n := 16) (S := fun w' => w'.cell? ⟨g180, 0, none⟩ = some (.int .u64 t193) ∧ w'.cell? ⟨g180, 1, none⟩ = some (.int .u64 t206) ∧ w'.cell? ⟨g180, 2, none⟩ = some (.int .u64 t219) ∧ w'.cell? ⟨g180, 3, none⟩ = some (.int .u64 t230) ∧ w'.cell? ⟨g224, 0, none⟩ = some (.int .u64 t220) ∧ w'.cell? ⟨g224, 1, none⟩ = some (.int .u64 t221) ∧ w'.cell? ⟨g224, 2, none⟩ = some (.int .u64 t222) ∧ w'.cell? ⟨g224, 3, none⟩ = some (.int .u64 t223) ∧ w'.cell? ⟨g161, 0, none⟩ = some (.int .u64 t173) ∧ w'.cell? ⟨g161, 1, none⟩ = some (.int .u64 t175) ∧ w'.cell? ⟨g161, 2, none⟩ = some (.int .u64 t177) ∧ w'.cell? ⟨g161, 3, none⟩ = some (.int .u64 t179)) (ds := [15]) z15_25_ (by kernel_rfl) rfl rfl ⟨bq_ B180 0, bq_ B180 1, bq_ B180 2, bq_ B180 3, bq_ B224 0, bq_ B224 1, bq_ B224 2, bq_ B224 3, bq_ B161 0, bq_ B161 1, bq_ B161 2, bq_ B161 3⟩ (fun hL => ?_); refine with_tabW attestorref06_Round.tab19 attestorref06_Round.bits19 (fun T_ W_ => ?_)
    generalize w198.drew = w199 at B161 B162 B180 B185 B198 B211 B224 HB hL ⊢
    refine pure_ (i := 0) (N := some 64) (v := ?_) (a' := ?_) z15_26_ rfl rfl (any_of T_.out (by kernel_rfl)) (fun _ _ _ h => h) (Or.inl ⟨by rfl, ?_⟩) ?_ ?_
    rotate_left; · intro w'; go_simp; with_reducible rfl
    rotate_left; · simp only [Act.put, sa_, sb_, sc_, i64_w, i32_w]; rfl
    refine pure_ (i := 1) (N := some 65) (v := ?_) (a' := ?_) z15_27_ rfl rfl (any_of T_.out (by kernel_rfl)) (fun _ _ _ h => h) (Or.inl ⟨by rfl, ?_⟩) ?_ ?_
    rotate_left; · intro w'; go_simp; with_reducible rfl
    rotate_left; · simp only [Act.put, sa_, sb_, sc_, i64_w, i32_w]; rfl
    refine pure_ (i := 2) (N := some 66) (v := ?_) (a' := ?_) z15_28_ rfl rfl (any_of T_.out (by kernel_rfl)) (fun _ _ _ h => h) (Or.inl ⟨by rfl, ?_⟩) ?_ ?_
    rotate_left; · intro w'; go_simp; with_reducible rfl
    rotate_left; · simp only [Act.put, sa_, sb_, sc_, i64_w, i32_w]; rfl
    refine pure_ (i := 3) (N := some 67) (v := ?_) (a' := ?_) z15_29_ rfl rfl (any_of T_.out (by kernel_rfl)) (fun _ _ _ h => h) (Or.inl ⟨by rfl, ?_⟩) ?_ ?_
    rotate_left; · intro w'; go_simp; with_reducible rfl
    rotate_left; · simp only [Act.put, sa_, sb_, sc_, i64_w, i32_w]; rfl
    refine pure_ (i := 5) (N := some 69) (v := ?_) (a' := ?_) z15_30_ rfl rfl (any_of T_.out (by kernel_rfl)) (fun _ _ _ h => h) (Or.inl ⟨by rfl, ?_⟩) ?_ ?_
    rotate_left; · intro w'; go_simp; with_reducible rfl
    rotate_left; · simp only [Act.put, sa_, sb_, sc_, i64_w, i32_w]; rfl
    refine pure_ (i := 6) (N := some 70) (v := ?_) (a' := ?_) z15_31_ rfl rfl (any_of T_.out (by kernel_rfl)) (fun _ _ _ h => h) (Or.inl ⟨by rfl, ?_⟩) ?_ ?_
    rotate_left; · intro w'; go_simp; with_reducible rfl
    rotate_left; · simp only [Act.put, sa_, sb_, sc_, i64_w, i32_w]; rfl
    refine pure_ (i := 7) (N := some 71) (v := ?_) (a' := ?_) z15_32_ rfl rfl (any_of T_.out (by kernel_rfl)) (fun _ _ _ h => h) (Or.inl ⟨by rfl, ?_⟩) ?_ ?_
    rotate_left; · intro w'; go_simp; with_reducible rfl
    rotate_left; · simp only [Act.put, sa_, sb_, sc_, i64_w, i32_w]; rfl
    refine pure_ (i := 9) (N := some 73) (v := ?_) (a' := ?_) z15_33_ rfl rfl (any_of T_.out (by kernel_rfl)) (fun _ _ _ h => h) (Or.inl ⟨by rfl, ?_⟩) ?_ ?_
    rotate_left; · intro w'; go_simp; with_reducible rfl
    rotate_left; · simp only [Act.put, sa_, sb_, sc_, i64_w, i32_w]; rfl
    refine pure_ (i := 10) (N := some 74) (v := ?_) (a' := ?_) z15_34_ rfl rfl (any_of T_.out (by kernel_rfl)) (fun _ _ _ h => h) (Or.inl ⟨by rfl, ?_⟩) ?_ ?_
    rotate_left; · intro w'; go_simp; with_reducible rfl
    rotate_left; · simp only [Act.put, sa_, sb_, sc_, i64_w, i32_w]; rfl
    refine take_ (i := 4) (N := some 68) (v := ?_) (a' := ?_) z15_35_ rfl rfl (take_ofW T_.out W_.out (by kernel_rfl)) (fun _ _ _ h => h) (Or.inl ⟨by rfl, ?_⟩) hL ?_ ?_
    rotate_left
    ·rintro w' ⟨s0, s1, s2, s3, s4, s5, s6, s7, s8, s9, s10, s11⟩
     go_simp
     with_reducible rfl
    rotate_left
    ·simp only [Act.put, sa_, sb_, sc_, i64_w, i32_w]
     rfl
    refine take_ (i := 8) (N := some 72) (v := ?_) (a' := ?_) z15_36_ rfl rfl (take_ofW T_.out W_.out (by kernel_rfl)) (fun _ _ _ h => h) (Or.inl ⟨by rfl, ?_⟩) hL ?_ ?_
    rotate_left
    ·rintro w' ⟨s0, s1, s2, s3, s4, s5, s6, s7, s8, s9, s10, s11⟩
     go_simp
     with_reducible rfl
    rotate_left
    ·simp only [Act.put, sa_, sb_, sc_, i64_w, i32_w]
     rfl
    refine take_ (i := 11) (N := some 75) (v := ?_) (a' := ?_) z15_37_ rfl rfl (take_ofW T_.out W_.out (by kernel_rfl)) (fun _ _ _ h => h) (Or.inl ⟨by rfl, ?_⟩) hL ?_ ?_
    rotate_left
    ·rintro w' ⟨s0, s1, s2, s3, s4, s5, s6, s7, s8, s9, s10, s11⟩
     go_simp
     with_reducible rfl
    rotate_left
    ·simp only [Act.put, sa_, sb_, sc_, i64_w, i32_w]
     rfl
    refine one_ (i := 12) (N := some 76) z15_38_ rfl rfl (one_of T_.out (by kernel_rfl)) (by decide) (fun K hK => ?_)
    refine goes_ Tryd.func40 (by kernel_rfl) rfl #[.int .i64 a0, .int .u64 t223, .int .u64 t179] (by rfl) rfl rfl (by (try simp only [List.map_toArray, List.map_cons, List.map_nil]); first | done | rfl) ?_
    with_reducible refine (attestorref01_Mul.calls a0 t223 t179 t231 _ A195.out).mono ?_
    rintro e w' ⟨rfl, ⟨nd, rfl⟩⟩
    refine ⟨_, rfl, ?_⟩
    (try (rw [drewN_self w199]; generalize q_ : World.drewN w199 _ = w199; replace B161 := ra_ q_ B161; replace B162 := ra_ q_ B162; replace B180 := ra_ q_ B180; replace B185 := ra_ q_ B185; replace B198 := ra_ q_ B198; replace B211 := ra_ q_ B211; replace B224 := ra_ q_ B224; replace HB := rb_ q_ HB; clear q_))
    refine hK.out _ _ ⟨bq_ B180 0, bq_ B180 1, bq_ B180 2, bq_ B180 3, bq_ B224 0, bq_ B224 1, bq_ B224 2, bq_ B224 3, bq_ B161 0, bq_ B161 1, bq_ B161 2, bq_ B161 3⟩ (fun hL => ?_)
    clear hK K
    refine norm_ (a' := ?_) ?_ ?_
    rotate_left
    ·show Act.put _ (some 76) _ = _
     simp only [Act.put, sa_, sb_, sc_, i64_w, i32_w]
     rfl
    refine one_ (i := 13) (N := some 77) z15_39_ rfl rfl (one_of T_.out (by kernel_rfl)) (by decide) (fun K hK => ?_)
    refine goes_ Tryd.func32 (by kernel_rfl) rfl #[.int .i64 a0, .int .u64 t230, .int .u64 t231] (by rfl) rfl rfl (by (try simp only [List.map_toArray, List.map_cons, List.map_nil]); first | done | rfl) ?_
    with_reducible refine (attestorref01_Add.calls a0 t230 t231 t232 _ A196.out).mono ?_
    rintro e w' ⟨rfl, ⟨nd, rfl⟩⟩
    refine ⟨_, rfl, ?_⟩
    (try (rw [drewN_self w199]; generalize q_ : World.drewN w199 _ = w199; replace B161 := ra_ q_ B161; replace B162 := ra_ q_ B162; replace B180 := ra_ q_ B180; replace B185 := ra_ q_ B185; replace B198 := ra_ q_ B198; replace B211 := ra_ q_ B211; replace B224 := ra_ q_ B224; replace HB := rb_ q_ HB; clear q_))
    refine hK.out _ _ ⟨bq_ B180 0, bq_ B180 1, bq_ B180 2, bq_ B180 3, bq_ B224 0, bq_ B224 1, bq_ B224 2, bq_ B224 3, bq_ B161 0, bq_ B161 1, bq_ B161 2, bq_ B161 3⟩ (fun hL => ?_)
    clear hK K
    refine norm_ (a' := ?_) ?_ ?_
    rotate_left
    ·show Act.put _ (some 77) _ = _
     simp only [Act.put, sa_, sb_, sc_, i64_w, i32_w]
     rfl
    refine pure_ (i := 14) (N := some 78) (v := ?_) (a' := ?_) z15_40_ rfl rfl (any_of T_.out (by kernel_rfl)) (fun _ _ _ h => h) (Or.inl ⟨by rfl, ?_⟩) ?_ ?_
    rotate_left; · intro w'; go_simp; with_reducible rfl
    rotate_left; · simp only [Act.put, sa_, sb_, sc_, i64_w, i32_w]; rfl
    refine last_ (i := 15) (N := none) z15_41_ rfl rfl (one_of T_.out (by kernel_rfl)) (by decide) (fun K hK => ?_)
    have hs200 : w199.cell? ⟨g180, 3, none⟩ = some (.int .u64 t230) := bq_ B180 3
    have hfs200 := blk_frozen B180.out 3
    have hns200_0 := NB161_180.out
    have hns200_1 := NB162_180.out
    have hns200_3 := NB185_180.out
    have hns200_4 := NB198_180.out
    have hns200_5 := NB211_180.out
    have hns200_6 := NB224_180.out
    have hms200_0 := NB180_161.out
    have hms200_1 := NB180_162.out
    have hms200_3 := NB180_185.out
    have hms200_4 := NB180_198.out
    have hms200_5 := NB180_211.out
    have hms200_6 := NB180_224.out
    refine skip_ (w1 := ?_) (by rfl) rfl ?_ ?_
    rotate_left
    ·go_simp
     rfl
    refine hK.out _ _ ?_
    clear hK K
    refine done_ (done_of T_.out (by kernel_rfl)) ?_
    try go_wp2
    rw [rounds_succ]
    have H := HC197.out
    clear HC197
    have HC201 := Aside0.mk H
    clear H
    go_wp2
    rw [rounds_succ]
    have H := HC201.out
    clear HC201
    simp only [Option.some.injEq, Prod.mk.injEq] at H
    obtain ⟨rfl, rfl, rfl, rfl⟩ := H
    have hnb202 := NB180_161.out
    have hnc202 := NB161_180.out
    have hnb203 := NB180_162.out
    have hnc203 := NB162_180.out
    have hnb204 := NB180_185.out
    have hnc204 := NB185_180.out
    have hnb205 := NB180_198.out
    have hnc205 := NB198_180.out
    have hnb206 := NB180_211.out
    have hnc206 := NB211_180.out
    have hnb207 := NB180_224.out
    have hnc207 := NB224_180.out
    have hcz208_0 : w199.cell? ⟨g180, 0, none⟩ = some (.int .u64 t193) := bq_ B180 0
    have hcz208_1 : w199.cell? ⟨g180, 1, none⟩ = some (.int .u64 t206) := bq_ B180 1
    have hcz208_2 : w199.cell? ⟨g180, 2, none⟩ = some (.int .u64 t219) := bq_ B180 2
    have hcz208_3 : w199.cell? ⟨g180, 3, none⟩ = some (.int .u64 t230) := bq_ B180 3
    have hfz208_0 := blk_frozen B180.out 0
    have hfz208_1 := blk_frozen B180.out 1
    have hfz208_2 := blk_frozen B180.out 2
    have hfz208_3 := blk_frozen B180.out 3
    have hnb209 := NB162_161.out
    have hnc209 := NB161_162.out
    have hnb210 := NB162_185.out
    have hnc210 := NB185_162.out
    have hnb211 := NB162_198.out
    have hnc211 := NB198_162.out
    have hnb212 := NB162_211.out
    have hnc212 := NB211_162.out
    have hnb213 := NB162_224.out
    have hnc213 := NB224_162.out
    have hcz214_0 : w199.cell? ⟨g162, 0, none⟩ = some (.int .u64 0) := bq_ B162 0
    have hcz214_1 : w199.cell? ⟨g162, 1, none⟩ = some (.int .u64 0) := bq_ B162 1
    have hcz214_2 : w199.cell? ⟨g162, 2, none⟩ = some (.int .u64 0) := bq_ B162 2
    have hcz214_3 : w199.cell? ⟨g162, 3, none⟩ = some (.int .u64 0) := bq_ B162 3
    have hfz214_0 := blk_frozen B162.out 0
    have hfz214_1 := blk_frozen B162.out 1
    have hfz214_2 := blk_frozen B162.out 2
    have hfz214_3 := blk_frozen B162.out 3
    go_wp2
    refine bodyPost_ret (results_cell_row rfl _ _ g162 23 #[.int .u64 t193, .int .u64 t206, .int .u64 t219, .int .u64 t232] (0, 0) _ rfl (by refine blk_put (cs := #[.int .u64 t193, .int .u64 t206, .int .u64 t219, .int .u64 0]) ?_ 3 _ rfl; refine blk_put (cs := #[.int .u64 t193, .int .u64 t206, .int .u64 0, .int .u64 0]) ?_ 2 _ rfl; refine blk_put (cs := #[.int .u64 t193, .int .u64 0, .int .u64 0, .int .u64 0]) ?_ 1 _ rfl; refine blk_put (cs := #[.int .u64 0, .int .u64 0, .int .u64 0, .int .u64 0]) ?_ 0 _ rfl; refine blk_far ?_ NB162_180.out _; exact B162.out) Tryd.underlying23 rfl (by kernel_rfl)) rfl ?_
    exact ⟨by first | rfl | (simp [errW_none, errW_some] <;> rfl) | (simp [*, errW_none, errW_some] <;> rfl), by repeat (first | (with_reducible first | exact HB.out | apply below_alloc | apply pw_below_drewN | apply below_drew1 | refine below_set ?_ GE161.out | refine below_set ?_ GE162.out | refine below_set ?_ GE180.out | refine below_set ?_ GE185.out | refine below_set ?_ GE198.out | refine below_set ?_ GE211.out | refine below_set ?_ GE224.out) | exact HB.out)⟩

end Go.Proofs.YtjfekjblnoagkaaDoor.Q
end
