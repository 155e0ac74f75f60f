/- The contracts of field.Root and field.Order. -/
import Derived.Test.YtdojfdjokggaiaaDoorHGl
import Derived.Test.YtdojfdjokggaiaaDoorQf31
namespace Go.Proofs.YtdojfdjokggaiaaDoor.Q
open Go.RowKit Go.Proofs.YtdojfdjokggaiaaDoorW.PrintWords Go.Proofs.YtdojfdjokggaiaaDoorW.PrintLast Go.Proofs.YtdojfdjokggaiaaDoorW.PrintMore
set_option linter.unusedVariables false
set_option linter.unusedSimpArgs false

def field_Root.f (k : Nat) (f j : Int) : Option Int := if fp f = 0 ∨ j < 0 ∨ ft f < j then some 0 else field_Pow.f k f (fg f) ((fp f - 1) / 2 ^ j.toNat)
theorem field_Root.mono (f j : Int) (k : Nat) : LeO (field_Root.f k f j) (field_Root.f (k + 1) f j) := by
  unfold field_Root.f
  by_cases h : fp f = 0 ∨ j < 0 ∨ ft f < j
  · rw [if_pos h, if_pos h]; exact LeO.refl _
  · rw [if_neg h, if_neg h]; exact field_Pow.mono _ _ _ _
theorem ft_le (f : Int) : ft f ≤ 23 := by
  unfold ft
  repeat' split
  all_goals decide
theorem fp_cases (f : Int) : fp f = 97 ∨ fp f = 257 ∨ fp f = 12289 ∨ fp f = 998244353 ∨ fp f = 0 := by
  unfold fp
  repeat' split
  all_goals simp
set_option maxHeartbeats 1000000 in
set_option maxRecDepth 100000 in
theorem field_Root.calls (k : Nat) (f j r : Int) (w : World) (hrG : GL w) (h : field_Root.f k f j = some r) :
    Calls Tryd.prog 12 #[.int .i64 f, .int .i64 j] w fun e w' => e = .returned (.int .u64 r) ∧ Below w.heap.size w w' := by
  have hu := Tryd.underlying50
  have HG := Aside0.mk hrG
  have H := Aside0.mk h
  clear hrG h
  by_cases c1 : fp f = 0
  · have d1 : (fp f == 0) = true := by simp [c1]
    go_enter Tryd.func12, Tryd.ntmps12
    go_wp2_with (go_at_call 54; refine (of_calls f _ HG.out).mono ?_; rintro e w' ⟨A, c, rfl, _, _, hb⟩)
    go_ret
    have hr := H.out
    unfold field_Root.f at hr
    rw [if_pos (Or.inl c1)] at hr
    obtain rfl := Option.some.inj hr
    exact ⟨rfl, below_alloc hb _⟩
  · have d1 : (fp f == 0) = false := by simp [c1]
    by_cases c2 : j < 0
    · have d2 : decide (j < 0) = true := decide_eq_true c2
      go_enter Tryd.func12, Tryd.ntmps12
      go_wp2_with (go_at_call 54; refine (of_calls f _ HG.out).mono ?_; rintro e w' ⟨A, c, rfl, _, _, hb⟩)
      go_ret
      have hr := H.out
      unfold field_Root.f at hr
      rw [if_pos (Or.inr (Or.inl c2))] at hr
      obtain rfl := Option.some.inj hr
      exact ⟨rfl, below_alloc hb _⟩
    · have d2 : decide (j < 0) = false := decide_eq_false c2
      by_cases c3 : ft f < j
      · have d3 : decide (ft f < j) = true := decide_eq_true c3
        go_enter Tryd.func12, Tryd.ntmps12
        go_wp2_with (go_at_call 54; refine (of_calls f _ HG.out).mono ?_; rintro e w' ⟨A, c, rfl, _, _, hb⟩)
        go_ret
        have hr := H.out
        unfold field_Root.f at hr
        rw [if_pos (Or.inr (Or.inr c3))] at hr
        obtain rfl := Option.some.inj hr
        exact ⟨rfl, below_alloc hb _⟩
      · have d3 : decide (ft f < j) = false := decide_eq_false c3
        have e1 : IntKind.u64.wrap (fp f - 1) = fp f - 1 := by rcases fp_cases f with h | h | h | h | h <;> first | exact absurd h c1 | (rw [h]; decide)
        have hr := H.out
        unfold field_Root.f at hr
        rw [if_neg (by rintro (h | h | h) <;> contradiction)] at hr
        have em : min j.toNat 64 = j.toNat := by have h23 := ft_le f; omega
        rw [← em] at hr
        clear em
        have HR := Aside0.mk hr
        clear hr H
        go_enter Tryd.func12, Tryd.ntmps12
        go_wp2_with (go_at_call 54; refine (of_calls f _ HG.out).mono ?_; rintro e w' ⟨A, c, rfl, _, _, hb⟩)
        have q1 : (w'.alloc (Obj.cells #[Value.int IntKind.u64 (fp f), Value.int IntKind.u64 (fg f), Value.int IntKind.i64 (ft f), Value.int IntKind.i64 (fe f), Value.slice A (fl f).length c] 50)).drew.cell? ⟨w'.heap.size, 1, none⟩ = some (.int .u64 (fg f)) := by simp [go_sem]
        have q0 : (w'.alloc (Obj.cells #[Value.int IntKind.u64 (fp f), Value.int IntKind.u64 (fg f), Value.int IntKind.i64 (ft f), Value.int IntKind.i64 (fe f), Value.slice A (fl f).length c] 50)).drew.cell? ⟨w'.heap.size, 0, none⟩ = some (.int .u64 (fp f)) := by simp [go_sem]
        have hg1 : GL (w'.alloc (Obj.cells #[Value.int IntKind.u64 (fp f), Value.int IntKind.u64 (fg f), Value.int IntKind.i64 (ft f), Value.int IntKind.i64 (fe f), Value.slice A (fl f).length c] 50)).drew := ((HG.out.below hb).alloc _).drew
        have hb1 : Below w.heap.size w (w'.alloc (Obj.cells #[Value.int IntKind.u64 (fp f), Value.int IntKind.u64 (fg f), Value.int IntKind.i64 (ft f), Value.int IntKind.i64 (fe f), Value.slice A (fl f).length c] 50)).drew := below_drew (below_alloc hb _)
        have hs1 : w.heap.size ≤ (w'.alloc (Obj.cells #[Value.int IntKind.u64 (fp f), Value.int IntKind.u64 (fg f), Value.int IntKind.i64 (ft f), Value.int IntKind.i64 (fe f), Value.slice A (fl f).length c] 50)).drew.heap.size := hb1.size
        generalize w'.alloc (Obj.cells #[Value.int IntKind.u64 (fp f), Value.int IntKind.u64 (fg f), Value.int IntKind.i64 (ft f), Value.int IntKind.i64 (fe f), Value.slice A (fl f).length c] 50) = W at *
        generalize w'.heap.size = O at *
        have HG1 := Aside0.mk hg1
        have HB1 := Aside0.mk hb1
        have HS1 := Aside0.mk hs1
        generalize fp f = p at *
        generalize fg f = g at *
        clear hg1 hb1 hs1 hb
        refine start_ (n := 10) (S := fun w' => w'.cell? ⟨O, 1, none⟩ = some (.int .u64 g) ∧ w'.cell? ⟨O, 0, none⟩ = some (.int .u64 p)) (ds := [8]) #[false, false, false, false, false, false, false, false, false, false] (by kernel_rfl) rfl rfl ⟨q1, q0⟩ (fun hHeld => ?_)
        refine pure_ (i := 0) (N := some 21) (v := ?_) (a' := ?_) #[true, false, false, false, false, false, false, false, false, false] rfl rfl (by kernel_rfl) (fun _ _ _ h => h) (Or.inl ⟨by rfl, ?_⟩) ?_ ?_
        rotate_left
        · intro w'
          go_simp
          with_reducible rfl
        rotate_left
        · simp only [Act.put, List.setIfInBounds_toArray, List.set_cons_zero, List.set_cons_succ, i64_w, i32_w]
          rfl
        refine pure_ (i := 1) (N := some 22) (v := ?_) (a' := ?_) #[true, true, false, false, false, false, false, false, false, false] rfl rfl (by kernel_rfl) (fun _ _ _ h => h) (Or.inl ⟨by rfl, ?_⟩) ?_ ?_
        rotate_left
        · intro w'
          go_simp
          with_reducible rfl
        rotate_left
        · simp only [Act.put, List.setIfInBounds_toArray, List.set_cons_zero, List.set_cons_succ, i64_w, i32_w]
          rfl
        refine pure_ (i := 3) (N := some 24) (v := ?_) (a' := ?_) #[true, true, false, true, false, false, false, false, false, false] rfl rfl (by kernel_rfl) (fun _ _ _ h => h) (Or.inl ⟨by rfl, ?_⟩) ?_ ?_
        rotate_left
        · intro w'
          go_simp
          with_reducible rfl
        rotate_left
        · simp only [Act.put, List.setIfInBounds_toArray, List.set_cons_zero, List.set_cons_succ, i64_w, i32_w]
          rfl
        refine pure_ (i := 6) (N := some 27) (v := ?_) (a' := ?_) #[true, true, false, true, false, false, true, false, false, false] rfl rfl (by kernel_rfl) (fun _ _ _ h => h) (Or.inl ⟨by rfl, ?_⟩) ?_ ?_
        rotate_left
        · intro w'
          go_simp
          with_reducible rfl
        rotate_left
        · simp only [Act.put, List.setIfInBounds_toArray, List.set_cons_zero, List.set_cons_succ, i64_w, i32_w]
          rfl
        refine take_ (i := 2) (N := some 23) (v := ?_) (a' := ?_) #[true, true, true, true, false, false, true, false, false, false] rfl rfl (by kernel_rfl) (fun _ _ _ h => h) (Or.inl ⟨by rfl, ?_⟩) hHeld ?_ ?_
        rotate_left
        · rintro w' ⟨s0, s1⟩
          go_simp
          with_reducible rfl
        rotate_left
        · simp only [Act.put, List.setIfInBounds_toArray, List.set_cons_zero, List.set_cons_succ, i64_w, i32_w]
          rfl
        refine take_ (i := 4) (N := some 25) (v := ?_) (a' := ?_) #[true, true, true, true, true, false, true, false, false, false] rfl rfl (by kernel_rfl) (fun _ _ _ h => h) (Or.inl ⟨by rfl, ?_⟩) hHeld ?_ ?_
        rotate_left
        · rintro w' ⟨s0, s1⟩
          go_simp
          with_reducible rfl
        rotate_left
        · simp only [Act.put, List.setIfInBounds_toArray, List.set_cons_zero, List.set_cons_succ, i64_w, i32_w]
          rfl
        refine pure_ (i := 5) (N := some 26) (v := ?_) (a' := ?_) #[true, true, true, true, true, true, true, false, false, false] rfl rfl (by kernel_rfl) (fun _ _ _ h => h) (Or.inl ⟨by rfl, ?_⟩) ?_ ?_
        rotate_left
        · intro w'
          go_simp
          with_reducible rfl
        rotate_left
        · simp only [Act.put, List.setIfInBounds_toArray, List.set_cons_zero, List.set_cons_succ, i64_w, i32_w]
          rfl
        refine pure_ (i := 7) (N := some 28) (v := ?_) (a' := ?_) #[true, true, true, true, true, true, true, true, false, false] rfl rfl (by kernel_rfl) (fun _ _ _ h => h) (Or.inl ⟨by rfl, ?_⟩) ?_ ?_
        rotate_left
        · intro w'
          go_simp
          with_reducible rfl
        rotate_left
        · simp only [Act.put, List.setIfInBounds_toArray, List.set_cons_zero, List.set_cons_succ, i64_w, i32_w]
          rfl
        refine last_ (i := 8) (N := some 29) #[true, true, true, true, true, true, true, true, true, false] rfl rfl (by kernel_rfl) (by decide) (fun K hK => ?_)
        refine goes_ Tryd.func31 (by kernel_rfl) rfl #[.int .i64 f, .int .u64 g, .int .u64 ((p - 1) / 2 ^ min j.toNat 64)] (by rfl) rfl rfl (by simp only [List.map_toArray, List.map_cons, List.map_nil]; rfl) ?_
        with_reducible refine (field_Pow.calls k f g _ _ _ HG1.out HR.out).mono ?_
        rintro e w3 ⟨rfl, hb3⟩
        refine ⟨_, rfl, ?_⟩
        refine hK.out _ _ ?_
        clear hK K
        refine norm_ (a' := ?_) ?_ ?_
        rotate_left
        · show Act.put _ (some 29) _ = _
          simp only [Act.put, List.setIfInBounds_toArray, List.set_cons_zero, List.set_cons_succ, i64_w, i32_w]
          rfl
        refine pure_ (i := 9) (N := some 4) (v := ?_) (a' := ?_) #[true, true, true, true, true, true, true, true, true, true] rfl rfl (by kernel_rfl) (fun _ _ _ h => h) (Or.inl ⟨by rfl, ?_⟩) ?_ ?_
        rotate_left
        · intro w'
          go_simp
          with_reducible rfl
        rotate_left
        · simp only [Act.put, List.setIfInBounds_toArray, List.set_cons_zero, List.set_cons_succ, i64_w, i32_w]
          rfl
        refine done_ (by kernel_rfl) ?_
        go_wp2
        go_ret
        exact ⟨rfl, Below.trans HB1.out (hb3.mono HS1.out)⟩
end Go.Proofs.YtdojfdjokggaiaaDoor.Q

namespace Go.Proofs.YtdojfdjokggaiaaDoor.Q
open Go.RowKit Go.Proofs.YtdojfdjokggaiaaDoorW.PrintWords Go.Proofs.YtdojfdjokggaiaaDoorW.PrintLast Go.Proofs.YtdojfdjokggaiaaDoorW.PrintMore
set_option linter.unusedVariables false
set_option linter.unusedSimpArgs false

def field_Order.l1 (K : Nat) (f a : Int) : Nat → Int → Int → Option Int
  | 0, _, _ => none
  | d + 1, i, n => if i < ((fl f).length : Int) then (field_Pow.f K f a (n.tdiv (rd (fl f) i))).bind fun t => if t = 1 then field_Order.l1 K f a d (wrap64 (i + 1)) (n.tdiv (rd (fl f) i)) else field_Order.l1 K f a d (wrap64 (i + 1)) n else some n
def field_Order.l0 (K : Nat) (f a : Int) : Nat → Int → Int → Option Int
  | 0, _, _ => none
  | d + 1, i, n => if i < ft f then (field_Pow.f K f a (n.tdiv 2)).bind fun t => if t = 1 then field_Order.l0 K f a d (wrap64 (i + 1)) (n.tdiv 2) else field_Order.l0 K f a d (wrap64 (i + 1)) n else field_Order.l1 K f a K 0 n
def field_Order.f (k : Nat) (f a : Int) : Option Int := if fp f = 0 then some 0 else if a.tmod (fp f) = 0 then some 0 else field_Order.l0 k f a k 0 (fp f - 1)
theorem field_Order.mono1 (K : Nat) (f a : Int) : ∀ d i n, LeO (field_Order.l1 K f a d i n) (field_Order.l1 (K + 1) f a (d + 1) i n)
  | 0, _, _ => LeO.none _
  | d + 1, i, n => by
    unfold field_Order.l1
    exact LeO.ite (LeO.bind (field_Pow.mono _ _ _ _) fun t => LeO.ite (field_Order.mono1 K f a d _ _) (field_Order.mono1 K f a d _ _)) (LeO.refl _)
theorem field_Order.mono0 (K : Nat) (f a : Int) : ∀ d i n, LeO (field_Order.l0 K f a d i n) (field_Order.l0 (K + 1) f a (d + 1) i n)
  | 0, _, _ => LeO.none _
  | d + 1, i, n => by
    unfold field_Order.l0
    exact LeO.ite (LeO.bind (field_Pow.mono _ _ _ _) fun t => LeO.ite (field_Order.mono0 K f a d _ _) (field_Order.mono0 K f a d _ _)) (field_Order.mono1 K f a K _ _)
theorem field_Order.mono (f a : Int) (k : Nat) : LeO (field_Order.f k f a) (field_Order.f (k + 1) f a) := by
  unfold field_Order.f
  exact LeO.ite (LeO.refl _) (LeO.ite (LeO.refl _) (field_Order.mono0 _ _ _ _ _ _))
theorem wrap_tdiv {n q : Int} (h0 : 0 ≤ n) (h1 : n < 18446744073709551616) (hq : 0 < q) : (0 ≤ n.tdiv q ∧ n.tdiv q < 18446744073709551616) ∧ IntKind.u64.wrap (n.tdiv q) = n.tdiv q := by
  have e : n.tdiv q = n / q := Int.tdiv_eq_ediv_of_nonneg h0
  have a0 : 0 ≤ n / q := Int.ediv_nonneg h0 (Int.le_of_lt hq)
  have a1 : n / q ≤ n := Int.ediv_le_self _ h0
  rw [e]
  refine ⟨⟨a0, by omega⟩, ?_⟩
  simp [IntKind.wrap, IntKind.bits, IntKind.signed]
  try omega
theorem fl_len (f : Int) : ((fl f).length : Int) ≤ 2 := by
  unfold fl
  repeat' split
  all_goals decide
theorem fl_rd (f i : Int) (h0 : 0 ≤ i) (h1 : i < ((fl f).length : Int)) : 0 < rd (fl f) i := by
  have h2 := fl_len f
  have hi : i = 0 ∨ i = 1 := by omega
  rcases hi with rfl | rfl
  all_goals
    unfold fl at h1 ⊢
    repeat' split at h1
    all_goals simp_all [rd]
set_option maxHeartbeats 1000000 in
set_option maxRecDepth 100000 in
theorem field_Order.calls (k : Nat) (f a r : Int) (w : World) (hrG : GL w) (h : field_Order.f k f a = some r) :
    Calls Tryd.prog 14 #[.int .i64 f, .int .u64 a] w fun e w' => e = .returned (.int .u64 r) ∧ Below w.heap.size w w' := by
  have hu := Tryd.underlying50
  have HG := Aside0.mk hrG
  have H := Aside0.mk h
  clear hrG h
  by_cases c1 : fp f = 0
  · have d1 : (fp f == 0) = true := by simp [c1]
    go_enter Tryd.func14, Tryd.ntmps14
    go_wp2_with (go_at_call 54; refine (of_calls f _ HG.out).mono ?_; rintro e w' ⟨A, c, rfl, _, _, hb⟩)
    go_ret
    have hr := H.out
    unfold field_Order.f at hr
    rw [if_pos c1] at hr
    obtain rfl := Option.some.inj hr
    exact ⟨rfl, below_alloc hb _⟩
  · have d1 : (fp f == 0) = false := by simp [c1]
    by_cases c2 : a.tmod (fp f) = 0
    · have d2 : (a.tmod (fp f) == 0) = true := by simp [c2]
      go_enter Tryd.func14, Tryd.ntmps14
      go_wp2_with (go_at_call 54; refine (of_calls f _ HG.out).mono ?_; rintro e w' ⟨A, c, rfl, _, _, hb⟩)
      go_ret
      have hr := H.out
      unfold field_Order.f at hr
      rw [if_neg c1, if_pos c2] at hr
      obtain rfl := Option.some.inj hr
      exact ⟨rfl, below_alloc hb _⟩
    · have d2 : (a.tmod (fp f) == 0) = false := by simp [c2]
      have e1 : IntKind.u64.wrap (fp f - 1) = fp f - 1 := by rcases fp_cases f with h | h | h | h | h <;> first | exact absurd h c1 | (rw [h]; decide)
      have hr := H.out
      unfold field_Order.f at hr
      rw [if_neg c1, if_neg c2] at hr
      have HR := Aside0.mk hr
      clear hr H
      go_enter Tryd.func14, Tryd.ntmps14
      go_wp2_with (go_at_call 54; refine (of_calls f _ HG.out).mono ?_; rintro e w' ⟨A, c, rfl, hcap, hC, hb⟩)
      have q4 : (w'.alloc (Obj.cells #[Value.int IntKind.u64 (fp f), Value.int IntKind.u64 (fg f), Value.int IntKind.i64 (ft f), Value.int IntKind.i64 (fe f), Value.slice A (fl f).length c] 50)).cell? ⟨w'.heap.size, 4, none⟩ = some (.slice A (fl f).length c) := by simp [go_sem]
      have hg1 : GL (w'.alloc (Obj.cells #[Value.int IntKind.u64 (fp f), Value.int IntKind.u64 (fg f), Value.int IntKind.i64 (ft f), Value.int IntKind.i64 (fe f), Value.slice A (fl f).length c] 50)) := (HG.out.below hb).alloc _
      have hC1 : Kd.C (Kd.int .u64) (w'.alloc (Obj.cells #[Value.int IntKind.u64 (fp f), Value.int IntKind.u64 (fg f), Value.int IntKind.i64 (ft f), Value.int IntKind.i64 (fe f), Value.slice A (fl f).length c] 50)) A (fl f).length (fl f) := Kd.C_below hC (below_alloc (Below.refl _ _) _)
      have hb1 : Below w.heap.size w (w'.alloc (Obj.cells #[Value.int IntKind.u64 (fp f), Value.int IntKind.u64 (fg f), Value.int IntKind.i64 (ft f), Value.int IntKind.i64 (fe f), Value.slice A (fl f).length c] 50)) := below_alloc hb _
      generalize w'.alloc (Obj.cells #[Value.int IntKind.u64 (fp f), Value.int IntKind.u64 (fg f), Value.int IntKind.i64 (ft f), Value.int IntKind.i64 (fe f), Value.slice A (fl f).length c] 50) = W at *
      generalize w'.heap.size = O at *
      have HG1 := Aside0.mk hg1
      have HB1 := Aside0.mk hb1
      have HC1 := Aside0.mk hC1
      have Q4 := Aside0.mk q4
      clear hg1 hb1 hb hC1 q4 hC HG
      have hn0 : 0 ≤ fp f - 1 ∧ fp f - 1 < 18446744073709551616 := by rcases fp_cases f with h | h | h | h | h <;> first | exact absurd h c1 | (rw [h]; decide)
      have HN0 := Aside0.mk hn0
      clear hn0
      go_loopg [6, 26] k (fun kq v6 v26 w' => ∃ (n i : Int), v6 = .int .u64 n ∧ v26 = .int .i64 i ∧ Aside0 (field_Order.l0 k f a kq i n = some r) ∧ Aside0 (kq ≤ k) ∧ Aside0 (0 ≤ n ∧ n < 18446744073709551616) ∧ Aside0 (Below W.heap.size W w'))
      case atStart => exact ⟨_, _, rfl, rfl, HR, ⟨Nat.le_refl _⟩, HN0, ⟨Below.refl _ _⟩⟩
      case round =>
        clear HR HN0
        obtain ⟨n, i, rfl, rfl, HA, HK, HN, HB⟩ := hrel
        have hw := wrap_tdiv HN.out.1 HN.out.2 (show (0 : Int) < 2 by decide)
        have HN2 := Aside0.mk hw.1
        replace hw := hw.2
        cases gk with
        | zero => exact absurd HA.out (by simp [field_Order.l0])
        | succ k1 =>
          have H := HA.out
          clear HA
          simp only [field_Order.l0] at H
          by_cases c3 : i < ft f
          · rw [if_pos c3] at H
            have c3b : decide (i < ft f) = true := decide_eq_true c3
            clear c3
            replace H := Option.bind_eq_some_iff.mp H
            obtain ⟨t, A80, H⟩ := H
            have A8 := Aside0.mk A80
            clear A80
            by_cases c4 : t = 1
            · have c4b : (t == 1) = true := beq_iff_eq.mpr c4
              rw [if_pos c4] at H
              have H' := Aside0.mk H
              clear H c4
              go_wp2_with (go_at_call 31; with_reducible refine (field_Pow.calls k f a _ _ _ (HG1.out.below HB.out) A8.out).mono ?_; rintro e w3 ⟨rfl, hb3⟩)
              go_roundg k1
              case measure => have := HK.out; omega
              case rel => exact ⟨_, _, rfl, rfl, H', ⟨by have := HK.out; omega⟩, HN2, ⟨HB.out.trans (hb3.mono HB.out.size)⟩⟩
            · have c4b : (t == 1) = false := beq_eq_false_iff_ne.mpr c4
              rw [if_neg c4] at H
              have H' := Aside0.mk H
              clear H c4
              go_wp2_with (go_at_call 31; with_reducible refine (field_Pow.calls k f a _ _ _ (HG1.out.below HB.out) A8.out).mono ?_; rintro e w3 ⟨rfl, hb3⟩)
              go_roundg k1
              case measure => have := HK.out; omega
              case rel => exact ⟨_, _, rfl, rfl, H', ⟨by have := HK.out; omega⟩, HN, ⟨HB.out.trans (hb3.mono HB.out.size)⟩⟩
          · rw [if_neg c3] at H
            have c3b : decide (i < ft f) = false := decide_eq_false c3
            clear c3 hw
            have H' := Aside0.mk H
            clear H
            have q4 := pw_cell_below HB.out Q4.out
            go_wp2
            clear q4
            go_loopg [6, 40] k (fun kq v6 v40 w' => ∃ (n i : Int), v6 = .int .u64 n ∧ v40 = .int .i64 i ∧ Aside0 (field_Order.l1 k f a kq i n = some r) ∧ Aside0 (kq ≤ k) ∧ Aside0 (0 ≤ n ∧ n < 18446744073709551616) ∧ Aside0 (0 ≤ i) ∧ Aside0 (Below W.heap.size W w'))
            case atStart => exact ⟨_, _, rfl, rfl, H', ⟨Nat.le_refl _⟩, HN, ⟨by decide⟩, HB⟩
            case round =>
              clear H' HN HB HN2 HK
              obtain ⟨n, i, rfl, rfl, HA, HK, HN, HI, HB⟩ := hrel
              cases gk with
              | zero => exact absurd HA.out (by simp [field_Order.l1])
              | succ k2 =>
                have H := HA.out
                clear HA
                simp only [field_Order.l1] at H
                by_cases c3 : i < ((fl f).length : Int)
                · rw [if_pos c3] at H
                  have c3b : decide (i < ((fl f).length : Int)) = true := decide_eq_true c3
                  have c3c : decide (0 ≤ i) = true := decide_eq_true HI.out
                  have hq := fl_rd f i HI.out c3
                  have hq0 : ¬ rd (fl f) i = 0 := by omega
                  have hw := wrap_tdiv HN.out.1 HN.out.2 hq
                  have HN2 := Aside0.mk hw.1
                  replace hw := hw.2
                  obtain ⟨ad, ead, hx⟩ := Kd.at_int HC1.out i HI.out c3
                  cases ead
                  replace hx := (HB.out.cell (World.block_lt_of_cell? W _ hx)).trans hx
                  have HI2 : Aside0 (0 ≤ wrap64 (i + 1)) := ⟨by have h9 : ((fl f).length : Int) ≤ 2 := fl_len f; have h8 := HI.out; unfold wrap64; omega⟩
                  have p0 : (0 ≤ i) = True := eq_true HI.out
                  have p1 : (i < ((fl f).length : Int)) = True := eq_true c3
                  clear c3 hq
                  replace H := Option.bind_eq_some_iff.mp H
                  obtain ⟨t, A80, H⟩ := H
                  have A8 := Aside0.mk A80
                  clear A80
                  by_cases c4 : t = 1
                  · have c4b : (t == 1) = true := beq_iff_eq.mpr c4
                    rw [if_pos c4] at H
                    have H' := Aside0.mk H
                    clear H c4
                    go_wp2_with (go_at_call 31; with_reducible refine (field_Pow.calls k f a _ _ _ (HG1.out.below HB.out) A8.out).mono ?_; rintro e w3 ⟨rfl, hb3⟩)
                    go_roundg k2
                    case measure => have := HK.out; omega
                    case rel => exact ⟨_, _, rfl, rfl, H', ⟨by have := HK.out; omega⟩, HN2, HI2, ⟨HB.out.trans (hb3.mono HB.out.size)⟩⟩
                  · have c4b : (t == 1) = false := beq_eq_false_iff_ne.mpr c4
                    rw [if_neg c4] at H
                    have H' := Aside0.mk H
                    clear H c4
                    go_wp2_with (go_at_call 31; with_reducible refine (field_Pow.calls k f a _ _ _ (HG1.out.below HB.out) A8.out).mono ?_; rintro e w3 ⟨rfl, hb3⟩)
                    go_roundg k2
                    case measure => have := HK.out; omega
                    case rel => exact ⟨_, _, rfl, rfl, H', ⟨by have := HK.out; omega⟩, HN, HI2, ⟨HB.out.trans (hb3.mono HB.out.size)⟩⟩
                · rw [if_neg c3] at H
                  have c3b : decide (i < ((fl f).length : Int)) = false := decide_eq_false c3
                  clear c3
                  obtain rfl := Option.some.inj H
                  go_wp2
                  go_ret
                  exact ⟨rfl, HB1.out.trans (HB.out.mono HB1.out.size)⟩
end Go.Proofs.YtdojfdjokggaiaaDoor.Q
