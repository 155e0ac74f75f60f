/- What the listed variables of the program hold, as facts on a world that stay while only new memory is made: the numbers of the four fields; and the contracts of the functions that read them: of, P, Generator, Exponent, Twos, Of. -/
import Derived.Test.YtjfekjblnoagkaaDoorQ0
namespace Go.Proofs.YtjfekjblnoagkaaDoor.Q
open Go.RowKit Go.Proofs.YtjfekjblnoagkaaDoorW.PrintWords Go.Proofs.YtjfekjblnoagkaaDoorW.PrintLast Go.Proofs.YtjfekjblnoagkaaDoorW.PrintMore

/-- The numbers of the fields: P, generator, twos, exponent, the odd primes of P - 1. -/
def fp (f : Int) : Int := if f = 0 then 97 else if f = 1 then 257 else if f = 2 then 12289 else if f = 3 then 998244353 else 0
def fg (f : Int) : Int := if f = 0 then 5 else if f = 1 then 3 else if f = 2 then 11 else if f = 3 then 3 else 0
def ft (f : Int) : Int := if f = 0 then 5 else if f = 1 then 8 else if f = 2 then 12 else if f = 3 then 23 else 0
def fe (f : Int) : Int := if f = 0 then 5 else if f = 1 then 3 else if f = 2 then 5 else if f = 3 then 3 else 0
def fl (f : Int) : List Int := if f = 0 then [3] else if f = 1 then [] else if f = 2 then [3] else if f = 3 then [7, 17] else []
/-- The cells of the variable 'fields'. -/
structure GL (w : World) : Prop where
  c0 : ∀ f : Nat, f < 4 → w.cell? ⟨1, 5 * f, none⟩ = some (.int .u64 (fp f))
  c1 : ∀ f : Nat, f < 4 → w.cell? ⟨1, 5 * f + 1, none⟩ = some (.int .u64 (fg f))
  c2 : ∀ f : Nat, f < 4 → w.cell? ⟨1, 5 * f + 2, none⟩ = some (.int .i64 (ft f))
  c3 : ∀ f : Nat, f < 4 → w.cell? ⟨1, 5 * f + 3, none⟩ = some (.int .i64 (fe f))
  c4 : ∀ f : Nat, f < 4 → ∃ A c, w.cell? ⟨1, 5 * f + 4, none⟩ = some (.slice A (fl f).length c) ∧ (fl f).length ≤ c ∧ Kd.C (Kd.int .u64) w A (fl f).length (fl f)
theorem GL.below {w w1 : World} (h : GL w) (hb : Below w.heap.size w w1) : GL w1 :=
  ⟨fun f hf => pw_cell_below hb (h.c0 f hf), fun f hf => pw_cell_below hb (h.c1 f hf), fun f hf => pw_cell_below hb (h.c2 f hf), fun f hf => pw_cell_below hb (h.c3 f hf), fun f hf => by
    obtain ⟨A, c, e, hl, hC⟩ := h.c4 f hf
    exact ⟨A, c, pw_cell_below hb e, hl, Kd.C_below hC hb⟩⟩
theorem GL.alloc {w : World} (h : GL w) (o : Obj) : GL (w.alloc o) := h.below (below_alloc (Below.refl _ _) o)
theorem GL.drewN {w : World} (h : GL w) (n : Nat) : GL (w.drewN n) := h.below (pw_below_drewN (Below.refl _ _) n)
theorem GL.drew {w : World} (h : GL w) : GL w.drew := h.below (below_drew (Below.refl _ _))
end Go.Proofs.YtjfekjblnoagkaaDoor.Q

namespace Go.Proofs.YtjfekjblnoagkaaDoor.Q
open Go.RowKit Go.Proofs.YtjfekjblnoagkaaDoorW.PrintWords Go.Proofs.YtjfekjblnoagkaaDoorW.PrintLast Go.Proofs.YtjfekjblnoagkaaDoorW.PrintMore
set_option linter.unusedVariables false
set_option linter.unusedSimpArgs false

theorem valid_in (f : Int) (w : World) (h0 : 0 ≤ f) (h1 : f < 4) : Calls Tryd.prog 41 #[.int .i64 f] w fun e w' => e = .returned (.bool true) ∧ w = w' := by
  have c1 : decide (0 ≤ f) = true := decide_eq_true h0
  have c2 : decide (f < 4) = true := decide_eq_true h1
  go_enter Tryd.func41, Tryd.ntmps41
  go_wp2
  go_ret
  exact ⟨rfl, rfl⟩
theorem valid_out (f : Int) (w : World) (h : f < 0 ∨ 4 ≤ f) : Calls Tryd.prog 41 #[.int .i64 f] w fun e w' => e = .returned (.bool false) ∧ w = w' := by
  rcases h with h | h
  · have c1 : decide (0 ≤ f) = false := decide_eq_false (by omega)
    go_enter Tryd.func41, Tryd.ntmps41
    go_wp2
    go_ret
    exact ⟨rfl, rfl⟩
  · have c1 : decide (0 ≤ f) = true := decide_eq_true (by omega)
    have c2 : decide (f < 4) = false := decide_eq_false (by omega)
    go_enter Tryd.func41, Tryd.ntmps41
    go_wp2
    go_ret
    exact ⟨rfl, rfl⟩
/-- What 'of' hands back. -/
def OfSays (f : Int) (w : World) (e : Ending) (w' : World) : Prop :=
  ∃ A c, e = .returned (.agg #[.int .u64 (fp f), .int .u64 (fg f), .int .i64 (ft f), .int .i64 (fe f), .slice A (fl f).length c]) ∧ (fl f).length ≤ c ∧ Kd.C (Kd.int .u64) w' A (fl f).length (fl f) ∧ Below w.heap.size w w'
set_option maxHeartbeats 1000000 in
set_option maxRecDepth 100000 in
theorem of_out (f : Int) (w : World) (h : f < 0 ∨ 4 ≤ f) : Calls Tryd.prog 49 #[.int .i64 f] w (OfSays f w) := by
  have hu := Tryd.underlying54
  have hz : OfSays f w (.returned (.agg #[.int .u64 0, .int .u64 0, .int .i64 0, .int .i64 0, .slice none 0 0])) ((w.alloc (.cells #[.int .u64 0, .int .u64 0, .int .i64 0, .int .i64 0, .slice none 0 0] 54))) := by
    have h0 : f ≠ 0 ∧ f ≠ 1 ∧ f ≠ 2 ∧ f ≠ 3 := by omega
    refine ⟨none, 0, ?_, ?_, ?_, below_alloc (Below.refl _ _) _⟩
    · simp [fp, fg, ft, fe, fl, h0]
    · simp [fl, h0]
    · simp only [fl, h0, if_false]
      exact Kd.C_nil _ _
  have HZ := Aside0.mk hz
  clear hz
  go_enter Tryd.func49, Tryd.ntmps49
  go_wp2_with (go_at_call 41; refine (valid_out f _ h).mono ?_; rintro e w' ⟨rfl, rfl⟩)
  exact bodyPost_ret (by simp [results, Tryd.results49, go_sem, hu]) rfl HZ.out
set_option maxHeartbeats 1000000 in
set_option maxRecDepth 100000 in
theorem of_lit (f : Nat) (w : World) (o : Nat) (ho : 5 * f = o) (h1 : f < 4) (A : Option Addr) (c n : Nat) (a0 a1 a2 a3 : Int)
    (e0 : w.cell? ⟨1, o, none⟩ = some (.int .u64 a0)) (e1 : w.cell? ⟨1, o + 1, none⟩ = some (.int .u64 a1)) (e2 : w.cell? ⟨1, o + 2, none⟩ = some (.int .i64 a2))
    (e3 : w.cell? ⟨1, o + 3, none⟩ = some (.int .i64 a3)) (e4 : w.cell? ⟨1, o + 4, none⟩ = some (.slice A n c)) :
    Calls Tryd.prog 49 #[.int .i64 f] w fun e w' => e = .returned (.agg #[.int .u64 a0, .int .u64 a1, .int .i64 a2, .int .i64 a3, .slice A n c]) ∧ Below w.heap.size w w' := by
  have hu := Tryd.underlying54
  have hu2 := Tryd.underlying60
  have g0 := fun O => pw_cell_below (below_alloc (Below.refl _ w) O) e0
  have g1 := fun O => pw_cell_below (below_alloc (Below.refl _ w) O) e1
  have g2 := fun O => pw_cell_below (below_alloc (Below.refl _ w) O) e2
  have g3 := fun O => pw_cell_below (below_alloc (Below.refl _ w) O) e3
  have g4 := fun O => pw_cell_below (below_alloc (Below.refl _ w) O) e4
  clear e0 e1 e2 e3 e4
  obtain ⟨h, hh⟩ | ⟨h, hh⟩ | ⟨h, hh⟩ | ⟨h, hh⟩ : (f = 0 ∧ o = 0) ∨ (f = 1 ∧ o = 5) ∨ (f = 2 ∧ o = 10) ∨ (f = 3 ∧ o = 15) := by omega
  all_goals
    subst h; subst hh; clear ho h1
    go_enter Tryd.func49, Tryd.ntmps49
    go_wp2_with (go_at_call 41; refine (valid_in _ _ (by decide) (by decide)).mono ?_; rintro e w' ⟨rfl, rfl⟩)
    exact bodyPost_ret (v := .agg #[.int .u64 a0, .int .u64 a1, .int .i64 a2, .int .i64 a3, .slice A n c]) (by simp [results, Tryd.results49, go_sem, hu]) rfl ⟨rfl, by repeat (first | exact Below.refl _ _ | apply below_alloc | refine below_set ?_ (Nat.le_refl _))⟩
theorem of_calls (f : Int) (w : World) (hG : GL w) : Calls Tryd.prog 49 #[.int .i64 f] w (OfSays f w) := by
  by_cases h : f < 0 ∨ 4 ≤ f
  · exact of_out f w h
  · obtain ⟨n, rfl⟩ := Int.eq_ofNat_of_zero_le (by omega : 0 ≤ f)
    have h1 : n < 4 := by omega
    obtain ⟨A, c, e4, hl, hC⟩ := hG.c4 n h1
    refine (of_lit n w _ rfl h1 A c _ _ _ _ _ (hG.c0 n h1) (hG.c1 n h1) (hG.c2 n h1) (hG.c3 n h1) e4).mono fun e w' ⟨he, hb⟩ => ?_
    exact ⟨A, c, he, hl, Kd.C_below hC hb, hb⟩
end Go.Proofs.YtjfekjblnoagkaaDoor.Q

namespace Go.Proofs.YtjfekjblnoagkaaDoor.Q
open Go.RowKit Go.Proofs.YtjfekjblnoagkaaDoorW.PrintWords Go.Proofs.YtjfekjblnoagkaaDoorW.PrintLast Go.Proofs.YtjfekjblnoagkaaDoorW.PrintMore
set_option linter.unusedVariables false
set_option linter.unusedSimpArgs false

def field_P.f (f : Int) : Option Int := some (fp f)
set_option maxHeartbeats 1000000 in
set_option maxRecDepth 100000 in
theorem field_P.calls (f : Int) (r : Int) (w : World) (hrG : GL w) (h : field_P.f f = some r) : Calls Tryd.prog 43 #[.int .i64 f] w fun e w' => e = .returned (.int .u64 r) ∧ Below w.heap.size w w' := by
  obtain rfl := Option.some.inj h
  clear h
  have hu := Tryd.underlying54
  have hfl : ∀ (x0 x1 x2 x3 : Int) (x4 : Value) (W : World), (Instr.field 54 (.agg #[.int .u64 x0, .int .u64 x1, .int .i64 x2, .int .i64 x3, x4]) 0).run Tryd.prog W = .ok (.int .u64 x0) W := fun x0 x1 x2 x3 x4 W => by kernel_rfl
  have HG := Aside0.mk hrG
  clear hrG
  go_enter Tryd.func43, Tryd.ntmps43
  go_wp2_with (go_at_call 49; refine (of_calls f _ HG.out).mono ?_; rintro e w' ⟨A, c, rfl, _, _, hb⟩)
  go_ret
  exact ⟨rfl, by first | assumption | exact hb⟩

def field_Generator.f (f : Int) : Option Int := some (fg f)
set_option maxHeartbeats 1000000 in
set_option maxRecDepth 100000 in
theorem field_Generator.calls (f : Int) (r : Int) (w : World) (hrG : GL w) (h : field_Generator.f f = some r) : Calls Tryd.prog 30 #[.int .i64 f] w fun e w' => e = .returned (.int .u64 r) ∧ Below w.heap.size w w' := by
  obtain rfl := Option.some.inj h
  clear h
  have hu := Tryd.underlying54
  have hfl : ∀ (x0 x1 x2 x3 : Int) (x4 : Value) (W : World), (Instr.field 54 (.agg #[.int .u64 x0, .int .u64 x1, .int .i64 x2, .int .i64 x3, x4]) 1).run Tryd.prog W = .ok (.int .u64 x1) W := fun x0 x1 x2 x3 x4 W => by kernel_rfl
  have HG := Aside0.mk hrG
  clear hrG
  go_enter Tryd.func30, Tryd.ntmps30
  go_wp2_with (go_at_call 49; refine (of_calls f _ HG.out).mono ?_; rintro e w' ⟨A, c, rfl, _, _, hb⟩)
  go_ret
  exact ⟨rfl, by first | assumption | exact hb⟩

def field_Exponent.f (f : Int) : Option Int := some (fe f)
set_option maxHeartbeats 1000000 in
set_option maxRecDepth 100000 in
theorem field_Exponent.calls (f : Int) (r : Int) (w : World) (hrG : GL w) (h : field_Exponent.f f = some r) : Calls Tryd.prog 50 #[.int .i64 f] w fun e w' => e = .returned (.int .i64 r) ∧ Below w.heap.size w w' := by
  obtain rfl := Option.some.inj h
  clear h
  have hu := Tryd.underlying54
  have hfl : ∀ (x0 x1 x2 x3 : Int) (x4 : Value) (W : World), (Instr.field 54 (.agg #[.int .u64 x0, .int .u64 x1, .int .i64 x2, .int .i64 x3, x4]) 3).run Tryd.prog W = .ok (.int .i64 x3) W := fun x0 x1 x2 x3 x4 W => by kernel_rfl
  have HG := Aside0.mk hrG
  clear hrG
  go_enter Tryd.func50, Tryd.ntmps50
  go_wp2_with (go_at_call 49; refine (of_calls f _ HG.out).mono ?_; rintro e w' ⟨A, c, rfl, _, _, hb⟩)
  go_ret
  exact ⟨rfl, by first | assumption | exact hb⟩
end Go.Proofs.YtjfekjblnoagkaaDoor.Q
