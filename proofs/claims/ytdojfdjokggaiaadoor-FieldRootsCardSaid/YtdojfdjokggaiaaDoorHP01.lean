/- The contracts of field.P, Generator, Exponent, Twos: a part of what 'of' hands back. -/
import Derived.Test.YtdojfdjokggaiaaDoorHOf
namespace Go.Proofs.YtdojfdjokggaiaaDoor.Q
open Go.RowKit Go.Proofs.YtdojfdjokggaiaaDoorW.PrintWords Go.Proofs.YtdojfdjokggaiaaDoorW.PrintLast Go.Proofs.YtdojfdjokggaiaaDoorW.PrintMore
set_option linter.unusedVariables false
set_option linter.unusedSimpArgs false

def field_P.f (f : Int) : Option Int := some (fp f)
set_option maxHeartbeats 1000000 in
set_option maxRecDepth 100000 in
theorem field_P.calls (f : Int) (r : Int) (w : World) (hrG : GL w) (h : field_P.f f = some r) : Calls Tryd.prog 24 #[.int .i64 f] w fun e w' => e = .returned (.int .u64 r) ∧ Below w.heap.size w w' := by
  obtain rfl := Option.some.inj h
  clear h
  have hu := Tryd.underlying50
  have hfl : ∀ (x0 x1 x2 x3 : Int) (x4 : Value) (W : World), (Instr.field 50 (.agg #[.int .u64 x0, .int .u64 x1, .int .i64 x2, .int .i64 x3, x4]) 0).run Tryd.prog W = .ok (.int .u64 x0) W := fun x0 x1 x2 x3 x4 W => by kernel_rfl
  have HG := Aside0.mk hrG
  clear hrG
  go_enter Tryd.func24, Tryd.ntmps24
  go_wp2_with (go_at_call 54; refine (of_calls f _ HG.out).mono ?_; rintro e w' ⟨A, c, rfl, _, _, hb⟩)
  go_ret
  exact ⟨rfl, by first | assumption | exact hb⟩

def field_Generator.f (f : Int) : Option Int := some (fg f)
set_option maxHeartbeats 1000000 in
set_option maxRecDepth 100000 in
theorem field_Generator.calls (f : Int) (r : Int) (w : World) (hrG : GL w) (h : field_Generator.f f = some r) : Calls Tryd.prog 34 #[.int .i64 f] w fun e w' => e = .returned (.int .u64 r) ∧ Below w.heap.size w w' := by
  obtain rfl := Option.some.inj h
  clear h
  have hu := Tryd.underlying50
  have hfl : ∀ (x0 x1 x2 x3 : Int) (x4 : Value) (W : World), (Instr.field 50 (.agg #[.int .u64 x0, .int .u64 x1, .int .i64 x2, .int .i64 x3, x4]) 1).run Tryd.prog W = .ok (.int .u64 x1) W := fun x0 x1 x2 x3 x4 W => by kernel_rfl
  have HG := Aside0.mk hrG
  clear hrG
  go_enter Tryd.func34, Tryd.ntmps34
  go_wp2_with (go_at_call 54; refine (of_calls f _ HG.out).mono ?_; rintro e w' ⟨A, c, rfl, _, _, hb⟩)
  go_ret
  exact ⟨rfl, by first | assumption | exact hb⟩

def field_Exponent.f (f : Int) : Option Int := some (fe f)
set_option maxHeartbeats 1000000 in
set_option maxRecDepth 100000 in
theorem field_Exponent.calls (f : Int) (r : Int) (w : World) (hrG : GL w) (h : field_Exponent.f f = some r) : Calls Tryd.prog 32 #[.int .i64 f] w fun e w' => e = .returned (.int .i64 r) ∧ Below w.heap.size w w' := by
  obtain rfl := Option.some.inj h
  clear h
  have hu := Tryd.underlying50
  have hfl : ∀ (x0 x1 x2 x3 : Int) (x4 : Value) (W : World), (Instr.field 50 (.agg #[.int .u64 x0, .int .u64 x1, .int .i64 x2, .int .i64 x3, x4]) 3).run Tryd.prog W = .ok (.int .i64 x3) W := fun x0 x1 x2 x3 x4 W => by kernel_rfl
  have HG := Aside0.mk hrG
  clear hrG
  go_enter Tryd.func32, Tryd.ntmps32
  go_wp2_with (go_at_call 54; refine (of_calls f _ HG.out).mono ?_; rintro e w' ⟨A, c, rfl, _, _, hb⟩)
  go_ret
  exact ⟨rfl, by first | assumption | exact hb⟩

def field_Twos.f (f : Int) : Option Int := some (ft f)
set_option maxHeartbeats 1000000 in
set_option maxRecDepth 100000 in
theorem field_Twos.calls (f : Int) (r : Int) (w : World) (hrG : GL w) (h : field_Twos.f f = some r) : Calls Tryd.prog 33 #[.int .i64 f] w fun e w' => e = .returned (.int .i64 r) ∧ Below w.heap.size w w' := by
  obtain rfl := Option.some.inj h
  clear h
  have hu := Tryd.underlying50
  have hfl : ∀ (x0 x1 x2 x3 : Int) (x4 : Value) (W : World), (Instr.field 50 (.agg #[.int .u64 x0, .int .u64 x1, .int .i64 x2, .int .i64 x3, x4]) 2).run Tryd.prog W = .ok (.int .i64 x2) W := fun x0 x1 x2 x3 x4 W => by kernel_rfl
  have HG := Aside0.mk hrG
  clear hrG
  go_enter Tryd.func33, Tryd.ntmps33
  go_wp2_with (go_at_call 54; refine (of_calls f _ HG.out).mono ?_; rintro e w' ⟨A, c, rfl, _, _, hb⟩)
  go_ret
  exact ⟨rfl, by first | assumption | exact hb⟩
end Go.Proofs.YtdojfdjokggaiaaDoor.Q
