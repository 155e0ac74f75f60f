/- Several texts in one, in build order. What they prove, each by its own first remark:
How what is read as an argument is told to the walks: a kind of the words for each type, and that its numbers are of their kinds.
From the card's condition on the variable 'fields' to the fact that the contracts ask.
Written by our own copy of a printing program (a twelfth state) out of the translation. Not trusted: Lean checks it.
The plain law of ChannelLeast.
For all arguments attestorlaw08.ChannelLeast returns true and leaves them as they were, where the variable 'fields' holds what the program's text lays (the card ties that): no other condition. -/
import Derived.ChangeArms
import Derived.Deep.Slices
import Derived.KernelRfl
import Derived.OpenShut
import Derived.ProofKit
import Derived.SizedLaws
import Derived.Test.YtkailiemikjfbaaDoorM2
import Derived.Test.YtkailiemikjfbaaDoorRows
import Derived.Test.YtkailiemikjfbaaDoorM1
import Derived.LaidMore
import Derived.Lib.SmallJoins
import Derived.Stop.Joined
import Derived.Test.YtkailiemikjfbaaDoorM4
import Derived.Test.YtkailiemikjfbaaDoorM5
import Derived.Test.YtkailiemikjfbaaDoorM6
import Derived.Test.YtkailiemikjfbaaDoorCards
import Derived.Test.YtkailiemikjfbaaDoorTie
import Derived.SevenTiedAt
import Derived.ShutString
import Derived.ChangeOld
import Derived.Below
section
namespace Go.Proofs.YtkailiemikjfbaaDoor.Opn
open Go.RowKit Go.Deep Go.Proofs.YtkailiemikjfbaaDoorW.PrintWords
variable {H : Type} {enc : TypeId × Value → H} {P : Program} {W : World}

theorem add_add_ (a : Addr) (x y : Nat) : (a.add x).add y = a.add (x + y) := by
  unfold Addr.add
  by_cases hx : x = 0 <;> by_cases hy : y = 0 <;> simp [hx, hy, Nat.add_assoc]
/-- Whatever is read at type t is of the kind d; 'wf': what is known of it besides. -/
def Opn {α : Type} (enc : TypeId × Value → H) (P : Program) (W : World) (t : TypeId) (d : Kd α) (wf : α → Prop) : Prop :=
  ∀ fuel cs x, DataW.trod enc P W 0 (fun _ => true) true fuel t cs = some x → ∃ y, d.K W y cs ∧ wf y
theorem Opn.int {k : IntKind} {t : TypeId} (ht : P.underlying t = some (.int k)) : Opn enc P W t (Kd.int k) (fun y => (Lit.int k y).wf = true) := by
  intro fuel cs x h
  obtain ⟨n, rfl, _, hn⟩ := DataW.trod_int ht h
  exact ⟨n, rfl, hn⟩
theorem Opn.imp {α : Type} {t : TypeId} {d : Kd α} {wf wf' : α → Prop} (h : Opn enc P W t d wf) (hw : ∀ y, wf y → wf' y) : Opn enc P W t d wf' := by
  intro fuel cs x hx
  obtain ⟨y, hy, hz⟩ := h fuel cs x hx
  exact ⟨y, hy, hw y hz⟩
theorem Opn.slice {α : Type} {t e : TypeId} {d : Kd α} {wf : α → Prop} (ht : P.underlying t = some (.slice e)) (hs : P.cellsOf e = d.sz) (he : Opn enc P W e d wf) :
    Opn enc P W t (Kd.slice e d) (fun l => ∀ y ∈ l, wf y) := by
  intro fuel cs x h
  rcases open_slice ht h with ⟨rfl, _⟩ | ⟨a, len, cap, m, n, D, Pl, rfl, _, hl, hm, hmm, _, hx⟩
  · exact ⟨[], ⟨none, 0, rfl, Nat.le_refl _, Kd.C_nil d W⟩, fun y hy => by cases hy⟩
  · have hlm : len ≤ m := by rw [hmm]; split <;> omega
    have each : ∀ i : Fin len, ∃ y : α, ∃ c, W.cells? 0 (a.add (i.1 * d.sz)) d.sz = some c ∧ d.K W y c ∧ wf y := by
      intro i
      obtain ⟨c, hc, ht⟩ := hx i.1 (by omega)
      obtain ⟨y, hy, hz⟩ := he _ _ _ ht
      exact ⟨y, c, by rw [← hs]; exact hc, hy, hz⟩
    obtain ⟨f, hf⟩ := Classical.axiomOfChoice each
    have hlen : (List.ofFn f).length = len := List.length_ofFn
    refine ⟨List.ofFn f, ⟨some a, cap, by rw [hlen], by omega, ?_⟩, ?_⟩
    · rw [hlen]
      refine ⟨hlen, by unfold maxLen at hm; omega, fun _ => ⟨a, rfl, fun j p hp => ?_⟩⟩
      have hj : j < len := by have := (List.getElem?_eq_some_iff.1 hp).1; omega
      obtain ⟨c, hc, hk, _⟩ := hf ⟨j, hj⟩
      have hpj : p = f ⟨j, hj⟩ := by
        rw [List.getElem?_eq_getElem (by omega)] at hp
        rw [← Option.some.inj hp]
        exact List.getElem_ofFn ..
      subst hpj
      refine ⟨c, d.K_len hk, hk, fun i u hu => ?_⟩
      have hi : i < d.sz := by have := (List.getElem?_eq_some_iff.1 hu).1; rw [d.K_len hk] at this; exact this
      have hcc := (World.cells?_some hc).2.2 i hi
      rw [hu] at hcc
      rw [← hcc]
      rw [add_add_]
    · intro y hy
      obtain ⟨i, hi, rfl⟩ := List.mem_iff_getElem.1 hy
      rw [List.getElem_ofFn]
      exact (hf _).choose_spec.2.2
end Go.Proofs.YtkailiemikjfbaaDoor.Opn
namespace Go.Proofs.YtkailiemikjfbaaDoor.Q
open Go.RowKit Go.ChangeShapes Go.WideShapes
open Go.Proofs.YtkailiemikjfbaaDoorW.PrintWords Go.Proofs.YtkailiemikjfbaaDoorW.PrintLast Go.Proofs.YtkailiemikjfbaaDoorW.PrintMore
open Go.Proofs.YtkailiemikjfbaaDoor.Opn
set_option linter.unusedVariables false
set_option linter.unusedSimpArgs false

theorem own : ownKnob Tryd.prog.godebug = Option.none := by kernel_rfl
theorem laidOut : laidOutB Tryd.prog = true := by kernel_rfl
theorem cells22 : Tryd.prog.cellsOf 22 = 1 := by kernel_rfl
theorem cells23 : Tryd.prog.cellsOf 23 = 4 := by kernel_rfl
theorem flat23 {H : Type} {enc : TypeId × Value → H} {W : World} : ∀ fuel cs x, DataW.trod enc Tryd.prog W 0 (fun _ => true) true fuel 23 cs = some x → ∃ (a0 : Int) (a1 : Int) (a2 : Int) (a3 : Int), cs = [.int .u64 a0, .int .u64 a1, .int .u64 a2, .int .u64 a3] ∧ (Lit.int .u64 a0).wf = true ∧ (Lit.int .u64 a1).wf = true ∧ (Lit.int .u64 a2).wf = true ∧ (Lit.int .u64 a3).wf = true := by
  intro fuel cs x h
  obtain ⟨xs, n, rfl, _, hl, hn, hf⟩ := DataW.trod_array Tryd.underlying23 h
  rw [cells23] at hl
  match cs, hl with
  | [q0, q1, q2, q3], _ =>
    have hx : xs.length = 4 := hn
    have e0 : DataW.trod enc Tryd.prog W 0 (fun _ => true) true n 22 (([q0, q1, q2, q3].drop 0).take (Tryd.prog.cellsOf 22)) = xs[0]? := by have h_ := hf 0 (by decide); simpa only [cells22, Nat.mul_one, Nat.zero_mul, Nat.reduceMul] using h_
    rw [cells22, List.getElem?_eq_getElem (by omega)] at e0
    have e1 : DataW.trod enc Tryd.prog W 0 (fun _ => true) true n 22 (([q0, q1, q2, q3].drop 1).take (Tryd.prog.cellsOf 22)) = xs[1]? := by have h_ := hf 1 (by decide); simpa only [cells22, Nat.mul_one, Nat.zero_mul, Nat.reduceMul] using h_
    rw [cells22, List.getElem?_eq_getElem (by omega)] at e1
    have e2 : DataW.trod enc Tryd.prog W 0 (fun _ => true) true n 22 (([q0, q1, q2, q3].drop 2).take (Tryd.prog.cellsOf 22)) = xs[2]? := by have h_ := hf 2 (by decide); simpa only [cells22, Nat.mul_one, Nat.zero_mul, Nat.reduceMul] using h_
    rw [cells22, List.getElem?_eq_getElem (by omega)] at e2
    have e3 : DataW.trod enc Tryd.prog W 0 (fun _ => true) true n 22 (([q0, q1, q2, q3].drop 3).take (Tryd.prog.cellsOf 22)) = xs[3]? := by have h_ := hf 3 (by decide); simpa only [cells22, Nat.mul_one, Nat.zero_mul, Nat.reduceMul] using h_
    rw [cells22, List.getElem?_eq_getElem (by omega)] at e3
    obtain ⟨a0, r0, _, w0⟩ := DataW.trod_int Tryd.underlying22 e0
    simp only [List.drop_succ_cons, List.drop_zero, List.take_succ_cons, List.take_zero, List.cons.injEq, and_true] at r0
    obtain rfl := r0
    obtain ⟨a1, r1, _, w1⟩ := DataW.trod_int Tryd.underlying22 e1
    simp only [List.drop_succ_cons, List.drop_zero, List.take_succ_cons, List.take_zero, List.cons.injEq, and_true] at r1
    obtain rfl := r1
    obtain ⟨a2, r2, _, w2⟩ := DataW.trod_int Tryd.underlying22 e2
    simp only [List.drop_succ_cons, List.drop_zero, List.take_succ_cons, List.take_zero, List.cons.injEq, and_true] at r2
    obtain rfl := r2
    obtain ⟨a3, r3, _, w3⟩ := DataW.trod_int Tryd.underlying22 e3
    simp only [List.drop_succ_cons, List.drop_zero, List.take_succ_cons, List.take_zero, List.cons.injEq, and_true] at r3
    obtain rfl := r3
    exact ⟨a0, a1, a2, a3, rfl, w0, w1, w2, w3⟩
def wf23 (x : S23) : Prop := ((Lit.int .u64 x.f0).wf = true) ∧ ((Lit.int .u64 x.f1).wf = true) ∧ ((Lit.int .u64 x.f2).wf = true) ∧ ((Lit.int .u64 x.f3).wf = true)
theorem opn23 {H : Type} {enc : TypeId × Value → H} {W : World} : Opn enc Tryd.prog W 23 k23 wf23 := by
  intro fuel cs x h
  obtain ⟨a0, a1, a2, a3, rfl, w0, w1, w2, w3⟩ := flat23 fuel cs x h
  exact ⟨(⟨a0, a1, a2, a3⟩ : S23), k23_mk W _ , ⟨w0, w1, w2, w3⟩⟩
theorem cells3 : Tryd.prog.cellsOf 3 = 1 := by kernel_rfl
theorem cells25 : Tryd.prog.cellsOf 25 = 5 := by kernel_rfl
theorem flat25 {H : Type} {enc : TypeId × Value → H} {W : World} : ∀ fuel cs x, DataW.trod enc Tryd.prog W 0 (fun _ => true) true fuel 25 cs = some x → ∃ (a0 : Int) (a1 : Int) (a2 : Int) (a3 : Int) (a4 : Int), cs = [.int .i64 a0, .int .u64 a1, .int .u64 a2, .int .u64 a3, .int .u64 a4] ∧ (Lit.int .i64 a0).wf = true ∧ (Lit.int .u64 a1).wf = true ∧ (Lit.int .u64 a2).wf = true ∧ (Lit.int .u64 a3).wf = true ∧ (Lit.int .u64 a4).wf = true := by
  intro fuel cs x h
  obtain ⟨xs, n, rfl, _, hl, hn, hf⟩ := DataW.trod_struct Tryd.underlying25 h
  rw [cells25] at hl
  match cs, hl with
  | [q0, q1, q2, q3, q4], _ =>
    have hx : xs.length = 2 := hn
    have e0 : DataW.trod enc Tryd.prog W 0 (fun _ => true) true n 3 (([q0, q1, q2, q3, q4].drop 0).take (Tryd.prog.cellsOf 3)) = xs[0]? := hf 0 _ rfl
    rw [cells3, List.getElem?_eq_getElem (by omega)] at e0
    have e1 : DataW.trod enc Tryd.prog W 0 (fun _ => true) true n 23 (([q0, q1, q2, q3, q4].drop 1).take (Tryd.prog.cellsOf 23)) = xs[1]? := hf 1 _ rfl
    rw [cells23, List.getElem?_eq_getElem (by omega)] at e1
    obtain ⟨a0, r0, _, w0⟩ := DataW.trod_int Tryd.underlying3 e0
    simp only [List.drop_succ_cons, List.drop_zero, List.take_succ_cons, List.take_zero, List.cons.injEq, and_true] at r0
    obtain rfl := r0
    obtain ⟨a1, a2, a3, a4, r1, w1, w2, w3, w4⟩ := flat23 _ _ _ e1
    simp only [List.drop_succ_cons, List.drop_zero, List.take_succ_cons, List.take_zero, List.cons.injEq, and_true] at r1
    obtain ⟨rfl, rfl, rfl, rfl⟩ := r1
    exact ⟨a0, a1, a2, a3, a4, rfl, w0, w1, w2, w3, w4⟩
def wf25 (x : S25) : Prop := ((Lit.int .i64 x.f0).wf = true) ∧ (wf23 x.f1)
theorem opn25 {H : Type} {enc : TypeId × Value → H} {W : World} : Opn enc Tryd.prog W 25 k25 wf25 := by
  intro fuel cs x h
  obtain ⟨a0, a1, a2, a3, a4, rfl, w0, w1, w2, w3, w4⟩ := flat25 fuel cs x h
  exact ⟨(⟨a0, (⟨a1, a2, a3, a4⟩ : S23)⟩ : S25), k25_mk W _ , ⟨w0, ⟨w1, w2, w3, w4⟩⟩⟩
theorem cells4 : Tryd.prog.cellsOf 4 = 1 := by kernel_rfl
theorem cells59 : Tryd.prog.cellsOf 59 = 2 := by kernel_rfl
theorem flat59 {H : Type} {enc : TypeId × Value → H} {W : World} : ∀ fuel cs x, DataW.trod enc Tryd.prog W 0 (fun _ => true) true fuel 59 cs = some x → ∃ (a0 : Bool) (a1 : Int), cs = [.bool a0, .int .u64 a1] ∧ (Lit.int .u64 a1).wf = true := by
  intro fuel cs x h
  obtain ⟨xs, n, rfl, _, hl, hn, hf⟩ := DataW.trod_struct Tryd.underlying59 h
  rw [cells59] at hl
  match cs, hl with
  | [q0, q1], _ =>
    have hx : xs.length = 2 := hn
    have e0 : DataW.trod enc Tryd.prog W 0 (fun _ => true) true n 4 (([q0, q1].drop 0).take (Tryd.prog.cellsOf 4)) = xs[0]? := hf 0 _ rfl
    rw [cells4, List.getElem?_eq_getElem (by omega)] at e0
    have e1 : DataW.trod enc Tryd.prog W 0 (fun _ => true) true n 22 (([q0, q1].drop 1).take (Tryd.prog.cellsOf 22)) = xs[1]? := hf 1 _ rfl
    rw [cells22, List.getElem?_eq_getElem (by omega)] at e1
    obtain ⟨a0, r0, _⟩ := DataW.trod_bool Tryd.underlying4 e0
    simp only [List.drop_succ_cons, List.drop_zero, List.take_succ_cons, List.take_zero, List.cons.injEq, and_true] at r0
    obtain rfl := r0
    obtain ⟨a1, r1, _, w1⟩ := DataW.trod_int Tryd.underlying22 e1
    simp only [List.drop_succ_cons, List.drop_zero, List.take_succ_cons, List.take_zero, List.cons.injEq, and_true] at r1
    obtain rfl := r1
    exact ⟨a0, a1, rfl, w1⟩
def wf59 (x : S59) : Prop := (True) ∧ ((Lit.int .u64 x.f1).wf = true)
theorem opn59 {H : Type} {enc : TypeId × Value → H} {W : World} : Opn enc Tryd.prog W 59 k59 wf59 := by
  intro fuel cs x h
  obtain ⟨a0, a1, rfl, w1⟩ := flat59 fuel cs x h
  exact ⟨(⟨a0, a1⟩ : S59), k59_mk W _ , ⟨trivial, w1⟩⟩
theorem opn39 {H : Type} {enc : TypeId × Value → H} {W : World} : Opn enc Tryd.prog W 39 (Kd.slice 59 k59) (fun x => ∀ y ∈ x, wf59 y) := Opn.slice Tryd.underlying39 cells59 opn59
theorem cells51 : Tryd.prog.cellsOf 51 = 2 := by kernel_rfl
theorem flat51 {H : Type} {enc : TypeId × Value → H} {W : World} : ∀ fuel cs x, DataW.trod enc Tryd.prog W 0 (fun _ => true) true fuel 51 cs = some x → ∃ (a0 : Int) (a1 : Int), cs = [.int .u64 a0, .int .u64 a1] ∧ (Lit.int .u64 a0).wf = true ∧ (Lit.int .u64 a1).wf = true := by
  intro fuel cs x h
  obtain ⟨xs, n, rfl, _, hl, hn, hf⟩ := DataW.trod_array Tryd.underlying51 h
  rw [cells51] at hl
  match cs, hl with
  | [q0, q1], _ =>
    have hx : xs.length = 2 := hn
    have e0 : DataW.trod enc Tryd.prog W 0 (fun _ => true) true n 22 (([q0, q1].drop 0).take (Tryd.prog.cellsOf 22)) = xs[0]? := by have h_ := hf 0 (by decide); simpa only [cells22, Nat.mul_one, Nat.zero_mul, Nat.reduceMul] using h_
    rw [cells22, List.getElem?_eq_getElem (by omega)] at e0
    have e1 : DataW.trod enc Tryd.prog W 0 (fun _ => true) true n 22 (([q0, q1].drop 1).take (Tryd.prog.cellsOf 22)) = xs[1]? := by have h_ := hf 1 (by decide); simpa only [cells22, Nat.mul_one, Nat.zero_mul, Nat.reduceMul] using h_
    rw [cells22, List.getElem?_eq_getElem (by omega)] at e1
    obtain ⟨a0, r0, _, w0⟩ := DataW.trod_int Tryd.underlying22 e0
    simp only [List.drop_succ_cons, List.drop_zero, List.take_succ_cons, List.take_zero, List.cons.injEq, and_true] at r0
    obtain rfl := r0
    obtain ⟨a1, r1, _, w1⟩ := DataW.trod_int Tryd.underlying22 e1
    simp only [List.drop_succ_cons, List.drop_zero, List.take_succ_cons, List.take_zero, List.cons.injEq, and_true] at r1
    obtain rfl := r1
    exact ⟨a0, a1, rfl, w0, w1⟩
def wf51 (x : S51) : Prop := ((Lit.int .u64 x.f0).wf = true) ∧ ((Lit.int .u64 x.f1).wf = true)
theorem opn51 {H : Type} {enc : TypeId × Value → H} {W : World} : Opn enc Tryd.prog W 51 k51 wf51 := by
  intro fuel cs x h
  obtain ⟨a0, a1, rfl, w0, w1⟩ := flat51 fuel cs x h
  exact ⟨(⟨a0, a1⟩ : S51), k51_mk W _ , ⟨w0, w1⟩⟩
theorem opn48 {H : Type} {enc : TypeId × Value → H} {W : World} : Opn enc Tryd.prog W 48 (Kd.slice 51 k51) (fun x => ∀ y ∈ x, wf51 y) := Opn.slice Tryd.underlying48 cells51 opn51
end Go.Proofs.YtkailiemikjfbaaDoor.Q
end
section
namespace Go.Proofs.YtkailiemikjfbaaDoor.Q
open Go.ChangeShapes Go.WideShapes Go.ChangeAt Go.WideMaps Go.WideElems Go.RowKit
open Go.Proofs.YtkailiemikjfbaaDoorW.PrintWords Go.Proofs.YtkailiemikjfbaaDoorW.PrintLast Go.Proofs.YtkailiemikjfbaaDoorW.PrintMore
open Go.Proofs.YtkailiemikjfbaaDoor.Opn
set_option linter.unusedVariables false

theorem gFields : Tryd.prog.globalNamed "attestor/field.fields" = some 0 := by kernel_rfl
theorem tFields : (Tryd.prog.globals[0]?).map (·.type) = some 72 := by kernel_rfl
abbrev laid1 : List (String × DataW Unit) := [("attestor/field.fields", Rows.laid_attestor_field_fields)]
theorem cellsI : Tryd.prog.cellsOf 3 = 1 := by kernel_rfl
theorem cellsU : Tryd.prog.cellsOf 22 = 1 := by kernel_rfl
theorem cellsS : Tryd.prog.cellsOf 49 = 1 := by kernel_rfl
theorem cellsP : Tryd.prog.cellsOf 63 = 5 := by kernel_rfl
/-- A slice of numbers whose data are known. -/
theorem ints_of {H : Type} {enc : TypeId × Value → H} {W : World} {spare : Nat → Bool} {held : Bool} {fuel : Nat} {cs : List Value} {x : DataW H × List MemPlace} {vs : List Int} {r : List (DataW H)}
    (h : DataW.trod enc Tryd.prog W 0 spare held fuel 49 cs = some x) (hx : x.1 = .slice (vs.map fun v => .lit (.int .u64 v)) r) :
    ∃ A c, cs = [.slice A vs.length c] ∧ vs.length ≤ c ∧ Kd.C (Kd.int .u64) W A vs.length vs := by
  rcases Deep.open_slice1 Tryd.underlying49 cellsU h with ⟨_, rfl⟩ | ⟨a, len, cap, m, n, V, D, Pl, rfl, _, hl, hm, hmm, rfl, he⟩
  · cases hx
  · simp only [DataW.slice.injEq] at hx
    have hlen : len = vs.length := by have := congrArg List.length hx.1; simpa using this
    subst hlen
    have hlm : vs.length ≤ m := by rw [hmm]; split <;> omega
    refine ⟨some a, cap, rfl, hl, rfl, by unfold maxLen at hm; omega, fun _ => ⟨a, rfl, fun j p hp => ?_⟩⟩
    have hj : j < vs.length := (List.getElem?_eq_some_iff.1 hp).1
    obtain ⟨h1, h2⟩ := he j (by omega)
    obtain ⟨k, e1, e2, _⟩ := DataW.trod_int Tryd.underlying22 h2
    have hD : D j = .lit (.int .u64 p) := by
      have hpe : vs[j] = p := by have := hp; rw [List.getElem?_eq_getElem hj] at this; exact Option.some.inj this
      have := congrArg (fun l => l[j]?) hx.1
      simpa [hj, hpe] using this
    have hk : k = p := by
      have : (DataW.lit (.int .u64 p) : DataW H) = .lit (.int .u64 k) := by rw [← hD]; exact congrArg Prod.fst e2
      simpa using this.symm
    subst hk
    refine ⟨[.int .u64 k], rfl, rfl, fun i u hu => ?_⟩
    match i, hu with
    | 0, hu =>
      obtain rfl : Value.int .u64 k = u := by simpa using hu
      have : V j = .int .u64 k := by simpa using e1
      rw [← this]
      have h9 : j * (Kd.int IntKind.u64).sz = j := Nat.mul_one j
      show W.cell? ((a.add (j * (Kd.int IntKind.u64).sz)).add 0) = _
      rw [h9, add_add_]
      exact h1
theorem nil_of {H : Type} {enc : TypeId × Value → H} {W : World} {spare : Nat → Bool} {held : Bool} {fuel : Nat} {cs : List Value} {x : DataW H × List MemPlace}
    (h : DataW.trod enc Tryd.prog W 0 spare held fuel 49 cs = some x) (hx : x.1 = .nil) :
    ∃ A c, cs = [.slice A ([] : List Int).length c] ∧ ([] : List Int).length ≤ c ∧ Kd.C (Kd.int .u64) W A ([] : List Int).length [] := by
  rcases Deep.open_slice1 Tryd.underlying49 cellsU h with ⟨rfl, _⟩ | ⟨a, len, cap, m, n, V, D, Pl, rfl, _, hl, hm, hmm, rfl, he⟩
  · exact ⟨none, 0, rfl, Nat.le_refl _, Kd.C_nil _ _⟩
  · cases hx
/-- The numbers of field f, as the condition spells them. -/
def rowData {H : Type} (f : Nat) : DataW H := .agg [.lit (.int .u64 (fp f)), .lit (.int .u64 (fg f)), .lit (.int .i64 (ft f)), .lit (.int .i64 (fe f)), if f = 1 then .nil else .slice ((fl f).map fun v => .lit (.int .u64 v)) []]
/-- The condition gives the fact. -/
theorem gl_of_laid {W : World} (h : laidMetH Tryd.prog laid1 W) : GL W := by
  rw [MakeChecks.laidMetH_plain _ _ _ (by kernel_rfl)] at h
  obtain ⟨ps, ⟨g0, t0, cs0, f0, p0, q0, hg0, ht0, hv0, hd0, _, _⟩, _, _⟩ := h
  obtain rfl := Option.some.inj (gFields.symm.trans hg0)
  obtain rfl := Option.some.inj (tFields.symm.trans ht0)
  obtain ⟨xs, m1, rfl, hx1, hlen, hn, hel⟩ := DataW.trod_array Tryd.underlying72 hd0
  simp only [Prod.mk.injEq, Rows.laid_attestor_field_fields, DataW.agg.injEq] at hx1
  have key : ∀ f : Nat, f < 4 → ∃ A c, (cs0.toList.drop (f * 5)).take 5 = [.int .u64 (fp f), .int .u64 (fg f), .int .i64 (ft f), .int .i64 (fe f), .slice A (fl f).length c] ∧ (fl f).length ≤ c ∧ Kd.C (Kd.int .u64) W A (fl f).length (fl f) := by
    intro f hf
    have hj1 := hel f hf
    rw [List.getElem?_eq_getElem (by omega : f < xs.length), cellsP] at hj1
    have hdat : (xs[f]).1 = rowData f := by
      have : (xs.map (·.1))[f]? = some (rowData f) := by
        rw [← hx1.1]
        rcases (show f = 0 ∨ f = 1 ∨ f = 2 ∨ f = 3 by omega) with rfl | rfl | rfl | rfl <;> rfl
      rw [List.getElem?_map, List.getElem?_eq_getElem (by omega : f < xs.length), Option.map_some] at this
      exact Option.some.inj this
    generalize hcs : (cs0.toList.drop (f * 5)).take 5 = cs at hj1 ⊢
    obtain ⟨ys, n, _, hy, hl, hny, hf2⟩ := DataW.trod_struct Tryd.underlying63 hj1
    rw [cellsP] at hl
    match cs, hl with
    | [c0, c1, c2, c3, c4], _ =>
      have e0 : DataW.trod _ Tryd.prog W 0 _ _ n 22 (([c0, c1, c2, c3, c4].drop 0).take (Tryd.prog.cellsOf 22)) = ys[0]? := hf2 0 _ rfl
      have e1 : DataW.trod _ Tryd.prog W 0 _ _ n 22 (([c0, c1, c2, c3, c4].drop 1).take (Tryd.prog.cellsOf 22)) = ys[1]? := hf2 1 _ rfl
      have e2 : DataW.trod _ Tryd.prog W 0 _ _ n 3 (([c0, c1, c2, c3, c4].drop 2).take (Tryd.prog.cellsOf 3)) = ys[2]? := hf2 2 _ rfl
      have e3 : DataW.trod _ Tryd.prog W 0 _ _ n 3 (([c0, c1, c2, c3, c4].drop 3).take (Tryd.prog.cellsOf 3)) = ys[3]? := hf2 3 _ rfl
      have e4 : DataW.trod _ Tryd.prog W 0 _ _ n 49 (([c0, c1, c2, c3, c4].drop 4).take (Tryd.prog.cellsOf 49)) = ys[4]? := hf2 4 _ rfl
      have x5 : ys.length = 5 := hny
      rw [cellsU, List.getElem?_eq_getElem (by omega)] at e0 e1
      rw [cellsI, List.getElem?_eq_getElem (by omega)] at e2 e3
      rw [cellsS, List.getElem?_eq_getElem (by omega)] at e4
      have hy1 : DataW.agg (ys.map (·.1)) = rowData f := by rw [← hdat, hy]
      simp only [rowData, DataW.agg.injEq] at hy1
      have d0 : ys[0].1 = .lit (.int .u64 (fp f)) := by have := congrArg (fun l => l[0]?) hy1; simpa [x5] using this
      have d1 : ys[1].1 = .lit (.int .u64 (fg f)) := by have := congrArg (fun l => l[1]?) hy1; simpa [x5] using this
      have d2 : ys[2].1 = .lit (.int .i64 (ft f)) := by have := congrArg (fun l => l[2]?) hy1; simpa [x5] using this
      have d3 : ys[3].1 = .lit (.int .i64 (fe f)) := by have := congrArg (fun l => l[3]?) hy1; simpa [x5] using this
      have d4 : ys[4].1 = (if f = 1 then .nil else .slice ((fl f).map fun v => .lit (.int .u64 v)) []) := by have := congrArg (fun l => l[4]?) hy1; simpa [x5] using this
      obtain ⟨a0, r0, s0, _⟩ := DataW.trod_int Tryd.underlying22 e0
      obtain ⟨a1, r1, s1, _⟩ := DataW.trod_int Tryd.underlying22 e1
      obtain ⟨a2, r2, s2, _⟩ := DataW.trod_int Tryd.underlying3 e2
      obtain ⟨a3, r3, s3, _⟩ := DataW.trod_int Tryd.underlying3 e3
      obtain rfl : a0 = fp f := by rw [s0] at d0; simpa using d0
      obtain rfl : a1 = fg f := by rw [s1] at d1; simpa using d1
      obtain rfl : a2 = ft f := by rw [s2] at d2; simpa using d2
      obtain rfl : a3 = fe f := by rw [s3] at d3; simpa using d3
      replace r0 : c0 = .int .u64 (fp f) := by simpa using r0
      replace r1 : c1 = .int .u64 (fg f) := by simpa using r1
      replace r2 : c2 = .int .i64 (ft f) := by simpa using r2
      replace r3 : c3 = .int .i64 (fe f) := by simpa using r3
      subst r0; subst r1; subst r2; subst r3
      have h4 : ∃ A c, [c4] = [.slice A (fl f).length c] ∧ (fl f).length ≤ c ∧ Kd.C (Kd.int .u64) W A (fl f).length (fl f) := by
        by_cases h1 : f = 1
        · subst h1
          rw [if_pos rfl] at d4
          exact nil_of (x := ys[4]) e4 d4
        · rw [if_neg h1] at d4
          exact ints_of (x := ys[4]) e4 d4
      obtain ⟨A, c, hc, hle, hC⟩ := h4
      obtain rfl : c4 = .slice A (fl f).length c := by simpa using hc
      exact ⟨A, c, rfl, hle, hC⟩
  have cell : ∀ f : Nat, f < 4 → ∀ j : Nat, j < 5 → W.cell? ⟨0, 5 * f + j, none⟩ = ((cs0.toList.drop (f * 5)).take 5)[j]? := by
    intro f hf j hj
    have hv := World.var?_cell hg0 hv0 (5 * f + j)
    rw [hv, List.getElem?_take, if_pos (by omega), List.getElem?_drop, Nat.mul_comm f 5]
    simp
  refine ⟨fun f hf => ?_, fun f hf => ?_, fun f hf => ?_, fun f hf => ?_, fun f hf => ?_⟩
  all_goals obtain ⟨A, c, e, hl, hC⟩ := key f hf
  · exact (cell f hf 0 (by omega)).trans (by rw [e]; rfl)
  · exact (cell f hf 1 (by omega)).trans (by rw [e]; rfl)
  · exact (cell f hf 2 (by omega)).trans (by rw [e]; rfl)
  · exact (cell f hf 3 (by omega)).trans (by rw [e]; rfl)
  · exact ⟨A, c, (cell f hf 4 (by omega)).trans (by rw [e]; rfl), hl, hC⟩
/-- The door's own heap meets the condition. -/
theorem door_met (os : Os) (args : Array Value) : laidMetH Tryd.prog laid1 ((World.doorLaid Tryd.prog 400 os).forCall (fun _ _ => 0) ⟨#[], args, []⟩).memory :=
  laidMetH_of_parts3 (fuel := 8) (laidMet_of_run' 8 (by kernel_rfl) (by kernel_rfl)) (by kernel_rfl) (by kernel_rfl)
theorem opnL {H : Type} {enc : TypeId × Value → H} {W : World} : Opn enc Tryd.prog W 49 (Kd.slice 22 (Kd.int .u64)) (fun l => ∀ y ∈ l, (Lit.int .u64 y).wf = true) := Opn.slice Tryd.underlying49 cellsU (Opn.int Tryd.underlying22)
theorem wf_u8 {x : Int} (h : (Lit.int .u8 x).wf = true) : 0 ≤ x ∧ x < 256 := by
  simp [Lit.wf, IntKind.min, IntKind.max, IntKind.signed, IntKind.bits] at h
  omega
theorem wf_u64 {x : Int} (h : (Lit.int .u64 x).wf = true) : 0 ≤ x ∧ x < 18446744073709551616 := by
  simp [Lit.wf, IntKind.min, IntKind.max, IntKind.signed, IntKind.bits] at h
  omega
theorem wf_i64 {x : Int} (h : (Lit.int .i64 x).wf = true) : -9223372036854775808 ≤ x ∧ x ≤ 9223372036854775807 := by
  simp [Lit.wf, IntKind.min, IntKind.max, IntKind.signed, IntKind.bits] at h
  omega
end Go.Proofs.YtkailiemikjfbaaDoor.Q
end
section
namespace Go.Proofs.YtkailiemikjfbaaDoor.Q
open Go.RowKit Go.Proofs.YtkailiemikjfbaaDoorW.PrintWords Go.Proofs.YtkailiemikjfbaaDoorW.PrintLast Go.Proofs.YtkailiemikjfbaaDoorW.PrintMore
attribute [local go_sem] max2_int min2_int max_two min_two max_three min_three max_four min_four   -- for this text's walks alone
set_option linter.unusedVariables false
set_option linter.unusedSimpArgs false

/-! ### attestorlaw08_ChannelLeast: function 6 -/
mutual
def attestorlaw08_ChannelLeast.j0 : Nat → Int → Int → Int → Int → Int → Int → Int → Option (Bool)
  | 0, _, _, _, _, _, _, _ => none
  | k + 1, x10, x14, x562000, x562001, x562002, x562003, x562004 => attestorlaw08_ChannelLeast.l0 k x10 x14 0 x562000 x562001 x562002 x562003 x562004
def attestorlaw08_ChannelLeast.l0 : Nat → Int → Int → Int → Int → Int → Int → Int → Int → Option (Bool)
  | 0, _, _, _, _, _, _, _, _ => none
  | k + 1, x10, x14, x17, x562000, x562001, x562002, x562003, x562004 => if x17 < x14 then ((channel_Grind.f k x562000 x562001 x562002 x562003 x562004 x17 x10).bind fun bt572 => (if bt572.2.2.2.2.2 = true then (none) else (attestorlaw08_ChannelLeast.l0 k x10 x14 (IntKind.u64.wrap (x17 + 1)) x562000 x562001 x562002 x562003 x562004))) else ((attestorlaw08_lives.f k).bind fun t579 => (some t579))
end
def attestorlaw08_ChannelLeast.f (k : Nat) (a0 : Int) (a1_0 : Int) (a1_1 : Int) (a1_2 : Int) (a1_3 : Int) (a2 : Int) (a3 : Int) : Option (Bool) := (attestorlaw08_reduced.f k a0 a1_0 a1_1 a1_2 a1_3).bind fun bt556 => ((channel_Search.f k bt556.1 bt556.2.1 bt556.2.2.1 bt556.2.2.2.1 bt556.2.2.2.2 (wrap64 (Int.tmod a2 25)) (wrap64 (Int.tmod a3 121))).bind fun bt562 => ((attestorref01_P.f bt556.1).bind fun t564 => (if bt562.2 = true then ((channel_Grind.f k bt556.1 bt556.2.1 bt556.2.2.1 bt556.2.2.2.1 bt556.2.2.2.2 bt562.1 (wrap64 (Int.tmod a2 25))).bind fun bt565 => (if bt565.2.2.2.2.2 = true then (if bt562.1 ≥ (IntKind.u64.wrap (mn (wrap64 (Int.tmod a3 121)) (wrap64 (t564)))) then (none) else (attestorlaw08_ChannelLeast.j0 k (wrap64 (Int.tmod a2 25)) bt562.1 bt556.1 bt556.2.1 bt556.2.2.1 bt556.2.2.2.1 bt556.2.2.2.2)) else (none))) else (if bt562.1 = 0 then (attestorlaw08_ChannelLeast.j0 k (wrap64 (Int.tmod a2 25)) (IntKind.u64.wrap (mn (wrap64 (Int.tmod a3 121)) (wrap64 (t564)))) bt556.1 bt556.2.1 bt556.2.2.1 bt556.2.2.2.1 bt556.2.2.2.2) else (none)))))
theorem attestorlaw08_ChannelLeast.mono_l : ∀ k, (∀ y0 y1 y2 y3 y4 y5 y6, LeO (attestorlaw08_ChannelLeast.j0 k y0 y1 y2 y3 y4 y5 y6) (attestorlaw08_ChannelLeast.j0 (k + 1) y0 y1 y2 y3 y4 y5 y6)) ∧ (∀ y0 y1 y2 y3 y4 y5 y6 y7, LeO (attestorlaw08_ChannelLeast.l0 k y0 y1 y2 y3 y4 y5 y6 y7) (attestorlaw08_ChannelLeast.l0 (k + 1) y0 y1 y2 y3 y4 y5 y6 y7))
  | 0 => ⟨fun _ _ _ _ _ _ _ r h => by simp [attestorlaw08_ChannelLeast.j0] at h, fun _ _ _ _ _ _ _ _ r h => by simp [attestorlaw08_ChannelLeast.l0] at h⟩
  | k + 1 => by
    obtain ⟨ih0, ih1⟩ := attestorlaw08_ChannelLeast.mono_l k
    refine ⟨?_, ?_⟩
    · intro y0 y1 y2 y3 y4 y5 y6
      unfold attestorlaw08_ChannelLeast.j0
      repeat' first
      | (with_reducible exact ih0 _ _ _ _ _ _ _)
      | (with_reducible exact ih1 _ _ _ _ _ _ _ _)
      | (with_reducible exact attestorlaw08_lives.mono _)
      | (with_reducible exact attestorlaw08_reduced.mono _ _ _ _ _ _)
      | (with_reducible exact channel_Grind.mono _ _ _ _ _ _ _ _)
      | (with_reducible exact channel_Search.mono _ _ _ _ _ _ _ _)
      | (with_reducible exact LeO.refl _)
      | (with_reducible exact LeO.none _)
      | (with_reducible refine LeO.ite ?_ ?_)
      | (with_reducible refine LeO.bind ?_ (fun _ => ?_))
      | exact ih0 _ _ _ _ _ _ _
      | exact ih1 _ _ _ _ _ _ _ _
      | exact attestorlaw08_lives.mono _
      | exact attestorlaw08_reduced.mono _ _ _ _ _ _
      | exact channel_Grind.mono _ _ _ _ _ _ _ _
      | exact channel_Search.mono _ _ _ _ _ _ _ _
      | exact LeO.none _
      | refine LeO.ite ?_ ?_
      | refine LeO.bind ?_ (fun _ => ?_)
    · intro y0 y1 y2 y3 y4 y5 y6 y7
      unfold attestorlaw08_ChannelLeast.l0
      repeat' first
      | (with_reducible exact ih0 _ _ _ _ _ _ _)
      | (with_reducible exact ih1 _ _ _ _ _ _ _ _)
      | (with_reducible exact attestorlaw08_lives.mono _)
      | (with_reducible exact attestorlaw08_reduced.mono _ _ _ _ _ _)
      | (with_reducible exact channel_Grind.mono _ _ _ _ _ _ _ _)
      | (with_reducible exact channel_Search.mono _ _ _ _ _ _ _ _)
      | (with_reducible exact LeO.refl _)
      | (with_reducible exact LeO.none _)
      | (with_reducible refine LeO.ite ?_ ?_)
      | (with_reducible refine LeO.bind ?_ (fun _ => ?_))
      | exact ih0 _ _ _ _ _ _ _
      | exact ih1 _ _ _ _ _ _ _ _
      | exact attestorlaw08_lives.mono _
      | exact attestorlaw08_reduced.mono _ _ _ _ _ _
      | exact channel_Grind.mono _ _ _ _ _ _ _ _
      | exact channel_Search.mono _ _ _ _ _ _ _ _
      | exact LeO.none _
      | refine LeO.ite ?_ ?_
      | refine LeO.bind ?_ (fun _ => ?_)
theorem attestorlaw08_ChannelLeast.mono : ∀ a0 a1 a2 a3 a4 a5 a6 k, LeO (attestorlaw08_ChannelLeast.f k a0 a1 a2 a3 a4 a5 a6) (attestorlaw08_ChannelLeast.f (k + 1) a0 a1 a2 a3 a4 a5 a6) := by
  intro a0 a1 a2 a3 a4 a5 a6 k
  obtain ⟨ih0, ih1⟩ := attestorlaw08_ChannelLeast.mono_l k
  unfold attestorlaw08_ChannelLeast.f
  repeat' first
      | (with_reducible exact ih0 _ _ _ _ _ _ _)
      | (with_reducible exact ih1 _ _ _ _ _ _ _ _)
      | (with_reducible exact attestorlaw08_lives.mono _)
      | (with_reducible exact attestorlaw08_reduced.mono _ _ _ _ _ _)
      | (with_reducible exact channel_Grind.mono _ _ _ _ _ _ _ _)
      | (with_reducible exact channel_Search.mono _ _ _ _ _ _ _ _)
      | (with_reducible exact LeO.refl _)
      | (with_reducible exact LeO.none _)
      | (with_reducible refine LeO.ite ?_ ?_)
      | (with_reducible refine LeO.bind ?_ (fun _ => ?_))
      | exact ih0 _ _ _ _ _ _ _
      | exact ih1 _ _ _ _ _ _ _ _
      | exact attestorlaw08_lives.mono _
      | exact attestorlaw08_reduced.mono _ _ _ _ _ _
      | exact channel_Grind.mono _ _ _ _ _ _ _ _
      | exact channel_Search.mono _ _ _ _ _ _ _ _
      | exact LeO.none _
      | refine LeO.ite ?_ ?_
      | refine LeO.bind ?_ (fun _ => ?_)
set_option maxHeartbeats 8000000 in
set_option maxRecDepth 100000 in
theorem attestorlaw08_ChannelLeast.calls (k : Nat) (a0 : Int) (a1_0 : Int) (a1_1 : Int) (a1_2 : Int) (a1_3 : Int) (a2 : Int) (a3 : Int) (r : Bool) (w : World) (hrG : GL w) (h : attestorlaw08_ChannelLeast.f k a0 a1_0 a1_1 a1_2 a1_3 a2 a3 = some r) :
    Calls Tryd.prog 6 #[.int .u8 a0, .agg #[.int .u64 a1_0, .int .u64 a1_1, .int .u64 a1_2, .int .u64 a1_3], .int .u8 a2, .int .u8 a3] w fun e w' => e = .returned (.bool r) ∧ Below w.heap.size w w' := by
  have hu23 := Tryd.underlying23
  have hu25 := Tryd.underlying25
  have HRG := Aside0.mk hrG
  clear hrG
  have HB := Aside0.mk (Below.refl w.heap.size w)
  have H : ((attestorlaw08_reduced.f k a0 a1_0 a1_1 a1_2 a1_3).bind fun bt556 => ((channel_Search.f k bt556.1 bt556.2.1 bt556.2.2.1 bt556.2.2.2.1 bt556.2.2.2.2 (wrap64 (Int.tmod a2 25)) (wrap64 (Int.tmod a3 121))).bind fun bt562 => ((attestorref01_P.f bt556.1).bind fun t564 => (if bt562.2 = true then ((channel_Grind.f k bt556.1 bt556.2.1 bt556.2.2.1 bt556.2.2.2.1 bt556.2.2.2.2 bt562.1 (wrap64 (Int.tmod a2 25))).bind fun bt565 => (if bt565.2.2.2.2.2 = true then (if bt562.1 ≥ (IntKind.u64.wrap (mn (wrap64 (Int.tmod a3 121)) (wrap64 (t564)))) then (none) else (attestorlaw08_ChannelLeast.j0 k (wrap64 (Int.tmod a2 25)) bt562.1 bt556.1 bt556.2.1 bt556.2.2.1 bt556.2.2.2.1 bt556.2.2.2.2)) else (none))) else (if bt562.1 = 0 then (attestorlaw08_ChannelLeast.j0 k (wrap64 (Int.tmod a2 25)) (IntKind.u64.wrap (mn (wrap64 (Int.tmod a3 121)) (wrap64 (t564)))) bt556.1 bt556.2.1 bt556.2.2.1 bt556.2.2.2.1 bt556.2.2.2.2) else (none)))))) = some r := h
  clear h
  replace H := Option.bind_eq_some_iff.mp H
  obtain ⟨⟨t556, t557, t558, t559, t560⟩, A50, H⟩ := H
  replace H : ((channel_Search.f k t556 t557 t558 t559 t560 (wrap64 (Int.tmod a2 25)) (wrap64 (Int.tmod a3 121))).bind fun bt562 => ((attestorref01_P.f t556).bind fun t564 => (if bt562.2 = true then ((channel_Grind.f k t556 t557 t558 t559 t560 bt562.1 (wrap64 (Int.tmod a2 25))).bind fun bt565 => (if bt565.2.2.2.2.2 = true then (if bt562.1 ≥ (IntKind.u64.wrap (mn (wrap64 (Int.tmod a3 121)) (wrap64 (t564)))) then (none) else (attestorlaw08_ChannelLeast.j0 k (wrap64 (Int.tmod a2 25)) bt562.1 t556 t557 t558 t559 t560)) else (none))) else (if bt562.1 = 0 then (attestorlaw08_ChannelLeast.j0 k (wrap64 (Int.tmod a2 25)) (IntKind.u64.wrap (mn (wrap64 (Int.tmod a3 121)) (wrap64 (t564)))) t556 t557 t558 t559 t560) else (none))))) = some r := H
  have A5 := Aside0.mk A50
  clear A50
  replace H := Option.bind_eq_some_iff.mp H
  obtain ⟨⟨t562, t563⟩, A60, H⟩ := H
  replace H : ((attestorref01_P.f t556).bind fun t564 => (if t563 = true then ((channel_Grind.f k t556 t557 t558 t559 t560 t562 (wrap64 (Int.tmod a2 25))).bind fun bt565 => (if bt565.2.2.2.2.2 = true then (if t562 ≥ (IntKind.u64.wrap (mn (wrap64 (Int.tmod a3 121)) (wrap64 (t564)))) then (none) else (attestorlaw08_ChannelLeast.j0 k (wrap64 (Int.tmod a2 25)) t562 t556 t557 t558 t559 t560)) else (none))) else (if t562 = 0 then (attestorlaw08_ChannelLeast.j0 k (wrap64 (Int.tmod a2 25)) (IntKind.u64.wrap (mn (wrap64 (Int.tmod a3 121)) (wrap64 (t564)))) t556 t557 t558 t559 t560) else (none)))) = some r := H
  have A6 := Aside0.mk A60
  clear A60
  replace H := Option.bind_eq_some_iff.mp H
  obtain ⟨t564, A70, H⟩ := H
  replace H : (if t563 = true then ((channel_Grind.f k t556 t557 t558 t559 t560 t562 (wrap64 (Int.tmod a2 25))).bind fun bt565 => (if bt565.2.2.2.2.2 = true then (if t562 ≥ (IntKind.u64.wrap (mn (wrap64 (Int.tmod a3 121)) (wrap64 (t564)))) then (none) else (attestorlaw08_ChannelLeast.j0 k (wrap64 (Int.tmod a2 25)) t562 t556 t557 t558 t559 t560)) else (none))) else (if t562 = 0 then (attestorlaw08_ChannelLeast.j0 k (wrap64 (Int.tmod a2 25)) (IntKind.u64.wrap (mn (wrap64 (Int.tmod a3 121)) (wrap64 (t564)))) t556 t557 t558 t559 t560) else (none))) = some r := H
  have A7 := Aside0.mk A70
  clear A70
  obtain ⟨ji8, hji8⟩ : ∃ j_ : Int, (mn (wrap64 (Int.tmod a3 121)) (wrap64 (t564))) = j_ := ⟨_, rfl⟩
  replace H : (if t563 = true then ((channel_Grind.f k t556 t557 t558 t559 t560 t562 (wrap64 (Int.tmod a2 25))).bind fun bt565 => (if bt565.2.2.2.2.2 = true then (if t562 ≥ (IntKind.u64.wrap (ji8)) then (none) else (attestorlaw08_ChannelLeast.j0 k (wrap64 (Int.tmod a2 25)) t562 t556 t557 t558 t559 t560)) else (none))) else (if t562 = 0 then (attestorlaw08_ChannelLeast.j0 k (wrap64 (Int.tmod a2 25)) (IntKind.u64.wrap (ji8)) t556 t557 t558 t559 t560) else (none))) = some r := by first | (rw [hji8] at H; exact H) | (simp only [hji8] at H ⊢; exact H)
  (try rw [hji8] at A5)
  (try rw [hji8] at A6)
  (try rw [hji8] at A7)
  have hji8_ : (if (wrap64 (t564)) < (wrap64 (Int.tmod a3 121)) then (wrap64 (t564)) else (wrap64 (Int.tmod a3 121))) = ji8 := hji8
  have HC9 := Aside0.mk H
  clear H
  go_enter Tryd.func6, Tryd.ntmps6
  go_upto_if 43 with (first | ((with_reducible refine gate_dst (N := 5) rfl ?_); refine box_event ?hg (N := 5) ?hd (cs := #[.int .u64 a1_0, .int .u64 a1_1, .int .u64 a1_2, .int .u64 a1_3]) (t := 23) ?hr ?_; (case hd => rfl); (case hg => rfl); (case hr => first | (go_simp; done) | (go_simp; rfl)); intro gb555 hg w10 hbox hb; have n0_ := Aside0.mk (below_step (by repeat (first | (with_reducible first | exact HB.out | apply below_alloc | apply pw_below_drewN | apply below_drew1) | exact HB.out)) hb); have n1_ := Aside0.mk (hbox); have n2_ := Aside0.mk ((by rw [hg]; exact (below_size (by repeat (first | (with_reducible first | exact HB.out | apply below_alloc | apply pw_below_drewN | apply below_drew1) | exact HB.out))) : w.heap.size ≤ gb555)); have n3_ := Aside0.mk ((by rw [hg]; exact (below_size (by repeat (first | (with_reducible first | exact HB.out | apply below_alloc | apply pw_below_drewN | apply below_drew1) | exact HB.out))) : w.heap.size ≤ gb555)); clear HB; have HB := n0_; have BK555 := n1_; have GW555 := n2_; have GE555 := n3_; clear n0_ n1_ n2_ n3_; clear hb hbox hg; have hcz11_0 : w10.cell? ⟨gb555, 0, none⟩ = some (.int .u64 a1_0) := (blk_cell BK555.out 0).trans rfl; have hcz11_1 : w10.cell? ⟨gb555, 1, none⟩ = some (.int .u64 a1_1) := (blk_cell BK555.out 1).trans rfl; have hcz11_2 : w10.cell? ⟨gb555, 2, none⟩ = some (.int .u64 a1_2) := (blk_cell BK555.out 2).trans rfl; have hcz11_3 : w10.cell? ⟨gb555, 3, none⟩ = some (.int .u64 a1_3) := (blk_cell BK555.out 3).trans rfl; have hfz11_0 := blk_frozen BK555.out 0; have hfz11_1 := blk_frozen BK555.out 1; have hfz11_2 := blk_frozen BK555.out 2; have hfz11_3 := blk_frozen BK555.out 3) | ((with_reducible refine gate_callee (f := 19) rfl ?_); refine goesL_ (some 22) rfl rfl Tryd.func19 (by kernel_rfl) rfl #[.int .u8 a0, .agg #[.int .u64 a1_0, .int .u64 a1_1, .int .u64 a1_2, .int .u64 a1_3]] rfl (by (try simp only [List.map_toArray, List.map_cons, List.map_nil]); first | done | rfl | (simp only [List.length_drop, List.length_take]; rfl) | (go_simp; done) | (go_simp; rw [Int.tmod_eq_emod_of_nonneg (by omega)]; omega)) ?_; (with_reducible refine (attestorlaw08_reduced.calls k a0 a1_0 a1_1 a1_2 a1_3 t556 t557 t558 t559 t560 _ A5.out).mono ?_); rintro e w12 ⟨rfl, hb⟩; refine ⟨_, rfl, ?_⟩; have n0_ := Aside0.mk (blk_below (g := gb555) (o := .cells #[.int .u64 a1_0, .int .u64 a1_1, .int .u64 a1_2, .int .u64 a1_3] 23 (0, 0)) (by (with_reducible repeat (first | refine blk_drewN ?_ _ | refine blk_drew ?_ | refine blk_alloc ?_ _)); exact BK555.out) hb); have n1_ := Aside0.mk (below_step (by repeat (first | (with_reducible first | exact HB.out | apply below_alloc | apply pw_below_drewN | apply below_drew1 | refine below_set ?_ GE555.out) | exact HB.out)) hb); clear BK555; clear HB; have BK555 := n0_; have HB := n1_; clear n0_ n1_; (try clear hb); (try clear hb2); (try clear hk); (try clear hi)) | ((with_reducible refine gate_dst (N := 9) rfl ?_); refine box_event ?hg (N := 9) ?hd (cs := #[.int .i64 0, .int .u64 0, .int .u64 0, .int .u64 0, .int .u64 0]) (t := 25) ?hr ?_; (case hd => rfl); (case hg => rfl); (case hr => first | (go_simp; done) | (go_simp; rfl)); intro gb561 hg w13 hbox hb; have n0_ := Aside0.mk (blk_below (g := gb555) (o := .cells #[.int .u64 a1_0, .int .u64 a1_1, .int .u64 a1_2, .int .u64 a1_3] 23 (0, 0)) (by (with_reducible repeat (first | refine blk_drewN ?_ _ | refine blk_drew ?_ | refine blk_alloc ?_ _)); exact BK555.out) hb); have n1_ := Aside0.mk (below_step (by repeat (first | (with_reducible first | exact HB.out | apply below_alloc | apply pw_below_drewN | apply below_drew1 | refine below_set ?_ GE555.out) | exact HB.out)) hb); have n2_ := Aside0.mk (hbox); have n3_ := Aside0.mk ((by rw [hg]; exact (below_size (by repeat (first | (with_reducible first | exact HB.out | apply below_alloc | apply pw_below_drewN | apply below_drew1 | refine below_set ?_ GE555.out) | exact HB.out))) : w.heap.size ≤ gb561)); have n4_ := Aside0.mk ((by rw [hg]; exact (below_size (by repeat (first | (with_reducible first | exact HB.out | apply below_alloc | apply pw_below_drewN | apply below_drew1 | refine below_set ?_ GE555.out) | exact HB.out))) : w.heap.size ≤ gb561)); have n5_ := Aside0.mk ((by rw [hg]; exact Nat.ne_of_lt (blk_lt (g := gb555) (o := .cells #[.int .u64 a1_0, .int .u64 a1_1, .int .u64 a1_2, .int .u64 a1_3] 23 (0, 0)) (by (with_reducible repeat (first | refine blk_drewN ?_ _ | refine blk_drew ?_ | refine blk_alloc ?_ _)); exact BK555.out)) : gb555 ≠ gb561)); have n6_ := Aside0.mk ((by rw [hg]; exact Nat.ne_of_gt (blk_lt (g := gb555) (o := .cells #[.int .u64 a1_0, .int .u64 a1_1, .int .u64 a1_2, .int .u64 a1_3] 23 (0, 0)) (by (with_reducible repeat (first | refine blk_drewN ?_ _ | refine blk_drew ?_ | refine blk_alloc ?_ _)); exact BK555.out)) : gb561 ≠ gb555)); clear BK555; clear HB; have BK555 := n0_; have HB := n1_; have BK561 := n2_; have GW561 := n3_; have GE561 := n4_; have NB555_561 := n5_; have NB561_555 := n6_; clear n0_ n1_ n2_ n3_ n4_ n5_ n6_; clear hb hbox hg; have hnb14 := NB561_555.out; have hnc14 := NB555_561.out; have hcz15_0 : w13.cell? ⟨gb561, 0, none⟩ = some (.int .i64 0) := (blk_cell BK561.out 0).trans rfl; have hcz15_1 : w13.cell? ⟨gb561, 1, none⟩ = some (.int .u64 0) := (blk_cell BK561.out 1).trans rfl; have hcz15_2 : w13.cell? ⟨gb561, 2, none⟩ = some (.int .u64 0) := (blk_cell BK561.out 2).trans rfl; have hcz15_3 : w13.cell? ⟨gb561, 3, none⟩ = some (.int .u64 0) := (blk_cell BK561.out 3).trans rfl; have hcz15_4 : w13.cell? ⟨gb561, 4, none⟩ = some (.int .u64 0) := (blk_cell BK561.out 4).trans rfl; have hfz15_0 := blk_frozen BK561.out 0; have hfz15_1 := blk_frozen BK561.out 1; have hfz15_2 := blk_frozen BK561.out 2; have hfz15_3 := blk_frozen BK561.out 3; have hfz15_4 := blk_frozen BK561.out 4) | ((with_reducible refine gate_callee (f := 17) rfl ?_); refine goesL_ (some 33) rfl rfl Tryd.func17 (by kernel_rfl) rfl #[.agg #[.int .i64 t556, .int .u64 t557, .int .u64 t558, .int .u64 t559, .int .u64 t560], .int .i64 (wrap64 (Int.tmod a2 25)), .int .i64 (wrap64 (Int.tmod a3 121))] rfl (by (try simp only [List.map_toArray, List.map_cons, List.map_nil]); first | done | rfl | (simp only [List.length_drop, List.length_take]; rfl) | (go_simp; done) | (go_simp; rw [Int.tmod_eq_emod_of_nonneg (by omega)]; omega)) ?_; (with_reducible refine (channel_Search.calls k t556 t557 t558 t559 t560 (wrap64 (Int.tmod a2 25)) (wrap64 (Int.tmod a3 121)) t562 t563 _ ?side1 A6.out).mono ?_); (case side1 => exact GL.below HRG.out (by repeat (first | (with_reducible first | exact HB.out | apply below_alloc | apply pw_below_drewN | apply below_drew1 | refine below_set ?_ GE555.out | refine below_set ?_ GE561.out) | exact HB.out))); rintro e w16 ⟨rfl, hb⟩; refine ⟨_, rfl, ?_⟩; have n0_ := Aside0.mk (blk_below (g := gb555) (o := .cells #[.int .u64 a1_0, .int .u64 a1_1, .int .u64 a1_2, .int .u64 a1_3] 23 (0, 0)) (by (with_reducible repeat (first | refine blk_drewN ?_ _ | refine blk_drew ?_ | refine blk_alloc ?_ _)); refine blk_far ?_ NB555_561.out _; (with_reducible repeat (first | refine blk_drewN ?_ _ | refine blk_drew ?_ | refine blk_alloc ?_ _)); refine blk_far ?_ NB555_561.out _; (with_reducible repeat (first | refine blk_drewN ?_ _ | refine blk_drew ?_ | refine blk_alloc ?_ _)); refine blk_far ?_ NB555_561.out _; (with_reducible repeat (first | refine blk_drewN ?_ _ | refine blk_drew ?_ | refine blk_alloc ?_ _)); refine blk_far ?_ NB555_561.out _; (with_reducible repeat (first | refine blk_drewN ?_ _ | refine blk_drew ?_ | refine blk_alloc ?_ _)); refine blk_far ?_ NB555_561.out _; (with_reducible repeat (first | refine blk_drewN ?_ _ | refine blk_drew ?_ | refine blk_alloc ?_ _)); exact BK555.out) hb); have n1_ := Aside0.mk (blk_below (g := gb561) (o := .cells #[.int .i64 t556, .int .u64 t557, .int .u64 t558, .int .u64 t559, .int .u64 t560] 25 (0, 0)) (by (with_reducible repeat (first | refine blk_drewN ?_ _ | refine blk_drew ?_ | refine blk_alloc ?_ _)); refine blk_put (cs := #[.int .i64 t556, .int .u64 t557, .int .u64 t558, .int .u64 t559, .int .u64 0]) ?_ 4 _ rfl; (with_reducible repeat (first | refine blk_drewN ?_ _ | refine blk_drew ?_ | refine blk_alloc ?_ _)); refine blk_put (cs := #[.int .i64 t556, .int .u64 t557, .int .u64 t558, .int .u64 0, .int .u64 0]) ?_ 3 _ rfl; (with_reducible repeat (first | refine blk_drewN ?_ _ | refine blk_drew ?_ | refine blk_alloc ?_ _)); refine blk_put (cs := #[.int .i64 t556, .int .u64 t557, .int .u64 0, .int .u64 0, .int .u64 0]) ?_ 2 _ rfl; (with_reducible repeat (first | refine blk_drewN ?_ _ | refine blk_drew ?_ | refine blk_alloc ?_ _)); refine blk_put (cs := #[.int .i64 t556, .int .u64 0, .int .u64 0, .int .u64 0, .int .u64 0]) ?_ 1 _ rfl; (with_reducible repeat (first | refine blk_drewN ?_ _ | refine blk_drew ?_ | refine blk_alloc ?_ _)); refine blk_put (cs := #[.int .i64 0, .int .u64 0, .int .u64 0, .int .u64 0, .int .u64 0]) ?_ 0 _ rfl; (with_reducible repeat (first | refine blk_drewN ?_ _ | refine blk_drew ?_ | refine blk_alloc ?_ _)); exact BK561.out) hb); have n2_ := Aside0.mk (below_step (by repeat (first | (with_reducible first | exact HB.out | apply below_alloc | apply pw_below_drewN | apply below_drew1 | refine below_set ?_ GE555.out | refine below_set ?_ GE561.out) | exact HB.out)) hb); clear BK555; clear BK561; clear HB; have BK555 := n0_; have BK561 := n1_; have HB := n2_; clear n0_ n1_ n2_; (try clear hb); (try clear hb2); (try clear hk); (try clear hi); have hcz17_0 : w16.cell? ⟨gb561, 0, none⟩ = some (.int .i64 t556) := (blk_cell BK561.out 0).trans rfl; have hcz17_1 : w16.cell? ⟨gb561, 1, none⟩ = some (.int .u64 t557) := (blk_cell BK561.out 1).trans rfl; have hcz17_2 : w16.cell? ⟨gb561, 2, none⟩ = some (.int .u64 t558) := (blk_cell BK561.out 2).trans rfl; have hcz17_3 : w16.cell? ⟨gb561, 3, none⟩ = some (.int .u64 t559) := (blk_cell BK561.out 3).trans rfl; have hcz17_4 : w16.cell? ⟨gb561, 4, none⟩ = some (.int .u64 t560) := (blk_cell BK561.out 4).trans rfl; have hfz17_0 := blk_frozen BK561.out 0; have hfz17_1 := blk_frozen BK561.out 1; have hfz17_2 := blk_frozen BK561.out 2; have hfz17_3 := blk_frozen BK561.out 3; have hfz17_4 := blk_frozen BK561.out 4) | ((with_reducible refine gate_callee (f := 20) rfl ?_); refine goesL_ (some 39) rfl rfl Tryd.func20 (by kernel_rfl) rfl #[.int .i64 t556] rfl (by (try simp only [List.map_toArray, List.map_cons, List.map_nil]); first | done | rfl | (simp only [List.length_drop, List.length_take]; rfl) | (go_simp; done) | (go_simp; rw [Int.tmod_eq_emod_of_nonneg (by omega)]; omega)) ?_; (with_reducible refine (attestorref01_P.calls t556 t564 _ A7.out).mono ?_); rintro e w' ⟨rfl, ⟨nd, rfl⟩⟩; refine ⟨_, rfl, ?_⟩))
  (try simp only [Act.put, List.setIfInBounds_toArray, List.set_cons_zero, List.set_cons_succ])
  go_cut [14] (fun v14 wc => ∃ (kq : Nat) (x14_8 : Int), v14 = .int .u64 x14_8 ∧ Aside0 (attestorlaw08_ChannelLeast.j0 kq (wrap64 (Int.tmod a2 25)) x14_8 t556 t557 t558 t559 t560 = some r) ∧ Aside0 (kq ≤ k) ∧ Aside0 (wc.heap[gb555]? = some (.cells #[.int .u64 a1_0, .int .u64 a1_1, .int .u64 a1_2, .int .u64 a1_3] 23 (0, 0))) ∧ Aside0 (wc.heap[gb561]? = some (.cells #[.int .i64 t556, .int .u64 t557, .int .u64 t558, .int .u64 t559, .int .u64 t560] 25 (0, 0))) ∧ Aside0 (Below w.heap.size w wc))
  case first =>
    have H := HC9.out
    clear HC9
    by_cases c18 : t563 = true
    · subst c18
      have H1 : ((channel_Grind.f k t556 t557 t558 t559 t560 t562 (wrap64 (Int.tmod a2 25))).bind fun bt565 => (if bt565.2.2.2.2.2 = true then (if t562 ≥ (IntKind.u64.wrap (ji8)) then (none) else (attestorlaw08_ChannelLeast.j0 k (wrap64 (Int.tmod a2 25)) t562 t556 t557 t558 t559 t560)) else (none))) = some r := by rw [if_pos rfl] at H; exact H
      clear H
      have H := H1
      clear H1
      replace H := Option.bind_eq_some_iff.mp H
      obtain ⟨⟨t565, t566, t567, t568, t569, t570⟩, A190, H⟩ := H
      replace H : (if t570 = true then (if t562 ≥ (IntKind.u64.wrap (ji8)) then (none) else (attestorlaw08_ChannelLeast.j0 k (wrap64 (Int.tmod a2 25)) t562 t556 t557 t558 t559 t560)) else (none)) = some r := H
      have A19 := Aside0.mk A190
      clear A190
      by_cases c20 : t570 = true
      · subst c20
        have H1 : (if t562 ≥ (IntKind.u64.wrap (ji8)) then (none) else (attestorlaw08_ChannelLeast.j0 k (wrap64 (Int.tmod a2 25)) t562 t556 t557 t558 t559 t560)) = some r := by rw [if_pos rfl] at H; exact H
        clear H
        have H := H1
        clear H1
        by_cases c21 : t562 ≥ (IntKind.u64.wrap (ji8))
        · rw [if_pos c21] at H
          exact absurd H (by simp)
        · rw [if_neg c21] at H
          have c21b0 : decide ((IntKind.u64.wrap (ji8)) ≤ t562) = false := decide_eq_false c21
          clear c21
          (first | rw [c21b0] | (simp only [i64_w, i32_w]; rw [c21b0]) | skip)
          have H' := Aside0.mk H
          clear H
          have hnb22 := NB561_555.out
          have hnc22 := NB555_561.out
          have hcz23_0 : w16.cell? ⟨gb561, 0, none⟩ = some (.int .i64 t556) := (blk_cell BK561.out 0).trans rfl
          have hcz23_1 : w16.cell? ⟨gb561, 1, none⟩ = some (.int .u64 t557) := (blk_cell BK561.out 1).trans rfl
          have hcz23_2 : w16.cell? ⟨gb561, 2, none⟩ = some (.int .u64 t558) := (blk_cell BK561.out 2).trans rfl
          have hcz23_3 : w16.cell? ⟨gb561, 3, none⟩ = some (.int .u64 t559) := (blk_cell BK561.out 3).trans rfl
          have hcz23_4 : w16.cell? ⟨gb561, 4, none⟩ = some (.int .u64 t560) := (blk_cell BK561.out 4).trans rfl
          have hfz23_0 := blk_frozen BK561.out 0
          have hfz23_1 := blk_frozen BK561.out 1
          have hfz23_2 := blk_frozen BK561.out 2
          have hfz23_3 := blk_frozen BK561.out 3
          have hfz23_4 := blk_frozen BK561.out 4
          go_wp2_with (first | ((with_reducible refine gate_callee (f := 15) rfl ?_); refine goesL_ (some 48) rfl rfl Tryd.func15 (by kernel_rfl) rfl #[.agg #[.int .i64 t556, .int .u64 t557, .int .u64 t558, .int .u64 t559, .int .u64 t560], .int .u64 t562, .int .i64 (wrap64 (Int.tmod a2 25))] rfl (by (try simp only [List.map_toArray, List.map_cons, List.map_nil]); first | done | rfl | (simp only [List.length_drop, List.length_take]; rfl) | (go_simp; done) | (go_simp; rw [Int.tmod_eq_emod_of_nonneg (by omega)]; omega)) ?_; (with_reducible refine (channel_Grind.calls k t556 t557 t558 t559 t560 t562 (wrap64 (Int.tmod a2 25)) t565 t566 t567 t568 t569 true _ ?side1 A19.out).mono ?_); (case side1 => repeat (first | exact (GL.below HRG.out HB.out) | (with_reducible refine GL.alloc ?_ _) | (with_reducible refine GL.drewN ?_ _) | (with_reducible refine GL.drew ?_))); rintro e w24 ⟨rfl, hb⟩; refine ⟨_, rfl, ?_⟩; have n0_ := Aside0.mk (blk_below (g := gb555) (o := .cells #[.int .u64 a1_0, .int .u64 a1_1, .int .u64 a1_2, .int .u64 a1_3] 23 (0, 0)) (by (with_reducible repeat (first | refine blk_drewN ?_ _ | refine blk_drew ?_ | refine blk_alloc ?_ _)); exact BK555.out) hb); have n1_ := Aside0.mk (blk_below (g := gb561) (o := .cells #[.int .i64 t556, .int .u64 t557, .int .u64 t558, .int .u64 t559, .int .u64 t560] 25 (0, 0)) (by (with_reducible repeat (first | refine blk_drewN ?_ _ | refine blk_drew ?_ | refine blk_alloc ?_ _)); exact BK561.out) hb); have n2_ := Aside0.mk (below_step (by repeat (first | (with_reducible first | exact HB.out | apply below_alloc | apply pw_below_drewN | apply below_drew1 | refine below_set ?_ GE555.out | refine below_set ?_ GE561.out) | exact HB.out)) hb); clear BK555; clear BK561; clear HB; have BK555 := n0_; have BK561 := n1_; have HB := n2_; clear n0_ n1_ n2_; (try clear hb); (try clear hb2); (try clear hk); (try clear hi)) | ((with_reducible refine gate_dst (N := 15) rfl ?_); refine box_event ?hg (N := 15) ?hd (cs := #[.int .i64 0, .int .u64 0, .int .u64 0, .int .u64 0, .int .u64 0]) (t := 25) ?hr ?_; (case hd => rfl); (case hg => rfl); (case hr => first | (go_simp; done) | (go_simp; rfl)); intro gb571 hg w25 hbox hb; have n0_ := Aside0.mk (blk_below (g := gb555) (o := .cells #[.int .u64 a1_0, .int .u64 a1_1, .int .u64 a1_2, .int .u64 a1_3] 23 (0, 0)) (by (with_reducible repeat (first | refine blk_drewN ?_ _ | refine blk_drew ?_ | refine blk_alloc ?_ _)); exact BK555.out) hb); have n1_ := Aside0.mk (blk_below (g := gb561) (o := .cells #[.int .i64 t556, .int .u64 t557, .int .u64 t558, .int .u64 t559, .int .u64 t560] 25 (0, 0)) (by (with_reducible repeat (first | refine blk_drewN ?_ _ | refine blk_drew ?_ | refine blk_alloc ?_ _)); exact BK561.out) hb); have n2_ := Aside0.mk (below_step (by repeat (first | (with_reducible first | exact HB.out | apply below_alloc | apply pw_below_drewN | apply below_drew1 | refine below_set ?_ GE555.out | refine below_set ?_ GE561.out) | exact HB.out)) hb); have n3_ := Aside0.mk (hbox); have n4_ := Aside0.mk ((by rw [hg]; exact (below_size (by repeat (first | (with_reducible first | exact HB.out | apply below_alloc | apply pw_below_drewN | apply below_drew1 | refine below_set ?_ GE555.out | refine below_set ?_ GE561.out) | exact HB.out))) : w.heap.size ≤ gb571)); have n5_ := Aside0.mk ((by rw [hg]; exact (below_size (by repeat (first | (with_reducible first | exact HB.out | apply below_alloc | apply pw_below_drewN | apply below_drew1 | refine below_set ?_ GE555.out | refine below_set ?_ GE561.out) | exact HB.out))) : w.heap.size ≤ gb571)); have n6_ := Aside0.mk ((by rw [hg]; exact Nat.ne_of_lt (blk_lt (g := gb555) (o := .cells #[.int .u64 a1_0, .int .u64 a1_1, .int .u64 a1_2, .int .u64 a1_3] 23 (0, 0)) (by (with_reducible repeat (first | refine blk_drewN ?_ _ | refine blk_drew ?_ | refine blk_alloc ?_ _)); exact BK555.out)) : gb555 ≠ gb571)); have n7_ := Aside0.mk ((by rw [hg]; exact Nat.ne_of_gt (blk_lt (g := gb555) (o := .cells #[.int .u64 a1_0, .int .u64 a1_1, .int .u64 a1_2, .int .u64 a1_3] 23 (0, 0)) (by (with_reducible repeat (first | refine blk_drewN ?_ _ | refine blk_drew ?_ | refine blk_alloc ?_ _)); exact BK555.out)) : gb571 ≠ gb555)); have n8_ := Aside0.mk ((by rw [hg]; exact Nat.ne_of_lt (blk_lt (g := gb561) (o := .cells #[.int .i64 t556, .int .u64 t557, .int .u64 t558, .int .u64 t559, .int .u64 t560] 25 (0, 0)) (by (with_reducible repeat (first | refine blk_drewN ?_ _ | refine blk_drew ?_ | refine blk_alloc ?_ _)); exact BK561.out)) : gb561 ≠ gb571)); have n9_ := Aside0.mk ((by rw [hg]; exact Nat.ne_of_gt (blk_lt (g := gb561) (o := .cells #[.int .i64 t556, .int .u64 t557, .int .u64 t558, .int .u64 t559, .int .u64 t560] 25 (0, 0)) (by (with_reducible repeat (first | refine blk_drewN ?_ _ | refine blk_drew ?_ | refine blk_alloc ?_ _)); exact BK561.out)) : gb571 ≠ gb561)); clear BK555; clear BK561; clear HB; have BK555 := n0_; have BK561 := n1_; have HB := n2_; have BK571 := n3_; have GW571 := n4_; have GE571 := n5_; have NB555_571 := n6_; have NB571_555 := n7_; have NB561_571 := n8_; have NB571_561 := n9_; clear n0_ n1_ n2_ n3_ n4_ n5_ n6_ n7_ n8_ n9_; clear hb hbox hg; have hnb26 := NB571_555.out; have hnc26 := NB555_571.out; have hnb27 := NB571_561.out; have hnc27 := NB561_571.out; have hcz28_0 : w25.cell? ⟨gb571, 0, none⟩ = some (.int .i64 0) := (blk_cell BK571.out 0).trans rfl; have hcz28_1 : w25.cell? ⟨gb571, 1, none⟩ = some (.int .u64 0) := (blk_cell BK571.out 1).trans rfl; have hcz28_2 : w25.cell? ⟨gb571, 2, none⟩ = some (.int .u64 0) := (blk_cell BK571.out 2).trans rfl; have hcz28_3 : w25.cell? ⟨gb571, 3, none⟩ = some (.int .u64 0) := (blk_cell BK571.out 3).trans rfl; have hcz28_4 : w25.cell? ⟨gb571, 4, none⟩ = some (.int .u64 0) := (blk_cell BK571.out 4).trans rfl; have hfz28_0 := blk_frozen BK571.out 0; have hfz28_1 := blk_frozen BK571.out 1; have hfz28_2 := blk_frozen BK571.out 2; have hfz28_3 := blk_frozen BK571.out 3; have hfz28_4 := blk_frozen BK571.out 4))
          go_meet
          case rel => exact ⟨_, (t562), (by first | rfl | (simp; done) | (simp [*]; done) | (simp; rfl) | (simp; decide +kernel)), H', ⟨by first | omega | exact Nat.le_refl _⟩, ⟨by (with_reducible repeat (first | refine blk_drewN ?_ _ | refine blk_drew ?_ | refine blk_alloc ?_ _)); refine blk_far ?_ NB555_571.out _; (with_reducible repeat (first | refine blk_drewN ?_ _ | refine blk_drew ?_ | refine blk_alloc ?_ _)); refine blk_far ?_ NB555_571.out _; (with_reducible repeat (first | refine blk_drewN ?_ _ | refine blk_drew ?_ | refine blk_alloc ?_ _)); refine blk_far ?_ NB555_571.out _; (with_reducible repeat (first | refine blk_drewN ?_ _ | refine blk_drew ?_ | refine blk_alloc ?_ _)); refine blk_far ?_ NB555_571.out _; (with_reducible repeat (first | refine blk_drewN ?_ _ | refine blk_drew ?_ | refine blk_alloc ?_ _)); refine blk_far ?_ NB555_571.out _; (with_reducible repeat (first | refine blk_drewN ?_ _ | refine blk_drew ?_ | refine blk_alloc ?_ _)); exact BK555.out⟩, ⟨by (with_reducible repeat (first | refine blk_drewN ?_ _ | refine blk_drew ?_ | refine blk_alloc ?_ _)); refine blk_far ?_ NB561_571.out _; (with_reducible repeat (first | refine blk_drewN ?_ _ | refine blk_drew ?_ | refine blk_alloc ?_ _)); refine blk_far ?_ NB561_571.out _; (with_reducible repeat (first | refine blk_drewN ?_ _ | refine blk_drew ?_ | refine blk_alloc ?_ _)); refine blk_far ?_ NB561_571.out _; (with_reducible repeat (first | refine blk_drewN ?_ _ | refine blk_drew ?_ | refine blk_alloc ?_ _)); refine blk_far ?_ NB561_571.out _; (with_reducible repeat (first | refine blk_drewN ?_ _ | refine blk_drew ?_ | refine blk_alloc ?_ _)); refine blk_far ?_ NB561_571.out _; (with_reducible repeat (first | refine blk_drewN ?_ _ | refine blk_drew ?_ | refine blk_alloc ?_ _)); exact BK561.out⟩, ⟨by repeat (first | (with_reducible first | exact HB.out | apply below_alloc | apply pw_below_drewN | apply below_drew1 | refine below_set ?_ GE555.out | refine below_set ?_ GE561.out | refine below_set ?_ GE571.out) | exact HB.out)⟩⟩
      · replace c20 := Bool.eq_false_iff.mpr c20
        subst c20
        have H1 : (none) = some r := by rw [if_neg (show ¬ (false = true) by decide)] at H; exact H
        clear H
        have H := H1
        clear H1
        exact absurd H (by simp)
    · replace c18 := Bool.eq_false_iff.mpr c18
      subst c18
      have H1 : (if t562 = 0 then (attestorlaw08_ChannelLeast.j0 k (wrap64 (Int.tmod a2 25)) (IntKind.u64.wrap (ji8)) t556 t557 t558 t559 t560) else (none)) = some r := by rw [if_neg (show ¬ (false = true) by decide)] at H; exact H
      clear H
      have H := H1
      clear H1
      by_cases c29 : t562 = 0
      · rw [if_pos c29] at H
        have c29b0 : (t562 == 0) = true := beq_iff_eq.mpr c29
        have c29b1 : (t562 != 0) = false := bne_eq_false_iff_eq.mpr c29
        clear c29
        have H' := Aside0.mk H
        clear H
        go_wp2
        go_meet
        case rel => exact ⟨_, (IntKind.u64.wrap (ji8)), (by first | rfl | (simp; done) | (simp only [← hji8] <;> (first | rfl | simp)) | (simp [*]; done) | (simp; rfl) | (simp; decide +kernel)), H', ⟨by first | omega | exact Nat.le_refl _⟩, ⟨by (with_reducible repeat (first | refine blk_drewN ?_ _ | refine blk_drew ?_ | refine blk_alloc ?_ _)); exact BK555.out⟩, ⟨by (with_reducible repeat (first | refine blk_drewN ?_ _ | refine blk_drew ?_ | refine blk_alloc ?_ _)); exact BK561.out⟩, ⟨by repeat (first | (with_reducible first | exact HB.out | apply below_alloc | apply pw_below_drewN | apply below_drew1 | refine below_set ?_ GE555.out | refine below_set ?_ GE561.out) | exact HB.out)⟩⟩
      · rw [if_neg c29] at H
        exact absurd H (by simp)
  case rest =>
    clear HC9
    try clear c1
    try clear c2
    try clear p2
    try clear c6
    try clear p6
    try clear c14
    try clear c15
    try clear c17
    try clear c18
    try clear c19
    try clear c20
    try clear c21
    try clear c21b0
    try clear c22
    try clear c26
    try clear c27
    try clear c29
    try clear c29b0
    try clear c29b1
    try clear hcz11_0
    try clear hcz11_1
    try clear hcz11_2
    try clear hcz11_3
    try clear hcz15_0
    try clear hcz15_1
    try clear hcz15_2
    try clear hcz15_3
    try clear hcz15_4
    try clear hcz17_0
    try clear hcz17_1
    try clear hcz17_2
    try clear hcz17_3
    try clear hcz17_4
    try clear hcz23_0
    try clear hcz23_1
    try clear hcz23_2
    try clear hcz23_3
    try clear hcz23_4
    try clear hcz28_0
    try clear hcz28_1
    try clear hcz28_2
    try clear hcz28_3
    try clear hcz28_4
    try clear hfz11_0
    try clear hfz11_1
    try clear hfz11_2
    try clear hfz11_3
    try clear hfz15_0
    try clear hfz15_1
    try clear hfz15_2
    try clear hfz15_3
    try clear hfz15_4
    try clear hfz17_0
    try clear hfz17_1
    try clear hfz17_2
    try clear hfz17_3
    try clear hfz17_4
    try clear hfz23_0
    try clear hfz23_1
    try clear hfz23_2
    try clear hfz23_3
    try clear hfz23_4
    try clear hfz28_0
    try clear hfz28_1
    try clear hfz28_2
    try clear hfz28_3
    try clear hfz28_4
    obtain ⟨kq, x14_8, rfl, HA, HJ8, BK555, BK561, HB⟩ := hcut
    cases kq with
    | zero => exact absurd HA.out (by simp [attestorlaw08_ChannelLeast.j0])
    | succ kj8 =>
      have H := HA.out
      clear HA
      simp only [attestorlaw08_ChannelLeast.j0] at H
      have H' := Aside0.mk H
      clear H
      go_wp2
      go_loopg [17] kj8 (fun kq v17 w' => ∃ (x17_2 : Int), v17 = .int .u64 x17_2 ∧ Aside0 (attestorlaw08_ChannelLeast.l0 kq (wrap64 (Int.tmod a2 25)) x14_8 x17_2 t556 t557 t558 t559 t560 = some r) ∧ Aside0 (kq ≤ kj8) ∧ Aside0 (w'.heap[gb555]? = some (.cells #[.int .u64 a1_0, .int .u64 a1_1, .int .u64 a1_2, .int .u64 a1_3] 23 (0, 0))) ∧ Aside0 (w'.heap[gb561]? = some (.cells #[.int .i64 t556, .int .u64 t557, .int .u64 t558, .int .u64 t559, .int .u64 t560] 25 (0, 0))) ∧ Aside0 (Below w.heap.size w w'))
      case atStart => exact ⟨(0), (by first | rfl | (simp; done) | (simp [*]; done) | (simp; rfl) | (simp; decide +kernel)), H', ⟨Nat.le_refl _⟩, ⟨by (with_reducible repeat (first | refine blk_drewN ?_ _ | refine blk_drew ?_ | refine blk_alloc ?_ _)); exact BK555.out⟩, ⟨by (with_reducible repeat (first | refine blk_drewN ?_ _ | refine blk_drew ?_ | refine blk_alloc ?_ _)); exact BK561.out⟩, ⟨by repeat (first | (with_reducible first | exact HB.out | apply below_alloc | apply pw_below_drewN | apply below_drew1 | refine below_set ?_ GE555.out | refine below_set ?_ GE561.out) | exact HB.out)⟩⟩
      case round =>
        clear H'
        try clear c1
        try clear c2
        try clear p2
        try clear c6
        try clear p6
        try clear c14
        try clear c15
        try clear c17
        try clear c18
        try clear c19
        try clear c20
        try clear c21
        try clear c21b0
        try clear c22
        try clear c26
        try clear c27
        try clear c29
        try clear c29b0
        try clear c29b1
        try clear hcz11_0
        try clear hcz11_1
        try clear hcz11_2
        try clear hcz11_3
        try clear hcz15_0
        try clear hcz15_1
        try clear hcz15_2
        try clear hcz15_3
        try clear hcz15_4
        try clear hcz17_0
        try clear hcz17_1
        try clear hcz17_2
        try clear hcz17_3
        try clear hcz17_4
        try clear hcz23_0
        try clear hcz23_1
        try clear hcz23_2
        try clear hcz23_3
        try clear hcz23_4
        try clear hcz28_0
        try clear hcz28_1
        try clear hcz28_2
        try clear hcz28_3
        try clear hcz28_4
        try clear hfz11_0
        try clear hfz11_1
        try clear hfz11_2
        try clear hfz11_3
        try clear hfz15_0
        try clear hfz15_1
        try clear hfz15_2
        try clear hfz15_3
        try clear hfz15_4
        try clear hfz17_0
        try clear hfz17_1
        try clear hfz17_2
        try clear hfz17_3
        try clear hfz17_4
        try clear hfz23_0
        try clear hfz23_1
        try clear hfz23_2
        try clear hfz23_3
        try clear hfz23_4
        try clear hfz28_0
        try clear hfz28_1
        try clear hfz28_2
        try clear hfz28_3
        try clear hfz28_4
        try clear p2
        try clear p6
        obtain ⟨x17_2, rfl, HA, HK2, BK555, BK561, HB⟩ := hrel
        cases gk with
        | zero => exact absurd HA.out (by simp [attestorlaw08_ChannelLeast.l0])
        | succ k2 =>
          have H := HA.out
          clear HA
          simp only [attestorlaw08_ChannelLeast.l0] at H
          by_cases c30 : x17_2 < x14_8
          · rw [if_pos c30] at H
            have c30b0 : decide (x17_2 < x14_8) = true := decide_eq_true c30
            clear c30
            replace H := Option.bind_eq_some_iff.mp H
            obtain ⟨⟨t572, t573, t574, t575, t576, t577⟩, A310, H⟩ := H
            replace H : (if t577 = true then (none) else (attestorlaw08_ChannelLeast.l0 k2 (wrap64 (Int.tmod a2 25)) x14_8 (IntKind.u64.wrap (x17_2 + 1)) t556 t557 t558 t559 t560)) = some r := H
            have A31 := Aside0.mk A310
            clear A310
            by_cases c32 : t577 = true
            · subst c32
              have H1 : (none) = some r := by rw [if_pos rfl] at H; exact H
              clear H
              have H := H1
              clear H1
              exact absurd H (by simp)
            · replace c32 := Bool.eq_false_iff.mpr c32
              subst c32
              have H1 : (attestorlaw08_ChannelLeast.l0 k2 (wrap64 (Int.tmod a2 25)) x14_8 (IntKind.u64.wrap (x17_2 + 1)) t556 t557 t558 t559 t560) = some r := by rw [if_neg (show ¬ (false = true) by decide)] at H; exact H
              clear H
              have H := H1
              clear H1
              have H' := Aside0.mk H
              clear H
              have hnb33 := NB561_555.out
              have hnc33 := NB555_561.out
              have hcz34_0 : wr.cell? ⟨gb561, 0, none⟩ = some (.int .i64 t556) := (blk_cell BK561.out 0).trans rfl
              have hcz34_1 : wr.cell? ⟨gb561, 1, none⟩ = some (.int .u64 t557) := (blk_cell BK561.out 1).trans rfl
              have hcz34_2 : wr.cell? ⟨gb561, 2, none⟩ = some (.int .u64 t558) := (blk_cell BK561.out 2).trans rfl
              have hcz34_3 : wr.cell? ⟨gb561, 3, none⟩ = some (.int .u64 t559) := (blk_cell BK561.out 3).trans rfl
              have hcz34_4 : wr.cell? ⟨gb561, 4, none⟩ = some (.int .u64 t560) := (blk_cell BK561.out 4).trans rfl
              have hfz34_0 := blk_frozen BK561.out 0
              have hfz34_1 := blk_frozen BK561.out 1
              have hfz34_2 := blk_frozen BK561.out 2
              have hfz34_3 := blk_frozen BK561.out 3
              have hfz34_4 := blk_frozen BK561.out 4
              go_wp2_with (first | ((with_reducible refine gate_callee (f := 15) rfl ?_); refine goesL_ (some 70) rfl rfl Tryd.func15 (by kernel_rfl) rfl #[.agg #[.int .i64 t556, .int .u64 t557, .int .u64 t558, .int .u64 t559, .int .u64 t560], .int .u64 x17_2, .int .i64 (wrap64 (Int.tmod a2 25))] rfl (by (try simp only [List.map_toArray, List.map_cons, List.map_nil]); first | done | rfl | (simp only [List.length_drop, List.length_take]; rfl) | (go_simp; done) | (go_simp; rw [Int.tmod_eq_emod_of_nonneg (by omega)]; omega)) ?_; (with_reducible refine (channel_Grind.calls k2 t556 t557 t558 t559 t560 x17_2 (wrap64 (Int.tmod a2 25)) t572 t573 t574 t575 t576 false _ ?side1 A31.out).mono ?_); (case side1 => repeat (first | exact (GL.below HRG.out HB.out) | (with_reducible refine GL.alloc ?_ _) | (with_reducible refine GL.drewN ?_ _) | (with_reducible refine GL.drew ?_))); rintro e w35 ⟨rfl, hb⟩; refine ⟨_, rfl, ?_⟩; have n0_ := Aside0.mk (blk_below (g := gb555) (o := .cells #[.int .u64 a1_0, .int .u64 a1_1, .int .u64 a1_2, .int .u64 a1_3] 23 (0, 0)) (by (with_reducible repeat (first | refine blk_drewN ?_ _ | refine blk_drew ?_ | refine blk_alloc ?_ _)); exact BK555.out) hb); have n1_ := Aside0.mk (blk_below (g := gb561) (o := .cells #[.int .i64 t556, .int .u64 t557, .int .u64 t558, .int .u64 t559, .int .u64 t560] 25 (0, 0)) (by (with_reducible repeat (first | refine blk_drewN ?_ _ | refine blk_drew ?_ | refine blk_alloc ?_ _)); exact BK561.out) hb); have n2_ := Aside0.mk (below_step (by repeat (first | (with_reducible first | exact HB.out | apply below_alloc | apply pw_below_drewN | apply below_drew1 | refine below_set ?_ GE555.out | refine below_set ?_ GE561.out) | exact HB.out)) hb); clear BK555; clear BK561; clear HB; have BK555 := n0_; have BK561 := n1_; have HB := n2_; clear n0_ n1_ n2_; (try clear hb); (try clear hb2); (try clear hk); (try clear hi)) | ((with_reducible refine gate_dst (N := 18) rfl ?_); refine box_event ?hg (N := 18) ?hd (cs := #[.int .i64 0, .int .u64 0, .int .u64 0, .int .u64 0, .int .u64 0]) (t := 25) ?hr ?_; (case hd => rfl); (case hg => rfl); (case hr => first | (go_simp; done) | (go_simp; rfl)); intro gb578 hg w36 hbox hb; have n0_ := Aside0.mk (blk_below (g := gb555) (o := .cells #[.int .u64 a1_0, .int .u64 a1_1, .int .u64 a1_2, .int .u64 a1_3] 23 (0, 0)) (by (with_reducible repeat (first | refine blk_drewN ?_ _ | refine blk_drew ?_ | refine blk_alloc ?_ _)); exact BK555.out) hb); have n1_ := Aside0.mk (blk_below (g := gb561) (o := .cells #[.int .i64 t556, .int .u64 t557, .int .u64 t558, .int .u64 t559, .int .u64 t560] 25 (0, 0)) (by (with_reducible repeat (first | refine blk_drewN ?_ _ | refine blk_drew ?_ | refine blk_alloc ?_ _)); exact BK561.out) hb); have n2_ := Aside0.mk (below_step (by repeat (first | (with_reducible first | exact HB.out | apply below_alloc | apply pw_below_drewN | apply below_drew1 | refine below_set ?_ GE555.out | refine below_set ?_ GE561.out) | exact HB.out)) hb); have n3_ := Aside0.mk (hbox); have n4_ := Aside0.mk ((by rw [hg]; exact (below_size (by repeat (first | (with_reducible first | exact HB.out | apply below_alloc | apply pw_below_drewN | apply below_drew1 | refine below_set ?_ GE555.out | refine below_set ?_ GE561.out) | exact HB.out))) : w.heap.size ≤ gb578)); have n5_ := Aside0.mk ((by rw [hg]; exact (below_size (by repeat (first | (with_reducible first | exact HB.out | apply below_alloc | apply pw_below_drewN | apply below_drew1 | refine below_set ?_ GE555.out | refine below_set ?_ GE561.out) | exact HB.out))) : w.heap.size ≤ gb578)); have n6_ := Aside0.mk ((by rw [hg]; exact Nat.ne_of_lt (blk_lt (g := gb555) (o := .cells #[.int .u64 a1_0, .int .u64 a1_1, .int .u64 a1_2, .int .u64 a1_3] 23 (0, 0)) (by (with_reducible repeat (first | refine blk_drewN ?_ _ | refine blk_drew ?_ | refine blk_alloc ?_ _)); exact BK555.out)) : gb555 ≠ gb578)); have n7_ := Aside0.mk ((by rw [hg]; exact Nat.ne_of_gt (blk_lt (g := gb555) (o := .cells #[.int .u64 a1_0, .int .u64 a1_1, .int .u64 a1_2, .int .u64 a1_3] 23 (0, 0)) (by (with_reducible repeat (first | refine blk_drewN ?_ _ | refine blk_drew ?_ | refine blk_alloc ?_ _)); exact BK555.out)) : gb578 ≠ gb555)); have n8_ := Aside0.mk ((by rw [hg]; exact Nat.ne_of_lt (blk_lt (g := gb561) (o := .cells #[.int .i64 t556, .int .u64 t557, .int .u64 t558, .int .u64 t559, .int .u64 t560] 25 (0, 0)) (by (with_reducible repeat (first | refine blk_drewN ?_ _ | refine blk_drew ?_ | refine blk_alloc ?_ _)); exact BK561.out)) : gb561 ≠ gb578)); have n9_ := Aside0.mk ((by rw [hg]; exact Nat.ne_of_gt (blk_lt (g := gb561) (o := .cells #[.int .i64 t556, .int .u64 t557, .int .u64 t558, .int .u64 t559, .int .u64 t560] 25 (0, 0)) (by (with_reducible repeat (first | refine blk_drewN ?_ _ | refine blk_drew ?_ | refine blk_alloc ?_ _)); exact BK561.out)) : gb578 ≠ gb561)); clear BK555; clear BK561; clear HB; have BK555 := n0_; have BK561 := n1_; have HB := n2_; have BK578 := n3_; have GW578 := n4_; have GE578 := n5_; have NB555_578 := n6_; have NB578_555 := n7_; have NB561_578 := n8_; have NB578_561 := n9_; clear n0_ n1_ n2_ n3_ n4_ n5_ n6_ n7_ n8_ n9_; clear hb hbox hg; have hnb37 := NB578_555.out; have hnc37 := NB555_578.out; have hnb38 := NB578_561.out; have hnc38 := NB561_578.out; have hcz39_0 : w36.cell? ⟨gb578, 0, none⟩ = some (.int .i64 0) := (blk_cell BK578.out 0).trans rfl; have hcz39_1 : w36.cell? ⟨gb578, 1, none⟩ = some (.int .u64 0) := (blk_cell BK578.out 1).trans rfl; have hcz39_2 : w36.cell? ⟨gb578, 2, none⟩ = some (.int .u64 0) := (blk_cell BK578.out 2).trans rfl; have hcz39_3 : w36.cell? ⟨gb578, 3, none⟩ = some (.int .u64 0) := (blk_cell BK578.out 3).trans rfl; have hcz39_4 : w36.cell? ⟨gb578, 4, none⟩ = some (.int .u64 0) := (blk_cell BK578.out 4).trans rfl; have hfz39_0 := blk_frozen BK578.out 0; have hfz39_1 := blk_frozen BK578.out 1; have hfz39_2 := blk_frozen BK578.out 2; have hfz39_3 := blk_frozen BK578.out 3; have hfz39_4 := blk_frozen BK578.out 4))
              go_roundg k2
              case measure => have := HJ8.out; have := HK2.out; omega
              case rel => exact ⟨(IntKind.u64.wrap (x17_2 + 1)), (by first | rfl | (simp; done) | (simp [*]; done) | (simp; rfl) | (simp; decide +kernel)), H', ⟨by have := HJ8.out; have := HK2.out; omega⟩, ⟨by (with_reducible repeat (first | refine blk_drewN ?_ _ | refine blk_drew ?_ | refine blk_alloc ?_ _)); refine blk_far ?_ NB555_578.out _; (with_reducible repeat (first | refine blk_drewN ?_ _ | refine blk_drew ?_ | refine blk_alloc ?_ _)); refine blk_far ?_ NB555_578.out _; (with_reducible repeat (first | refine blk_drewN ?_ _ | refine blk_drew ?_ | refine blk_alloc ?_ _)); refine blk_far ?_ NB555_578.out _; (with_reducible repeat (first | refine blk_drewN ?_ _ | refine blk_drew ?_ | refine blk_alloc ?_ _)); refine blk_far ?_ NB555_578.out _; (with_reducible repeat (first | refine blk_drewN ?_ _ | refine blk_drew ?_ | refine blk_alloc ?_ _)); refine blk_far ?_ NB555_578.out _; (with_reducible repeat (first | refine blk_drewN ?_ _ | refine blk_drew ?_ | refine blk_alloc ?_ _)); exact BK555.out⟩, ⟨by (with_reducible repeat (first | refine blk_drewN ?_ _ | refine blk_drew ?_ | refine blk_alloc ?_ _)); refine blk_far ?_ NB561_578.out _; (with_reducible repeat (first | refine blk_drewN ?_ _ | refine blk_drew ?_ | refine blk_alloc ?_ _)); refine blk_far ?_ NB561_578.out _; (with_reducible repeat (first | refine blk_drewN ?_ _ | refine blk_drew ?_ | refine blk_alloc ?_ _)); refine blk_far ?_ NB561_578.out _; (with_reducible repeat (first | refine blk_drewN ?_ _ | refine blk_drew ?_ | refine blk_alloc ?_ _)); refine blk_far ?_ NB561_578.out _; (with_reducible repeat (first | refine blk_drewN ?_ _ | refine blk_drew ?_ | refine blk_alloc ?_ _)); refine blk_far ?_ NB561_578.out _; (with_reducible repeat (first | refine blk_drewN ?_ _ | refine blk_drew ?_ | refine blk_alloc ?_ _)); exact BK561.out⟩, ⟨by repeat (first | (with_reducible first | exact HB.out | apply below_alloc | apply pw_below_drewN | apply below_drew1 | refine below_set ?_ GE555.out | refine below_set ?_ GE561.out | refine below_set ?_ GE578.out) | exact HB.out)⟩⟩
          · rw [if_neg c30] at H
            have c30b0 : decide (x17_2 < x14_8) = false := decide_eq_false c30
            clear c30
            replace H := Option.bind_eq_some_iff.mp H
            obtain ⟨t579, A400, H⟩ := H
            replace H : (some t579) = some r := H
            have A40 := Aside0.mk A400
            clear A400
            obtain rfl := Option.some.inj H
            go_wp2_with (first | ((with_reducible refine gate_callee (f := 14) rfl ?_); refine goesL_ (some 74) rfl rfl Tryd.func14 (by kernel_rfl) rfl #[] rfl (by (try simp only [List.map_toArray, List.map_cons, List.map_nil]); first | done | rfl | (simp only [List.length_drop, List.length_take]; rfl) | (go_simp; done) | (go_simp; rw [Int.tmod_eq_emod_of_nonneg (by omega)]; omega)) ?_; (with_reducible refine (attestorlaw08_lives.calls k2  t579 _ ?side1 A40.out).mono ?_); (case side1 => repeat (first | exact (GL.below HRG.out HB.out) | (with_reducible refine GL.alloc ?_ _) | (with_reducible refine GL.drewN ?_ _) | (with_reducible refine GL.drew ?_))); rintro e w41 ⟨rfl, hb⟩; refine ⟨_, rfl, ?_⟩; have n0_ := Aside0.mk (blk_below (g := gb555) (o := .cells #[.int .u64 a1_0, .int .u64 a1_1, .int .u64 a1_2, .int .u64 a1_3] 23 (0, 0)) (by (with_reducible repeat (first | refine blk_drewN ?_ _ | refine blk_drew ?_ | refine blk_alloc ?_ _)); exact BK555.out) hb); have n1_ := Aside0.mk (blk_below (g := gb561) (o := .cells #[.int .i64 t556, .int .u64 t557, .int .u64 t558, .int .u64 t559, .int .u64 t560] 25 (0, 0)) (by (with_reducible repeat (first | refine blk_drewN ?_ _ | refine blk_drew ?_ | refine blk_alloc ?_ _)); exact BK561.out) hb); have n2_ := Aside0.mk (below_step (by repeat (first | (with_reducible first | exact HB.out | apply below_alloc | apply pw_below_drewN | apply below_drew1 | refine below_set ?_ GE555.out | refine below_set ?_ GE561.out) | exact HB.out)) hb); clear BK555; clear BK561; clear HB; have BK555 := n0_; have BK561 := n1_; have HB := n2_; clear n0_ n1_ n2_; (try clear hb); (try clear hb2); (try clear hk); (try clear hi)))
            go_ret
            exact ⟨by first | rfl | (simp [errW_none, errW_some] <;> rfl) | (simp only [← hji8]; first | rfl | (simp [errW_none, errW_some] <;> rfl)) | (simp [*, errW_none, errW_some] <;> rfl), by repeat (first | (with_reducible first | exact HB.out | apply below_alloc | apply pw_below_drewN | apply below_drew1 | refine below_set ?_ GE555.out | refine below_set ?_ GE561.out) | exact HB.out)⟩

end Go.Proofs.YtkailiemikjfbaaDoor.Q
end
section
namespace Go.Proofs.YtkailiemikjfbaaDoor.Q
open Go.RowKit Go.Proofs.YtkailiemikjfbaaDoorW.PrintWords Go.Proofs.YtkailiemikjfbaaDoorW.PrintLast Go.Proofs.YtkailiemikjfbaaDoorW.PrintMore
open Go.Proofs.YtkailiemikjfbaaDoor.Num
set_option linter.unusedVariables false
set_option linter.unusedSimpArgs false

theorem least_l0 {f : Int} {p g e : Nat} (D : Fd f p g e) (b : Nat) (hb : b ≤ 24) (s : S4) (M : Nat) (hM : M ≤ 200) (hg : ∀ i, i < M → gd p g e b s i = false) : ∀ (d n k : Nat), M - n = d → 300 + d < k → n ≤ M →
    attestorlaw08_ChannelLeast.l0 k b M n f s.a s.b s.c s.d = some true
  | 0, n, k, hd, hk, hn => by
    obtain ⟨k, rfl⟩ : ∃ j, k = j + 1 := ⟨k - 1, by omega⟩
    rw [attestorlaw08_ChannelLeast.l0, if_neg (by omega)]
    exact bnd (lives_true _ (by omega)) rfl
  | d + 1, n, k, hd, hk, hn => by
    obtain ⟨k, rfl⟩ : ∃ j, k = j + 1 := ⟨k - 1, by omega⟩
    rw [attestorlaw08_ChannelLeast.l0, if_pos (by omega)]
    refine bnd (grind_f D k b n (by omega) hb s) ?_
    rw [hg n (by omega), if_neg (by simp), show (n : Int) + 1 = ((n + 1 : Nat) : Int) from rfl, wrapU (by omega)]
    exact least_l0 D b hb s M hM hg d (n + 1) k (by omega) (by omega) (by omega)
theorem least_true (w a b c d x y : Int) (hw : 0 ≤ w ∧ w < 256) (ha : 0 ≤ a) (hb : 0 ≤ b) (hc : 0 ≤ c) (hd : 0 ≤ d) (hx : 0 ≤ x) (hy : 0 ≤ y) : ∃ k, attestorlaw08_ChannelLeast.f k w a b c d x y = some true := by
  obtain ⟨s, rfl, rfl, rfl, rfl⟩ := nat4 ha hb hc hd
  obtain ⟨h0, h1⟩ := which_f w hw
  obtain ⟨B, eB, hB⟩ := tmod_small x 25 hx (by omega) (by omega)
  obtain ⟨M, eM, hM⟩ := tmod_small y 121 hy (by omega) (by omega)
  refine ⟨1000, ?_⟩
  unfold attestorlaw08_ChannelLeast.f
  rw [eB, eM]
  generalize ef : wrap64 (Int.tmod w 4) = f at h0 h1
  obtain ⟨p, g, e, D⟩ := fd_of h0 h1
  have hp := D.F.big
  have hl : lim p M = min M p := by unfold lim; rw [show mn (M : Int) 1048576 = M by unfold mn; split <;> omega, mn_cast]; rfl
  refine bnd (reduced_f D w ef s 1000 (by omega)) (bnd (search_f D 1000 B M (by rw [hl]; omega) (by omega) (red p s)) (bnd (rp_eq f) ?_))
  rw [D.F.eq, wrapS (x := (p : Int)) (by omega) (by omega), mn_cast, wrapU (by omega), hl]
  obtain ⟨hg1, hg2⟩ := sr_good (gd p g e B (red p s)) (min M p) 0
  generalize sr (gd p g e B (red p s)) (min M p) 0 = r at hg1 hg2
  obtain ⟨r1, r2⟩ := r
  cases r2 with
  | true =>
    obtain ⟨m, e1, hm, _, h2, h3⟩ := hg1 rfl
    simp only at e1
    subst e1
    rw [if_pos rfl]
    refine bnd (grind_f D 1000 B m (by omega) (by omega) (red p s)) ?_
    rw [if_pos hm, if_neg (by simp only; omega)]
    exact least_l0 D B (by omega) (red p s) m (by omega) (fun i hi => h3 i (by omega) hi) m 0 999 (by omega) (by omega) (by omega)
  | false =>
    obtain ⟨e1, h3⟩ := hg2 rfl
    simp only at e1
    subst e1
    rw [if_neg (by simp), if_pos rfl]
    exact least_l0 D B (by omega) (red p s) (min M p) (by omega) (fun i hi => h3 i (by omega) (by omega)) (min M p) 0 999 (by omega) (by omega) (by omega)
end Go.Proofs.YtkailiemikjfbaaDoor.Q
end
section
namespace Go.Proofs.YtkailiemikjfbaaDoor.Q
open Go.ChangeShapes Go.WideShapes Go.ChangeAt Go.WideMaps Go.WideElems Go.RowKit
open Go.Proofs.YtkailiemikjfbaaDoorW.PrintWords Go.Proofs.YtkailiemikjfbaaDoorW.PrintLast Go.Proofs.YtkailiemikjfbaaDoorW.PrintMore
open Go.Proofs.YtkailiemikjfbaaDoor.Opn
set_option linter.unusedVariables false

theorem okWide_array_ {P : Program} {w : World} {r : Reach} {base : Nat} {t : TypeId} {v : Value} {n : Nat} {e : TypeId} (ht : P.underlying t = some (.array n e)) (h : Value.okWide P w r base t v) : ∃ cs, v = .agg cs ∧ cs.size = P.cellsOf t := by
  simp only [Value.okWide, ht] at h
  obtain ⟨cs, h1, h2, _⟩ := h
  exact ⟨cs, h1, h2⟩
set_option maxRecDepth 100000 in
theorem channelLeast_lifted (os : Os) (started : os.Started) (H : Type) (enc : TypeId × Value → H) :
    ReturnsInHanded {} Tryd.checked os 6 .any (fun w args => (Rows.channelLeastSpec.pre enc Tryd.prog Tryd.f6 [] false w args ∧ laidMetH Tryd.prog laid1 w) ∧ sizedMet enc Tryd.prog Tryd.f6 (OpenSpec.ofChange Rows.channelLeastSpec) false w args)
      (Rows.channelLeastSpec.post enc Tryd.prog Tryd.f6 false true false false) := by
  refine returnsInHanded_of_change_and (C := Tryd.checked) (X := (fun w _ => laidMetH Tryd.prog laid1 w)) (fun _ _ _ hh h => h.of_heap hh) own started (by kernel_rfl) Tryd.func6
    (ChangeSpec.witness_shaped (enc := enc) (C := Tryd.checked) (os := os) (X := (fun w _ => laidMetH Tryd.prog laid1 w)) false (World.doorLaid Tryd.prog 400 os) #[.int .u8 0, .agg #[.int .u64 0, .int .u64 0, .int .u64 0, .int .u64 0], .int .u8 0, .int .u8 0] 8 rfl (World.shaped_of_RefB (by kernel_rfl) (by kernel_rfl)) (by kernel_rfl) (by kernel_rfl) (by kernel_rfl) (door_met os _)) ?_
  intro W base args ds gs before hval0 hW _ _ hL _
  have hval : ∀ (j : Nat) t v, Tryd.f6.params[j]? = some t → args[j]? = some v → Value.okWide Tryd.prog W .any base t v := hval0
  have hW' := hW
  obtain ⟨p, q, hA0, hV, rfl, hfz, hnd⟩ := hW
  have hA : DataW.TrodAll enc Tryd.prog W 0 (fun _ => true) true Tryd.f6.params.toList args.toList ds p := hA0
  rw [Tryd.params6] at hA hval
  obtain ⟨v0, vs0, d0, ds0, p0, q0, hargs, rfl, rfl, h0, r0⟩ := trodAll_cons hA
  obtain ⟨v1, vs1, d1, ds1, p1, q1, rfl, rfl, rfl, h1, r1⟩ := trodAll_cons r0
  obtain ⟨v2, vs2, d2, ds2, p2, q2, rfl, rfl, rfl, h2, r2⟩ := trodAll_cons r1
  obtain ⟨v3, vs3, d3, ds3, p3, q3, rfl, rfl, rfl, h3, r3⟩ := trodAll_cons r2
  obtain ⟨rfl, rfl, rfl⟩ := trodAll_nil r3
  obtain rfl : args = #[v0, v1, v2, v3] := by cases args; simp_all
  obtain ⟨rfl, rfl⟩ := trodVars_none hV
  obtain ⟨a0, rfl, rfl, rfl, w0⟩ := open_int Tryd.underlying5 (hval 0 5 v0 rfl rfl) h0
  have k1 := h1
  have lt1 : ∀ x ∈ p1, x.block < W.heap.size := by obtain ⟨m, hm⟩ := k1; exact DataW.trod_lt m _ _ _ hm
  obtain ⟨cs1, rfl, _⟩ := okWide_array_ Tryd.underlying23 (hval 1 23 v1 rfl rfl)
  obtain ⟨m1, hm1⟩ := h1
  obtain ⟨a1_0, a1_1, a1_2, a1_3, hcs1, w1_0, w1_1, w1_2, w1_3⟩ := flat23 m1 _ _ hm1
  obtain rfl : cs1 = #[.int .u64 a1_0, .int .u64 a1_1, .int .u64 a1_2, .int .u64 a1_3] := by cases cs1; simp only [Value.cells] at hcs1; subst hcs1; rfl
  obtain ⟨a2, rfl, rfl, rfl, w2⟩ := open_int Tryd.underlying5 (hval 2 5 v2 rfl rfl) h2
  obtain ⟨a3, rfl, rfl, rfl, w3⟩ := open_int Tryd.underlying5 (hval 3 5 v3 rfl rfl) h3
  clear hA0 hval0
  refine (attestorlaw08_ChannelLeast.calls _ a0 a1_0 a1_1 a1_2 a1_3 a2 a3 true W (gl_of_laid hL) (least_true a0 a1_0 a1_1 a1_2 a1_3 a2 a3 (wf_u8 w0) (wf_u64 w1_0).1 (wf_u64 w1_1).1 (wf_u64 w1_2).1 (wf_u64 w1_3).1 (wf_u8 w2).1 (wf_u8 w3).1).choose_spec).mono fun e W' ⟨he, bel⟩ => ?_
  subst he
  exact ⟨_, rfl, _, _, _, [], _, [], hW', trodAll_mk1 (shut_bool Tryd.underlying4 _), (trodAll_cons_mk (shut_int Tryd.underlying5 w0) (trodAll_cons_mk (Below.trod laidOut (by kernel_rfl) (of_decide_eq_true (by kernel_rfl)) k1 bel lt1) (trodAll_cons_mk (shut_int Tryd.underlying5 w2) (trodAll_cons_mk (shut_int Tryd.underlying5 w3) trodAll_mk0)))), rfl, bel.frame _, fun h => by cases h⟩
theorem channelLeast_row : Rows.ChannelLeastSaid :=
  OpenClaim.holds_of_wide 6 Tryd.f6 rfl rfl rfl rfl rfl rfl rfl ⟨rfl, rfl, rfl, rfl, rfl⟩ rfl rfl rfl rfl rfl (by kernel_rfl) Tryd.func6 (by kernel_rfl)
    (of_decide_eq_true (by kernel_rfl)) (by unfold Func.isWrapper; first | (rw [if_pos (by decide +kernel)]; kernel_rfl) | (rw [if_neg (by decide +kernel)]; exact ⟨rfl, rfl⟩))
    (fun os started H enc _ => channelLeast_lifted os started H enc)
theorem channelLeast_card : Rows.ChannelLeastCardSaid :=
  Claim7.holds_tied_plain_at .later [] [.widerDeep] true Rows.channelLeastCard.stood.harness false
    channelLeast_row (fun _ h => by cases h) (by kernel_rfl) (fun _ h => by cases h) channelLeast_row_tie rfl ⟨rfl, rfl⟩ (by kernel_rfl) rfl
    (fun f fn hf hfn => by
      obtain rfl : f = 6 := Option.some.inj ((show Tryd.prog.funcNamed "attestor/attestorlaw08.ChannelLeast" = some 6 by kernel_rfl).symm.trans hf) |>.symm
      obtain rfl : fn = Tryd.f6 := (Option.some.inj (Tryd.func6.symm.trans hfn)).symm
      exact ⟨by kernel_rfl, fun j t ht => by
        rw [Tryd.params6] at ht
        have hm : t ∈ [5, 23, 5, 5] := by simpa using Array.mem_of_getElem? ht
        have hall : ([5, 23, 5, 5].all fun u => !Tryd.prog.wantsStandIn u) = true := by kernel_rfl
        exact (show Tryd.prog.wantsStandIn t = false by simpa using List.all_eq_true.1 hall t hm)⟩)
    (by kernel_rfl)
end Go.Proofs.YtkailiemikjfbaaDoor.Q
namespace Go.Proofs.YtkailiemikjfbaaDoor
/-- Under a short name, for the claim. -/
theorem channelLeast_holds : Rows.ChannelLeastCardSaid := Q.channelLeast_card
end Go.Proofs.YtkailiemikjfbaaDoor
#print axioms Go.Proofs.YtkailiemikjfbaaDoor.channelLeast_holds
end
