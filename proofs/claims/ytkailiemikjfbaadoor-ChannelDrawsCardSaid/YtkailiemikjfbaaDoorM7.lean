/- Several texts in one, in build order. What they prove, each by its own first remark:
How what is read as an argument is told to the walks: a kind of the words for each type, and that its numbers are of their kinds.
From the card's condition on the variable 'fields' to the fact that the contracts ask.
Short names for what stands often in the printed texts (slim.py puts them there).
Written by our own copy of a printing program (a twelfth state) out of the translation. Not trusted: Lean checks it.
The plain law of ChannelDraws.
For all arguments attestorlaw08.ChannelDraws returns true and leaves them as they were, where the variable 'fields' holds what the program's text lays (the card ties that): no other condition. -/
import Derived.ChangeArms
import Derived.Deep.Slices
import Derived.KernelRfl
import Derived.OpenShut
import Derived.ProofKit
import Derived.SizedLaws
import Derived.Test.YtkailiemikjfbaaDoorM2
import Derived.Test.YtkailiemikjfbaaDoorRows
import Derived.Test.YtkailiemikjfbaaDoorM1
import Derived.LaidMore
import Derived.Lib.SmallJoins
import Derived.Stop.Joined
import Derived.Test.YtkailiemikjfbaaDoorM3
import Derived.Test.YtkailiemikjfbaaDoorM5
import Derived.Test.YtkailiemikjfbaaDoorM4
import Derived.Test.YtkailiemikjfbaaDoorM6
import Derived.Test.YtkailiemikjfbaaDoorCards
import Derived.Test.YtkailiemikjfbaaDoorTie
import Derived.SevenTiedAt
import Derived.ShutString
import Derived.ChangeOld
import Derived.Below
section
namespace Go.Proofs.YtkailiemikjfbaaDoor.Opn
open Go.RowKit Go.Deep Go.Proofs.YtkailiemikjfbaaDoorW.PrintWords
variable {H : Type} {enc : TypeId × Value → H} {P : Program} {W : World}

theorem add_add_ (a : Addr) (x y : Nat) : (a.add x).add y = a.add (x + y) := by
  unfold Addr.add
  by_cases hx : x = 0 <;> by_cases hy : y = 0 <;> simp [hx, hy, Nat.add_assoc]
/-- Whatever is read at type t is of the kind d; 'wf': what is known of it besides. -/
def Opn {α : Type} (enc : TypeId × Value → H) (P : Program) (W : World) (t : TypeId) (d : Kd α) (wf : α → Prop) : Prop :=
  ∀ fuel cs x, DataW.trod enc P W 0 (fun _ => true) true fuel t cs = some x → ∃ y, d.K W y cs ∧ wf y
theorem Opn.int {k : IntKind} {t : TypeId} (ht : P.underlying t = some (.int k)) : Opn enc P W t (Kd.int k) (fun y => (Lit.int k y).wf = true) := by
  intro fuel cs x h
  obtain ⟨n, rfl, _, hn⟩ := DataW.trod_int ht h
  exact ⟨n, rfl, hn⟩
theorem Opn.imp {α : Type} {t : TypeId} {d : Kd α} {wf wf' : α → Prop} (h : Opn enc P W t d wf) (hw : ∀ y, wf y → wf' y) : Opn enc P W t d wf' := by
  intro fuel cs x hx
  obtain ⟨y, hy, hz⟩ := h fuel cs x hx
  exact ⟨y, hy, hw y hz⟩
theorem Opn.slice {α : Type} {t e : TypeId} {d : Kd α} {wf : α → Prop} (ht : P.underlying t = some (.slice e)) (hs : P.cellsOf e = d.sz) (he : Opn enc P W e d wf) :
    Opn enc P W t (Kd.slice e d) (fun l => ∀ y ∈ l, wf y) := by
  intro fuel cs x h
  rcases open_slice ht h with ⟨rfl, _⟩ | ⟨a, len, cap, m, n, D, Pl, rfl, _, hl, hm, hmm, _, hx⟩
  · exact ⟨[], ⟨none, 0, rfl, Nat.le_refl _, Kd.C_nil d W⟩, fun y hy => by cases hy⟩
  · have hlm : len ≤ m := by rw [hmm]; split <;> omega
    have each : ∀ i : Fin len, ∃ y : α, ∃ c, W.cells? 0 (a.add (i.1 * d.sz)) d.sz = some c ∧ d.K W y c ∧ wf y := by
      intro i
      obtain ⟨c, hc, ht⟩ := hx i.1 (by omega)
      obtain ⟨y, hy, hz⟩ := he _ _ _ ht
      exact ⟨y, c, by rw [← hs]; exact hc, hy, hz⟩
    obtain ⟨f, hf⟩ := Classical.axiomOfChoice each
    have hlen : (List.ofFn f).length = len := List.length_ofFn
    refine ⟨List.ofFn f, ⟨some a, cap, by rw [hlen], by omega, ?_⟩, ?_⟩
    · rw [hlen]
      refine ⟨hlen, by unfold maxLen at hm; omega, fun _ => ⟨a, rfl, fun j p hp => ?_⟩⟩
      have hj : j < len := by have := (List.getElem?_eq_some_iff.1 hp).1; omega
      obtain ⟨c, hc, hk, _⟩ := hf ⟨j, hj⟩
      have hpj : p = f ⟨j, hj⟩ := by
        rw [List.getElem?_eq_getElem (by omega)] at hp
        rw [← Option.some.inj hp]
        exact List.getElem_ofFn ..
      subst hpj
      refine ⟨c, d.K_len hk, hk, fun i u hu => ?_⟩
      have hi : i < d.sz := by have := (List.getElem?_eq_some_iff.1 hu).1; rw [d.K_len hk] at this; exact this
      have hcc := (World.cells?_some hc).2.2 i hi
      rw [hu] at hcc
      rw [← hcc]
      rw [add_add_]
    · intro y hy
      obtain ⟨i, hi, rfl⟩ := List.mem_iff_getElem.1 hy
      rw [List.getElem_ofFn]
      exact (hf _).choose_spec.2.2
end Go.Proofs.YtkailiemikjfbaaDoor.Opn
namespace Go.Proofs.YtkailiemikjfbaaDoor.Q
open Go.RowKit Go.ChangeShapes Go.WideShapes
open Go.Proofs.YtkailiemikjfbaaDoorW.PrintWords Go.Proofs.YtkailiemikjfbaaDoorW.PrintLast Go.Proofs.YtkailiemikjfbaaDoorW.PrintMore
open Go.Proofs.YtkailiemikjfbaaDoor.Opn
set_option linter.unusedVariables false
set_option linter.unusedSimpArgs false

theorem own : ownKnob Tryd.prog.godebug = Option.none := by kernel_rfl
theorem laidOut : laidOutB Tryd.prog = true := by kernel_rfl
theorem cells22 : Tryd.prog.cellsOf 22 = 1 := by kernel_rfl
theorem cells23 : Tryd.prog.cellsOf 23 = 4 := by kernel_rfl
theorem flat23 {H : Type} {enc : TypeId × Value → H} {W : World} : ∀ fuel cs x, DataW.trod enc Tryd.prog W 0 (fun _ => true) true fuel 23 cs = some x → ∃ (a0 : Int) (a1 : Int) (a2 : Int) (a3 : Int), cs = [.int .u64 a0, .int .u64 a1, .int .u64 a2, .int .u64 a3] ∧ (Lit.int .u64 a0).wf = true ∧ (Lit.int .u64 a1).wf = true ∧ (Lit.int .u64 a2).wf = true ∧ (Lit.int .u64 a3).wf = true := by
  intro fuel cs x h
  obtain ⟨xs, n, rfl, _, hl, hn, hf⟩ := DataW.trod_array Tryd.underlying23 h
  rw [cells23] at hl
  match cs, hl with
  | [q0, q1, q2, q3], _ =>
    have hx : xs.length = 4 := hn
    have e0 : DataW.trod enc Tryd.prog W 0 (fun _ => true) true n 22 (([q0, q1, q2, q3].drop 0).take (Tryd.prog.cellsOf 22)) = xs[0]? := by have h_ := hf 0 (by decide); simpa only [cells22, Nat.mul_one, Nat.zero_mul, Nat.reduceMul] using h_
    rw [cells22, List.getElem?_eq_getElem (by omega)] at e0
    have e1 : DataW.trod enc Tryd.prog W 0 (fun _ => true) true n 22 (([q0, q1, q2, q3].drop 1).take (Tryd.prog.cellsOf 22)) = xs[1]? := by have h_ := hf 1 (by decide); simpa only [cells22, Nat.mul_one, Nat.zero_mul, Nat.reduceMul] using h_
    rw [cells22, List.getElem?_eq_getElem (by omega)] at e1
    have e2 : DataW.trod enc Tryd.prog W 0 (fun _ => true) true n 22 (([q0, q1, q2, q3].drop 2).take (Tryd.prog.cellsOf 22)) = xs[2]? := by have h_ := hf 2 (by decide); simpa only [cells22, Nat.mul_one, Nat.zero_mul, Nat.reduceMul] using h_
    rw [cells22, List.getElem?_eq_getElem (by omega)] at e2
    have e3 : DataW.trod enc Tryd.prog W 0 (fun _ => true) true n 22 (([q0, q1, q2, q3].drop 3).take (Tryd.prog.cellsOf 22)) = xs[3]? := by have h_ := hf 3 (by decide); simpa only [cells22, Nat.mul_one, Nat.zero_mul, Nat.reduceMul] using h_
    rw [cells22, List.getElem?_eq_getElem (by omega)] at e3
    obtain ⟨a0, r0, _, w0⟩ := DataW.trod_int Tryd.underlying22 e0
    simp only [List.drop_succ_cons, List.drop_zero, List.take_succ_cons, List.take_zero, List.cons.injEq, and_true] at r0
    obtain rfl := r0
    obtain ⟨a1, r1, _, w1⟩ := DataW.trod_int Tryd.underlying22 e1
    simp only [List.drop_succ_cons, List.drop_zero, List.take_succ_cons, List.take_zero, List.cons.injEq, and_true] at r1
    obtain rfl := r1
    obtain ⟨a2, r2, _, w2⟩ := DataW.trod_int Tryd.underlying22 e2
    simp only [List.drop_succ_cons, List.drop_zero, List.take_succ_cons, List.take_zero, List.cons.injEq, and_true] at r2
    obtain rfl := r2
    obtain ⟨a3, r3, _, w3⟩ := DataW.trod_int Tryd.underlying22 e3
    simp only [List.drop_succ_cons, List.drop_zero, List.take_succ_cons, List.take_zero, List.cons.injEq, and_true] at r3
    obtain rfl := r3
    exact ⟨a0, a1, a2, a3, rfl, w0, w1, w2, w3⟩
def wf23 (x : S23) : Prop := ((Lit.int .u64 x.f0).wf = true) ∧ ((Lit.int .u64 x.f1).wf = true) ∧ ((Lit.int .u64 x.f2).wf = true) ∧ ((Lit.int .u64 x.f3).wf = true)
theorem opn23 {H : Type} {enc : TypeId × Value → H} {W : World} : Opn enc Tryd.prog W 23 k23 wf23 := by
  intro fuel cs x h
  obtain ⟨a0, a1, a2, a3, rfl, w0, w1, w2, w3⟩ := flat23 fuel cs x h
  exact ⟨(⟨a0, a1, a2, a3⟩ : S23), k23_mk W _ , ⟨w0, w1, w2, w3⟩⟩
theorem cells3 : Tryd.prog.cellsOf 3 = 1 := by kernel_rfl
theorem cells25 : Tryd.prog.cellsOf 25 = 5 := by kernel_rfl
theorem flat25 {H : Type} {enc : TypeId × Value → H} {W : World} : ∀ fuel cs x, DataW.trod enc Tryd.prog W 0 (fun _ => true) true fuel 25 cs = some x → ∃ (a0 : Int) (a1 : Int) (a2 : Int) (a3 : Int) (a4 : Int), cs = [.int .i64 a0, .int .u64 a1, .int .u64 a2, .int .u64 a3, .int .u64 a4] ∧ (Lit.int .i64 a0).wf = true ∧ (Lit.int .u64 a1).wf = true ∧ (Lit.int .u64 a2).wf = true ∧ (Lit.int .u64 a3).wf = true ∧ (Lit.int .u64 a4).wf = true := by
  intro fuel cs x h
  obtain ⟨xs, n, rfl, _, hl, hn, hf⟩ := DataW.trod_struct Tryd.underlying25 h
  rw [cells25] at hl
  match cs, hl with
  | [q0, q1, q2, q3, q4], _ =>
    have hx : xs.length = 2 := hn
    have e0 : DataW.trod enc Tryd.prog W 0 (fun _ => true) true n 3 (([q0, q1, q2, q3, q4].drop 0).take (Tryd.prog.cellsOf 3)) = xs[0]? := hf 0 _ rfl
    rw [cells3, List.getElem?_eq_getElem (by omega)] at e0
    have e1 : DataW.trod enc Tryd.prog W 0 (fun _ => true) true n 23 (([q0, q1, q2, q3, q4].drop 1).take (Tryd.prog.cellsOf 23)) = xs[1]? := hf 1 _ rfl
    rw [cells23, List.getElem?_eq_getElem (by omega)] at e1
    obtain ⟨a0, r0, _, w0⟩ := DataW.trod_int Tryd.underlying3 e0
    simp only [List.drop_succ_cons, List.drop_zero, List.take_succ_cons, List.take_zero, List.cons.injEq, and_true] at r0
    obtain rfl := r0
    obtain ⟨a1, a2, a3, a4, r1, w1, w2, w3, w4⟩ := flat23 _ _ _ e1
    simp only [List.drop_succ_cons, List.drop_zero, List.take_succ_cons, List.take_zero, List.cons.injEq, and_true] at r1
    obtain ⟨rfl, rfl, rfl, rfl⟩ := r1
    exact ⟨a0, a1, a2, a3, a4, rfl, w0, w1, w2, w3, w4⟩
def wf25 (x : S25) : Prop := ((Lit.int .i64 x.f0).wf = true) ∧ (wf23 x.f1)
theorem opn25 {H : Type} {enc : TypeId × Value → H} {W : World} : Opn enc Tryd.prog W 25 k25 wf25 := by
  intro fuel cs x h
  obtain ⟨a0, a1, a2, a3, a4, rfl, w0, w1, w2, w3, w4⟩ := flat25 fuel cs x h
  exact ⟨(⟨a0, (⟨a1, a2, a3, a4⟩ : S23)⟩ : S25), k25_mk W _ , ⟨w0, ⟨w1, w2, w3, w4⟩⟩⟩
theorem cells4 : Tryd.prog.cellsOf 4 = 1 := by kernel_rfl
theorem cells59 : Tryd.prog.cellsOf 59 = 2 := by kernel_rfl
theorem flat59 {H : Type} {enc : TypeId × Value → H} {W : World} : ∀ fuel cs x, DataW.trod enc Tryd.prog W 0 (fun _ => true) true fuel 59 cs = some x → ∃ (a0 : Bool) (a1 : Int), cs = [.bool a0, .int .u64 a1] ∧ (Lit.int .u64 a1).wf = true := by
  intro fuel cs x h
  obtain ⟨xs, n, rfl, _, hl, hn, hf⟩ := DataW.trod_struct Tryd.underlying59 h
  rw [cells59] at hl
  match cs, hl with
  | [q0, q1], _ =>
    have hx : xs.length = 2 := hn
    have e0 : DataW.trod enc Tryd.prog W 0 (fun _ => true) true n 4 (([q0, q1].drop 0).take (Tryd.prog.cellsOf 4)) = xs[0]? := hf 0 _ rfl
    rw [cells4, List.getElem?_eq_getElem (by omega)] at e0
    have e1 : DataW.trod enc Tryd.prog W 0 (fun _ => true) true n 22 (([q0, q1].drop 1).take (Tryd.prog.cellsOf 22)) = xs[1]? := hf 1 _ rfl
    rw [cells22, List.getElem?_eq_getElem (by omega)] at e1
    obtain ⟨a0, r0, _⟩ := DataW.trod_bool Tryd.underlying4 e0
    simp only [List.drop_succ_cons, List.drop_zero, List.take_succ_cons, List.take_zero, List.cons.injEq, and_true] at r0
    obtain rfl := r0
    obtain ⟨a1, r1, _, w1⟩ := DataW.trod_int Tryd.underlying22 e1
    simp only [List.drop_succ_cons, List.drop_zero, List.take_succ_cons, List.take_zero, List.cons.injEq, and_true] at r1
    obtain rfl := r1
    exact ⟨a0, a1, rfl, w1⟩
def wf59 (x : S59) : Prop := (True) ∧ ((Lit.int .u64 x.f1).wf = true)
theorem opn59 {H : Type} {enc : TypeId × Value → H} {W : World} : Opn enc Tryd.prog W 59 k59 wf59 := by
  intro fuel cs x h
  obtain ⟨a0, a1, rfl, w1⟩ := flat59 fuel cs x h
  exact ⟨(⟨a0, a1⟩ : S59), k59_mk W _ , ⟨trivial, w1⟩⟩
theorem opn39 {H : Type} {enc : TypeId × Value → H} {W : World} : Opn enc Tryd.prog W 39 (Kd.slice 59 k59) (fun x => ∀ y ∈ x, wf59 y) := Opn.slice Tryd.underlying39 cells59 opn59
theorem cells51 : Tryd.prog.cellsOf 51 = 2 := by kernel_rfl
theorem flat51 {H : Type} {enc : TypeId × Value → H} {W : World} : ∀ fuel cs x, DataW.trod enc Tryd.prog W 0 (fun _ => true) true fuel 51 cs = some x → ∃ (a0 : Int) (a1 : Int), cs = [.int .u64 a0, .int .u64 a1] ∧ (Lit.int .u64 a0).wf = true ∧ (Lit.int .u64 a1).wf = true := by
  intro fuel cs x h
  obtain ⟨xs, n, rfl, _, hl, hn, hf⟩ := DataW.trod_array Tryd.underlying51 h
  rw [cells51] at hl
  match cs, hl with
  | [q0, q1], _ =>
    have hx : xs.length = 2 := hn
    have e0 : DataW.trod enc Tryd.prog W 0 (fun _ => true) true n 22 (([q0, q1].drop 0).take (Tryd.prog.cellsOf 22)) = xs[0]? := by have h_ := hf 0 (by decide); simpa only [cells22, Nat.mul_one, Nat.zero_mul, Nat.reduceMul] using h_
    rw [cells22, List.getElem?_eq_getElem (by omega)] at e0
    have e1 : DataW.trod enc Tryd.prog W 0 (fun _ => true) true n 22 (([q0, q1].drop 1).take (Tryd.prog.cellsOf 22)) = xs[1]? := by have h_ := hf 1 (by decide); simpa only [cells22, Nat.mul_one, Nat.zero_mul, Nat.reduceMul] using h_
    rw [cells22, List.getElem?_eq_getElem (by omega)] at e1
    obtain ⟨a0, r0, _, w0⟩ := DataW.trod_int Tryd.underlying22 e0
    simp only [List.drop_succ_cons, List.drop_zero, List.take_succ_cons, List.take_zero, List.cons.injEq, and_true] at r0
    obtain rfl := r0
    obtain ⟨a1, r1, _, w1⟩ := DataW.trod_int Tryd.underlying22 e1
    simp only [List.drop_succ_cons, List.drop_zero, List.take_succ_cons, List.take_zero, List.cons.injEq, and_true] at r1
    obtain rfl := r1
    exact ⟨a0, a1, rfl, w0, w1⟩
def wf51 (x : S51) : Prop := ((Lit.int .u64 x.f0).wf = true) ∧ ((Lit.int .u64 x.f1).wf = true)
theorem opn51 {H : Type} {enc : TypeId × Value → H} {W : World} : Opn enc Tryd.prog W 51 k51 wf51 := by
  intro fuel cs x h
  obtain ⟨a0, a1, rfl, w0, w1⟩ := flat51 fuel cs x h
  exact ⟨(⟨a0, a1⟩ : S51), k51_mk W _ , ⟨w0, w1⟩⟩
theorem opn48 {H : Type} {enc : TypeId × Value → H} {W : World} : Opn enc Tryd.prog W 48 (Kd.slice 51 k51) (fun x => ∀ y ∈ x, wf51 y) := Opn.slice Tryd.underlying48 cells51 opn51
end Go.Proofs.YtkailiemikjfbaaDoor.Q
end
section
namespace Go.Proofs.YtkailiemikjfbaaDoor.Q
open Go.ChangeShapes Go.WideShapes Go.ChangeAt Go.WideMaps Go.WideElems Go.RowKit
open Go.Proofs.YtkailiemikjfbaaDoorW.PrintWords Go.Proofs.YtkailiemikjfbaaDoorW.PrintLast Go.Proofs.YtkailiemikjfbaaDoorW.PrintMore
open Go.Proofs.YtkailiemikjfbaaDoor.Opn
set_option linter.unusedVariables false

theorem gFields : Tryd.prog.globalNamed "attestor/field.fields" = some 0 := by kernel_rfl
theorem tFields : (Tryd.prog.globals[0]?).map (·.type) = some 72 := by kernel_rfl
abbrev laid1 : List (String × DataW Unit) := [("attestor/field.fields", Rows.laid_attestor_field_fields)]
theorem cellsI : Tryd.prog.cellsOf 3 = 1 := by kernel_rfl
theorem cellsU : Tryd.prog.cellsOf 22 = 1 := by kernel_rfl
theorem cellsS : Tryd.prog.cellsOf 49 = 1 := by kernel_rfl
theorem cellsP : Tryd.prog.cellsOf 63 = 5 := by kernel_rfl
/-- A slice of numbers whose data are known. -/
theorem ints_of {H : Type} {enc : TypeId × Value → H} {W : World} {spare : Nat → Bool} {held : Bool} {fuel : Nat} {cs : List Value} {x : DataW H × List MemPlace} {vs : List Int} {r : List (DataW H)}
    (h : DataW.trod enc Tryd.prog W 0 spare held fuel 49 cs = some x) (hx : x.1 = .slice (vs.map fun v => .lit (.int .u64 v)) r) :
    ∃ A c, cs = [.slice A vs.length c] ∧ vs.length ≤ c ∧ Kd.C (Kd.int .u64) W A vs.length vs := by
  rcases Deep.open_slice1 Tryd.underlying49 cellsU h with ⟨_, rfl⟩ | ⟨a, len, cap, m, n, V, D, Pl, rfl, _, hl, hm, hmm, rfl, he⟩
  · cases hx
  · simp only [DataW.slice.injEq] at hx
    have hlen : len = vs.length := by have := congrArg List.length hx.1; simpa using this
    subst hlen
    have hlm : vs.length ≤ m := by rw [hmm]; split <;> omega
    refine ⟨some a, cap, rfl, hl, rfl, by unfold maxLen at hm; omega, fun _ => ⟨a, rfl, fun j p hp => ?_⟩⟩
    have hj : j < vs.length := (List.getElem?_eq_some_iff.1 hp).1
    obtain ⟨h1, h2⟩ := he j (by omega)
    obtain ⟨k, e1, e2, _⟩ := DataW.trod_int Tryd.underlying22 h2
    have hD : D j = .lit (.int .u64 p) := by
      have hpe : vs[j] = p := by have := hp; rw [List.getElem?_eq_getElem hj] at this; exact Option.some.inj this
      have := congrArg (fun l => l[j]?) hx.1
      simpa [hj, hpe] using this
    have hk : k = p := by
      have : (DataW.lit (.int .u64 p) : DataW H) = .lit (.int .u64 k) := by rw [← hD]; exact congrArg Prod.fst e2
      simpa using this.symm
    subst hk
    refine ⟨[.int .u64 k], rfl, rfl, fun i u hu => ?_⟩
    match i, hu with
    | 0, hu =>
      obtain rfl : Value.int .u64 k = u := by simpa using hu
      have : V j = .int .u64 k := by simpa using e1
      rw [← this]
      have h9 : j * (Kd.int IntKind.u64).sz = j := Nat.mul_one j
      show W.cell? ((a.add (j * (Kd.int IntKind.u64).sz)).add 0) = _
      rw [h9, add_add_]
      exact h1
theorem nil_of {H : Type} {enc : TypeId × Value → H} {W : World} {spare : Nat → Bool} {held : Bool} {fuel : Nat} {cs : List Value} {x : DataW H × List MemPlace}
    (h : DataW.trod enc Tryd.prog W 0 spare held fuel 49 cs = some x) (hx : x.1 = .nil) :
    ∃ A c, cs = [.slice A ([] : List Int).length c] ∧ ([] : List Int).length ≤ c ∧ Kd.C (Kd.int .u64) W A ([] : List Int).length [] := by
  rcases Deep.open_slice1 Tryd.underlying49 cellsU h with ⟨rfl, _⟩ | ⟨a, len, cap, m, n, V, D, Pl, rfl, _, hl, hm, hmm, rfl, he⟩
  · exact ⟨none, 0, rfl, Nat.le_refl _, Kd.C_nil _ _⟩
  · cases hx
/-- The numbers of field f, as the condition spells them. -/
def rowData {H : Type} (f : Nat) : DataW H := .agg [.lit (.int .u64 (fp f)), .lit (.int .u64 (fg f)), .lit (.int .i64 (ft f)), .lit (.int .i64 (fe f)), if f = 1 then .nil else .slice ((fl f).map fun v => .lit (.int .u64 v)) []]
/-- The condition gives the fact. -/
theorem gl_of_laid {W : World} (h : laidMetH Tryd.prog laid1 W) : GL W := by
  rw [MakeChecks.laidMetH_plain _ _ _ (by kernel_rfl)] at h
  obtain ⟨ps, ⟨g0, t0, cs0, f0, p0, q0, hg0, ht0, hv0, hd0, _, _⟩, _, _⟩ := h
  obtain rfl := Option.some.inj (gFields.symm.trans hg0)
  obtain rfl := Option.some.inj (tFields.symm.trans ht0)
  obtain ⟨xs, m1, rfl, hx1, hlen, hn, hel⟩ := DataW.trod_array Tryd.underlying72 hd0
  simp only [Prod.mk.injEq, Rows.laid_attestor_field_fields, DataW.agg.injEq] at hx1
  have key : ∀ f : Nat, f < 4 → ∃ A c, (cs0.toList.drop (f * 5)).take 5 = [.int .u64 (fp f), .int .u64 (fg f), .int .i64 (ft f), .int .i64 (fe f), .slice A (fl f).length c] ∧ (fl f).length ≤ c ∧ Kd.C (Kd.int .u64) W A (fl f).length (fl f) := by
    intro f hf
    have hj1 := hel f hf
    rw [List.getElem?_eq_getElem (by omega : f < xs.length), cellsP] at hj1
    have hdat : (xs[f]).1 = rowData f := by
      have : (xs.map (·.1))[f]? = some (rowData f) := by
        rw [← hx1.1]
        rcases (show f = 0 ∨ f = 1 ∨ f = 2 ∨ f = 3 by omega) with rfl | rfl | rfl | rfl <;> rfl
      rw [List.getElem?_map, List.getElem?_eq_getElem (by omega : f < xs.length), Option.map_some] at this
      exact Option.some.inj this
    generalize hcs : (cs0.toList.drop (f * 5)).take 5 = cs at hj1 ⊢
    obtain ⟨ys, n, _, hy, hl, hny, hf2⟩ := DataW.trod_struct Tryd.underlying63 hj1
    rw [cellsP] at hl
    match cs, hl with
    | [c0, c1, c2, c3, c4], _ =>
      have e0 : DataW.trod _ Tryd.prog W 0 _ _ n 22 (([c0, c1, c2, c3, c4].drop 0).take (Tryd.prog.cellsOf 22)) = ys[0]? := hf2 0 _ rfl
      have e1 : DataW.trod _ Tryd.prog W 0 _ _ n 22 (([c0, c1, c2, c3, c4].drop 1).take (Tryd.prog.cellsOf 22)) = ys[1]? := hf2 1 _ rfl
      have e2 : DataW.trod _ Tryd.prog W 0 _ _ n 3 (([c0, c1, c2, c3, c4].drop 2).take (Tryd.prog.cellsOf 3)) = ys[2]? := hf2 2 _ rfl
      have e3 : DataW.trod _ Tryd.prog W 0 _ _ n 3 (([c0, c1, c2, c3, c4].drop 3).take (Tryd.prog.cellsOf 3)) = ys[3]? := hf2 3 _ rfl
      have e4 : DataW.trod _ Tryd.prog W 0 _ _ n 49 (([c0, c1, c2, c3, c4].drop 4).take (Tryd.prog.cellsOf 49)) = ys[4]? := hf2 4 _ rfl
      have x5 : ys.length = 5 := hny
      rw [cellsU, List.getElem?_eq_getElem (by omega)] at e0 e1
      rw [cellsI, List.getElem?_eq_getElem (by omega)] at e2 e3
      rw [cellsS, List.getElem?_eq_getElem (by omega)] at e4
      have hy1 : DataW.agg (ys.map (·.1)) = rowData f := by rw [← hdat, hy]
      simp only [rowData, DataW.agg.injEq] at hy1
      have d0 : ys[0].1 = .lit (.int .u64 (fp f)) := by have := congrArg (fun l => l[0]?) hy1; simpa [x5] using this
      have d1 : ys[1].1 = .lit (.int .u64 (fg f)) := by have := congrArg (fun l => l[1]?) hy1; simpa [x5] using this
      have d2 : ys[2].1 = .lit (.int .i64 (ft f)) := by have := congrArg (fun l => l[2]?) hy1; simpa [x5] using this
      have d3 : ys[3].1 = .lit (.int .i64 (fe f)) := by have := congrArg (fun l => l[3]?) hy1; simpa [x5] using this
      have d4 : ys[4].1 = (if f = 1 then .nil else .slice ((fl f).map fun v => .lit (.int .u64 v)) []) := by have := congrArg (fun l => l[4]?) hy1; simpa [x5] using this
      obtain ⟨a0, r0, s0, _⟩ := DataW.trod_int Tryd.underlying22 e0
      obtain ⟨a1, r1, s1, _⟩ := DataW.trod_int Tryd.underlying22 e1
      obtain ⟨a2, r2, s2, _⟩ := DataW.trod_int Tryd.underlying3 e2
      obtain ⟨a3, r3, s3, _⟩ := DataW.trod_int Tryd.underlying3 e3
      obtain rfl : a0 = fp f := by rw [s0] at d0; simpa using d0
      obtain rfl : a1 = fg f := by rw [s1] at d1; simpa using d1
      obtain rfl : a2 = ft f := by rw [s2] at d2; simpa using d2
      obtain rfl : a3 = fe f := by rw [s3] at d3; simpa using d3
      replace r0 : c0 = .int .u64 (fp f) := by simpa using r0
      replace r1 : c1 = .int .u64 (fg f) := by simpa using r1
      replace r2 : c2 = .int .i64 (ft f) := by simpa using r2
      replace r3 : c3 = .int .i64 (fe f) := by simpa using r3
      subst r0; subst r1; subst r2; subst r3
      have h4 : ∃ A c, [c4] = [.slice A (fl f).length c] ∧ (fl f).length ≤ c ∧ Kd.C (Kd.int .u64) W A (fl f).length (fl f) := by
        by_cases h1 : f = 1
        · subst h1
          rw [if_pos rfl] at d4
          exact nil_of (x := ys[4]) e4 d4
        · rw [if_neg h1] at d4
          exact ints_of (x := ys[4]) e4 d4
      obtain ⟨A, c, hc, hle, hC⟩ := h4
      obtain rfl : c4 = .slice A (fl f).length c := by simpa using hc
      exact ⟨A, c, rfl, hle, hC⟩
  have cell : ∀ f : Nat, f < 4 → ∀ j : Nat, j < 5 → W.cell? ⟨0, 5 * f + j, none⟩ = ((cs0.toList.drop (f * 5)).take 5)[j]? := by
    intro f hf j hj
    have hv := World.var?_cell hg0 hv0 (5 * f + j)
    rw [hv, List.getElem?_take, if_pos (by omega), List.getElem?_drop, Nat.mul_comm f 5]
    simp
  refine ⟨fun f hf => ?_, fun f hf => ?_, fun f hf => ?_, fun f hf => ?_, fun f hf => ?_⟩
  all_goals obtain ⟨A, c, e, hl, hC⟩ := key f hf
  · exact (cell f hf 0 (by omega)).trans (by rw [e]; rfl)
  · exact (cell f hf 1 (by omega)).trans (by rw [e]; rfl)
  · exact (cell f hf 2 (by omega)).trans (by rw [e]; rfl)
  · exact (cell f hf 3 (by omega)).trans (by rw [e]; rfl)
  · exact ⟨A, c, (cell f hf 4 (by omega)).trans (by rw [e]; rfl), hl, hC⟩
/-- The door's own heap meets the condition. -/
theorem door_met (os : Os) (args : Array Value) : laidMetH Tryd.prog laid1 ((World.doorLaid Tryd.prog 400 os).forCall (fun _ _ => 0) ⟨#[], args, []⟩).memory :=
  laidMetH_of_parts3 (fuel := 8) (laidMet_of_run' 8 (by kernel_rfl) (by kernel_rfl)) (by kernel_rfl) (by kernel_rfl)
theorem opnL {H : Type} {enc : TypeId × Value → H} {W : World} : Opn enc Tryd.prog W 49 (Kd.slice 22 (Kd.int .u64)) (fun l => ∀ y ∈ l, (Lit.int .u64 y).wf = true) := Opn.slice Tryd.underlying49 cellsU (Opn.int Tryd.underlying22)
theorem wf_u8 {x : Int} (h : (Lit.int .u8 x).wf = true) : 0 ≤ x ∧ x < 256 := by
  simp [Lit.wf, IntKind.min, IntKind.max, IntKind.signed, IntKind.bits] at h
  omega
theorem wf_u64 {x : Int} (h : (Lit.int .u64 x).wf = true) : 0 ≤ x ∧ x < 18446744073709551616 := by
  simp [Lit.wf, IntKind.min, IntKind.max, IntKind.signed, IntKind.bits] at h
  omega
theorem wf_i64 {x : Int} (h : (Lit.int .i64 x).wf = true) : -9223372036854775808 ≤ x ∧ x ≤ 9223372036854775807 := by
  simp [Lit.wf, IntKind.min, IntKind.max, IntKind.signed, IntKind.bits] at h
  omega
end Go.Proofs.YtkailiemikjfbaaDoor.Q
end
section
namespace Go.Proofs.YtkailiemikjfbaaDoor.Q
open Go.RowKit Go.Proofs.YtkailiemikjfbaaDoorW.PrintWords Go.Proofs.YtkailiemikjfbaaDoorW.PrintLast Go.Proofs.YtkailiemikjfbaaDoorW.PrintMore
theorem bq_ {w : World} {a : Nat} {cs : Array Value} {t : TypeId} {v : Value} (h : Aside0 (w.heap[a]? = some (.cells cs t (0, 0)))) (j : Nat) (e : cs[j]? = some v := by rfl) : w.cell? ⟨a, j, none⟩ = some v := (blk_cell h.out j).trans e
theorem bf_ {w : World} {g : Nat} {t : TypeId} {cs : Array Value} {h' : Nat} (h : Aside0 (w.heap[g]? = some (.cells cs t (0, 0)))) (hn : Aside0 (g ≠ h')) (p : Addr) (v : Value) (e : p.block = h') : Aside0 ((w.setCell p v).heap[g]? = some (.cells cs t (0, 0))) := ⟨blk_far h.out (by rw [e]; exact hn.out) v⟩
theorem ra_ {w w1 : World} {n g : Nat} {t : TypeId} {cs : Array Value} (hq : w.drewN n = w1) (h : Aside0 (w.heap[g]? = some (.cells cs t (0, 0)))) : Aside0 (w1.heap[g]? = some (.cells cs t (0, 0))) := ⟨blk_at hq h.out⟩
theorem rb_ {w w1 w0 : World} {n s : Nat} (hq : w.drewN n = w1) (h : Aside0 (Below s w0 w)) : Aside0 (Below s w0 w1) := ⟨below_at hq h.out⟩
theorem sa_ {α : Type} (l : List α) (i : Nat) (a : α) : l.toArray.setIfInBounds i a = (l.set i a).toArray := List.setIfInBounds_toArray ..
theorem sb_ {α : Type} (x : α) (l : List α) (b : α) : (x :: l).set 0 b = b :: l := rfl
theorem sc_ {α : Type} (x : α) (l : List α) (n : Nat) (b : α) : (x :: l).set (n + 1) b = x :: l.set n b := rfl
theorem an_ {md : Region.Mode} {ops : Array Oper} {T : Bool × List (List Nat × List Nat)} {l l' : Array Bool} {i : Nat} (hT : Aside0 (rtab md ops = T)) (h : anyT T l.toList l'.toList i = true := by kernel_rfl) : anyB md ops l l' i = true := any_of hT.out h
theorem on_ {md : Region.Mode} {ops : Array Oper} {T : Bool × List (List Nat × List Nat)} {l l' : Array Bool} {i : Nat} (hT : Aside0 (rtab md ops = T)) (h : (readyT T.2 l.toList == [i] && l.toList.set i true == l'.toList) = true := by kernel_rfl) : readyB md ops l l' i = true := one_of hT.out h
theorem tk_ {md : Region.Mode} {ops : Array Oper} {T : Bool × List (List Nat × List Nat)} {l l' : Array Bool} {ds : List Nat} {i : Nat} {B : List Nat} (hT : Aside0 (rtab md ops = T)) (hB : Aside0 (waitsOk T.2 B = true)) (h : takeW T B ds l.toList l'.toList i = true := by kernel_rfl) : takeB md ops ds l l' i = true := take_ofW hT.out hB.out h
theorem w64_0 : wrap64 0 = 0 := by decide +kernel
theorem w64_1 : wrap64 1 = 1 := by decide +kernel
theorem w64_2 : wrap64 2 = 2 := by decide +kernel
theorem w64_3 : wrap64 3 = 3 := by decide +kernel
theorem w64_4 : wrap64 4 = 4 := by decide +kernel
theorem w64_5 : wrap64 5 = 5 := by decide +kernel
theorem w64_6 : wrap64 6 = 6 := by decide +kernel
theorem w64_7 : wrap64 7 = 7 := by decide +kernel
theorem tm4_0 : Int.tmod 0 4 = 0 := by decide
theorem tm4_1 : Int.tmod 1 4 = 1 := by decide
theorem tm4_2 : Int.tmod 2 4 = 2 := by decide
theorem tm4_3 : Int.tmod 3 4 = 3 := by decide
theorem tm4_4 : Int.tmod 4 4 = 0 := by decide
theorem tm4_5 : Int.tmod 5 4 = 1 := by decide
theorem tm4_6 : Int.tmod 6 4 = 2 := by decide
theorem tm4_7 : Int.tmod 7 4 = 3 := by decide
end Go.Proofs.YtkailiemikjfbaaDoor.Q
end
section
namespace Go.Proofs.YtkailiemikjfbaaDoor.Q
open Go.RowKit Go.Proofs.YtkailiemikjfbaaDoorW.PrintWords Go.Proofs.YtkailiemikjfbaaDoorW.PrintLast Go.Proofs.YtkailiemikjfbaaDoorW.PrintMore
attribute [local go_sem] max2_int min2_int max_two min_two max_three min_three max_four min_four   -- for this text's walks alone
set_option linter.unusedVariables false
set_option linter.unusedSimpArgs false

attribute [local go_sem high] eqA25
/-! ### attestorlaw08_ChannelDraws: function 3 -/
def attestorlaw08_ChannelDraws.j0 : Nat → Int → Bool → Int → Int → Int → Int → Int → Option (Bool)
  | 0, _, _, _, _, _, _, _ => none
  | k + 1, x1, x32, x287000, x287001, x287002, x287003, x287004 => if x32 = true then (none) else ((channel_Position.f k x287000 x287001 x287002 x287003 x287004 x1).bind fun bt301 => ((attestorref08_Position.f k x287000 x287001 x287002 x287003 x287004 x1).bind fun bt308 => (if (!(bt301.1 == bt308.1) || ((!(bt301.2.1 == bt308.2.1) || (!(bt301.2.2.1 == bt308.2.2.1) || (!(bt301.2.2.2.1 == bt308.2.2.2.1) || (!(bt301.2.2.2.2.1 == bt308.2.2.2.2.1))))))) = true then (none) else (if bt301.2.2.2.2.2 = bt308.2.2.2.2.2 then ((channel_Position.f k x287000 x287001 x287002 x287003 x287004 0).bind fun bt315 => ((attestorref08_Position.f k x287000 x287001 x287002 x287003 x287004 0).bind fun bt322 => (if (!(bt315.1 == bt322.1) || ((!(bt315.2.1 == bt322.2.1) || (!(bt315.2.2.1 == bt322.2.2.1) || (!(bt315.2.2.2.1 == bt322.2.2.2.1) || (!(bt315.2.2.2.2.1 == bt322.2.2.2.2.1))))))) = true then (none) else (if bt315.2.2.2.2.2 = bt322.2.2.2.2.2 then ((channel_Position.f k x287000 x287001 x287002 x287003 x287004 5).bind fun bt329 => ((attestorref08_Position.f k x287000 x287001 x287002 x287003 x287004 5).bind fun bt336 => (if (!(bt329.1 == bt336.1) || ((!(bt329.2.1 == bt336.2.1) || (!(bt329.2.2.1 == bt336.2.2.1) || (!(bt329.2.2.2.1 == bt336.2.2.2.1) || (!(bt329.2.2.2.2.1 == bt336.2.2.2.2.1))))))) = true then (none) else (if bt329.2.2.2.2.2 = bt336.2.2.2.2.2 then ((channel_Position.f k x287000 x287001 x287002 x287003 x287004 24).bind fun bt343 => ((attestorref08_Position.f k x287000 x287001 x287002 x287003 x287004 24).bind fun bt350 => (if (!(bt343.1 == bt350.1) || ((!(bt343.2.1 == bt350.2.1) || (!(bt343.2.2.1 == bt350.2.2.1) || (!(bt343.2.2.2.1 == bt350.2.2.2.1) || (!(bt343.2.2.2.2.1 == bt350.2.2.2.2.1))))))) = true then (none) else (if bt343.2.2.2.2.2 = bt350.2.2.2.2.2 then ((attestorlaw08_lives.f k).bind fun t357 => (some t357)) else (none))))) else (none))))) else (none))))) else (none)))))
def attestorlaw08_ChannelDraws.f (k : Nat) (a0_0 : Int) (a0_1 : Int) (a0_2 : Int) (a0_3 : Int) (a0_4 : Int) (a1 : Int) : Option (Bool) := (channel_Draw.f k a0_0 a0_1 a0_2 a0_3 a0_4).bind fun bt287 => ((attestorref08_Draw.f k a0_0 a0_1 a0_2 a0_3 a0_4).bind fun bt294 => (if (!(bt287.1 == bt294.1) || ((!(bt287.2.1 == bt294.2.1) || (!(bt287.2.2.1 == bt294.2.2.1) || (!(bt287.2.2.2.1 == bt294.2.2.2.1) || (!(bt287.2.2.2.2.1 == bt294.2.2.2.2.1))))))) = true then (attestorlaw08_ChannelDraws.j0 k a1 true a0_0 a0_1 a0_2 a0_3 a0_4) else (attestorlaw08_ChannelDraws.j0 k a1 (bt287.2.2.2.2.2 != bt294.2.2.2.2.2) a0_0 a0_1 a0_2 a0_3 a0_4)))
theorem attestorlaw08_ChannelDraws.mono_l : ∀ k, (∀ y0 y1 y2 y3 y4 y5 y6, LeO (attestorlaw08_ChannelDraws.j0 k y0 y1 y2 y3 y4 y5 y6) (attestorlaw08_ChannelDraws.j0 (k + 1) y0 y1 y2 y3 y4 y5 y6))
  | 0 => fun _ _ _ _ _ _ _ r h => by simp [attestorlaw08_ChannelDraws.j0] at h
  | k + 1 => by
    have ih0 := attestorlaw08_ChannelDraws.mono_l k
    · intro y0 y1 y2 y3 y4 y5 y6
      unfold attestorlaw08_ChannelDraws.j0
      repeat' first
      | (with_reducible exact ih0 _ _ _ _ _ _ _)
      | (with_reducible exact attestorlaw08_lives.mono _)
      | (with_reducible exact attestorref08_Draw.mono _ _ _ _ _ _)
      | (with_reducible exact attestorref08_Position.mono _ _ _ _ _ _ _)
      | (with_reducible exact channel_Draw.mono _ _ _ _ _ _)
      | (with_reducible exact channel_Position.mono _ _ _ _ _ _ _)
      | (with_reducible exact LeO.refl _)
      | (with_reducible exact LeO.none _)
      | (with_reducible refine LeO.ite ?_ ?_)
      | (with_reducible refine LeO.bind ?_ (fun _ => ?_))
      | exact ih0 _ _ _ _ _ _ _
      | exact attestorlaw08_lives.mono _
      | exact attestorref08_Draw.mono _ _ _ _ _ _
      | exact attestorref08_Position.mono _ _ _ _ _ _ _
      | exact channel_Draw.mono _ _ _ _ _ _
      | exact channel_Position.mono _ _ _ _ _ _ _
      | exact LeO.none _
      | refine LeO.ite ?_ ?_
      | refine LeO.bind ?_ (fun _ => ?_)
theorem attestorlaw08_ChannelDraws.mono : ∀ a0 a1 a2 a3 a4 a5 k, LeO (attestorlaw08_ChannelDraws.f k a0 a1 a2 a3 a4 a5) (attestorlaw08_ChannelDraws.f (k + 1) a0 a1 a2 a3 a4 a5) := by
  intro a0 a1 a2 a3 a4 a5 k
  have ih0 := attestorlaw08_ChannelDraws.mono_l k
  unfold attestorlaw08_ChannelDraws.f
  repeat' first
      | (with_reducible exact ih0 _ _ _ _ _ _ _)
      | (with_reducible exact attestorlaw08_lives.mono _)
      | (with_reducible exact attestorref08_Draw.mono _ _ _ _ _ _)
      | (with_reducible exact attestorref08_Position.mono _ _ _ _ _ _ _)
      | (with_reducible exact channel_Draw.mono _ _ _ _ _ _)
      | (with_reducible exact channel_Position.mono _ _ _ _ _ _ _)
      | (with_reducible exact LeO.refl _)
      | (with_reducible exact LeO.none _)
      | (with_reducible refine LeO.ite ?_ ?_)
      | (with_reducible refine LeO.bind ?_ (fun _ => ?_))
      | exact ih0 _ _ _ _ _ _ _
      | exact attestorlaw08_lives.mono _
      | exact attestorref08_Draw.mono _ _ _ _ _ _
      | exact attestorref08_Position.mono _ _ _ _ _ _ _
      | exact channel_Draw.mono _ _ _ _ _ _
      | exact channel_Position.mono _ _ _ _ _ _ _
      | exact LeO.none _
      | refine LeO.ite ?_ ?_
      | refine LeO.bind ?_ (fun _ => ?_)
set_option maxHeartbeats 8000000 in
set_option maxRecDepth 100000 in
theorem attestorlaw08_ChannelDraws.calls (k : Nat) (a0_0 : Int) (a0_1 : Int) (a0_2 : Int) (a0_3 : Int) (a0_4 : Int) (a1 : Int) (r : Bool) (w : World) (hrG : GL w) (h : attestorlaw08_ChannelDraws.f k a0_0 a0_1 a0_2 a0_3 a0_4 a1 = some r) :
  Calls Tryd.prog 3 #[.agg #[.int .i64 a0_0, .int .u64 a0_1, .int .u64 a0_2, .int .u64 a0_3, .int .u64 a0_4], .int .i64 a1] w fun e w' => e = .returned (.bool r) ∧ Below w.heap.size w w' := by
 have hix28_i64_0 : ∀ (x0_0 : Int) (x1_0 : Int) (x2_0 : Int) (x3_0 : Int) (W : World), (Instr.index 28 (.agg #[.int .i64 x0_0, .int .i64 x1_0, .int .i64 x2_0, .int .i64 x3_0]) (.int .i64 0)).run Tryd.prog W = .ok (.int .i64 x0_0) W := by intros; kernel_rfl
 have hix28_i64_1 : ∀ (x0_0 : Int) (x1_0 : Int) (x2_0 : Int) (x3_0 : Int) (W : World), (Instr.index 28 (.agg #[.int .i64 x0_0, .int .i64 x1_0, .int .i64 x2_0, .int .i64 x3_0]) (.int .i64 1)).run Tryd.prog W = .ok (.int .i64 x1_0) W := by intros; kernel_rfl
 have hix28_i64_2 : ∀ (x0_0 : Int) (x1_0 : Int) (x2_0 : Int) (x3_0 : Int) (W : World), (Instr.index 28 (.agg #[.int .i64 x0_0, .int .i64 x1_0, .int .i64 x2_0, .int .i64 x3_0]) (.int .i64 2)).run Tryd.prog W = .ok (.int .i64 x2_0) W := by intros; kernel_rfl
 have hix28_i64_3 : ∀ (x0_0 : Int) (x1_0 : Int) (x2_0 : Int) (x3_0 : Int) (W : World), (Instr.index 28 (.agg #[.int .i64 x0_0, .int .i64 x1_0, .int .i64 x2_0, .int .i64 x3_0]) (.int .i64 3)).run Tryd.prog W = .ok (.int .i64 x3_0) W := by intros; kernel_rfl
 have hu25 := Tryd.underlying25
 have hu28 := Tryd.underlying28
 have HRG := Aside0.mk hrG
 clear hrG
 have HB := Aside0.mk (Below.refl w.heap.size w)
 have H : ((channel_Draw.f k a0_0 a0_1 a0_2 a0_3 a0_4).bind fun bt287 => ((attestorref08_Draw.f k a0_0 a0_1 a0_2 a0_3 a0_4).bind fun bt294 => (if (!(bt287.1 == bt294.1) || ((!(bt287.2.1 == bt294.2.1) || (!(bt287.2.2.1 == bt294.2.2.1) || (!(bt287.2.2.2.1 == bt294.2.2.2.1) || (!(bt287.2.2.2.2.1 == bt294.2.2.2.2.1))))))) = true then (attestorlaw08_ChannelDraws.j0 k a1 true a0_0 a0_1 a0_2 a0_3 a0_4) else (attestorlaw08_ChannelDraws.j0 k a1 (bt287.2.2.2.2.2 != bt294.2.2.2.2.2) a0_0 a0_1 a0_2 a0_3 a0_4)))) = some r := h
 clear h
 replace H := Option.bind_eq_some_iff.mp H
 obtain ⟨⟨t287, t288, t289, t290, t291, t292⟩, A30, H⟩ := H
 replace H : ((attestorref08_Draw.f k a0_0 a0_1 a0_2 a0_3 a0_4).bind fun bt294 => (if (!(t287 == bt294.1) || ((!(t288 == bt294.2.1) || (!(t289 == bt294.2.2.1) || (!(t290 == bt294.2.2.2.1) || (!(t291 == bt294.2.2.2.2.1))))))) = true then (attestorlaw08_ChannelDraws.j0 k a1 true a0_0 a0_1 a0_2 a0_3 a0_4) else (attestorlaw08_ChannelDraws.j0 k a1 (t292 != bt294.2.2.2.2.2) a0_0 a0_1 a0_2 a0_3 a0_4))) = some r := H
 have A3 := Aside0.mk A30
 clear A30
 replace H := Option.bind_eq_some_iff.mp H
 obtain ⟨⟨t294, t295, t296, t297, t298, t299⟩, A40, H⟩ := H
 replace H : (if (!(t287 == t294) || ((!(t288 == t295) || (!(t289 == t296) || (!(t290 == t297) || (!(t291 == t298))))))) = true then (attestorlaw08_ChannelDraws.j0 k a1 true a0_0 a0_1 a0_2 a0_3 a0_4) else (attestorlaw08_ChannelDraws.j0 k a1 (t292 != t299) a0_0 a0_1 a0_2 a0_3 a0_4)) = some r := H
 have A4 := Aside0.mk A40
 clear A40
 have HC5 := Aside0.mk H
 clear H
 go_enter Tryd.func3, Tryd.ntmps3
 go_upto_region 3 with (first | ((with_reducible refine gate_dst (N := 2) rfl ?_); refine box_event ?hg (N := 2) ?hd (cs := #[.int .i64 a0_0, .int .u64 a0_1, .int .u64 a0_2, .int .u64 a0_3, .int .u64 a0_4]) (t := 25) ?hr ?_; (case hd => rfl); (case hg => rfl); (case hr => first | (go_simp; done) | (go_simp; rfl)); intro g286 hg w6 hbox hb; have n0_ := Aside0.mk (below_step (by repeat (first | (with_reducible first | exact HB.out | apply below_alloc | apply pw_below_drewN | apply below_drew1) | exact HB.out)) hb); have n1_ := Aside0.mk (hbox); have n2_ := Aside0.mk ((by rw [hg]; exact (below_size (by repeat (first | (with_reducible first | exact HB.out | apply below_alloc | apply pw_below_drewN | apply below_drew1) | exact HB.out))) : w.heap.size ≤ g286)); have n3_ := Aside0.mk ((by rw [hg]; exact (below_size (by repeat (first | (with_reducible first | exact HB.out | apply below_alloc | apply pw_below_drewN | apply below_drew1) | exact HB.out))) : w.heap.size ≤ g286)); clear HB; have HB := n0_; have B286 := n1_; have GW286 := n2_; have GE286 := n3_; clear n0_ n1_ n2_ n3_; clear hb hbox hg; have hcz7_0 : w6.cell? ⟨g286, 0, none⟩ = some (.int .i64 a0_0) := bq_ B286 0; have hcz7_1 : w6.cell? ⟨g286, 1, none⟩ = some (.int .u64 a0_1) := bq_ B286 1; have hcz7_2 : w6.cell? ⟨g286, 2, none⟩ = some (.int .u64 a0_2) := bq_ B286 2; have hcz7_3 : w6.cell? ⟨g286, 3, none⟩ = some (.int .u64 a0_3) := bq_ B286 3; have hcz7_4 : w6.cell? ⟨g286, 4, none⟩ = some (.int .u64 a0_4) := bq_ B286 4; have hfz7_0 := blk_frozen B286.out 0; have hfz7_1 := blk_frozen B286.out 1; have hfz7_2 := blk_frozen B286.out 2; have hfz7_3 := blk_frozen B286.out 3; have hfz7_4 := blk_frozen B286.out 4) | ((with_reducible refine gate_callee (f := 10) rfl ?_); refine goesL_ (some 17) rfl rfl Tryd.func10 (by kernel_rfl) rfl #[.agg #[.int .i64 a0_0, .int .u64 a0_1, .int .u64 a0_2, .int .u64 a0_3, .int .u64 a0_4]] rfl (by (try simp only [List.map_toArray, List.map_cons, List.map_nil]); first | done | rfl) ?_; (with_reducible refine (channel_Draw.calls k a0_0 a0_1 a0_2 a0_3 a0_4 t287 t288 t289 t290 t291 t292 _ ?side1 A3.out).mono ?_); (case side1 => repeat (first | exact (GL.below HRG.out HB.out) | (with_reducible refine GL.alloc ?_ _) | (with_reducible refine GL.drewN ?_ _) | (with_reducible refine GL.drew ?_))); rintro e w8 ⟨rfl, hb⟩; refine ⟨_, rfl, ?_⟩; have n0_ := Aside0.mk (blk_below (g := g286) (o := .cells #[.int .i64 a0_0, .int .u64 a0_1, .int .u64 a0_2, .int .u64 a0_3, .int .u64 a0_4] 25 (0, 0)) (by exact B286.out) hb); have n1_ := Aside0.mk (below_step (by repeat (first | (with_reducible first | exact HB.out | apply below_alloc | apply pw_below_drewN | apply below_drew1 | refine below_set ?_ GE286.out) | exact HB.out)) hb); clear B286; clear HB; have B286 := n0_; have HB := n1_; clear n0_ n1_; (try clear hb); (try clear hb2); (try clear hk); (try clear hi)) | ((with_reducible refine gate_dst (N := 5) rfl ?_); refine box_event ?hg (N := 5) ?hd (cs := #[.int .i64 0, .int .u64 0, .int .u64 0, .int .u64 0, .int .u64 0]) (t := 25) ?hr ?_; (case hd => rfl); (case hg => rfl); (case hr => first | (go_simp; done) | (go_simp; rfl)); intro g293 hg w9 hbox hb; have n0_ := Aside0.mk (blk_below (g := g286) (o := .cells #[.int .i64 a0_0, .int .u64 a0_1, .int .u64 a0_2, .int .u64 a0_3, .int .u64 a0_4] 25 (0, 0)) (by exact B286.out) hb); have n1_ := Aside0.mk (below_step (by repeat (first | (with_reducible first | exact HB.out | apply below_alloc | apply pw_below_drewN | apply below_drew1 | refine below_set ?_ GE286.out) | exact HB.out)) hb); have n2_ := Aside0.mk (hbox); have n3_ := Aside0.mk ((by rw [hg]; exact (below_size (by repeat (first | (with_reducible first | exact HB.out | apply below_alloc | apply pw_below_drewN | apply below_drew1 | refine below_set ?_ GE286.out) | exact HB.out))) : w.heap.size ≤ g293)); have n4_ := Aside0.mk ((by rw [hg]; exact (below_size (by repeat (first | (with_reducible first | exact HB.out | apply below_alloc | apply pw_below_drewN | apply below_drew1 | refine below_set ?_ GE286.out) | exact HB.out))) : w.heap.size ≤ g293)); have n5_ := Aside0.mk ((by rw [hg]; exact Nat.ne_of_lt (blk_lt (g := g286) (o := .cells #[.int .i64 a0_0, .int .u64 a0_1, .int .u64 a0_2, .int .u64 a0_3, .int .u64 a0_4] 25 (0, 0)) (by exact B286.out)) : g286 ≠ g293)); have n6_ := Aside0.mk ((by rw [hg]; exact Nat.ne_of_gt (blk_lt (g := g286) (o := .cells #[.int .i64 a0_0, .int .u64 a0_1, .int .u64 a0_2, .int .u64 a0_3, .int .u64 a0_4] 25 (0, 0)) (by exact B286.out)) : g293 ≠ g286)); clear B286; clear HB; have B286 := n0_; have HB := n1_; have B293 := n2_; have GW293 := n3_; have GE293 := n4_; have NB286_293 := n5_; have NB293_286 := n6_; clear n0_ n1_ n2_ n3_ n4_ n5_ n6_; clear hb hbox hg; have hnb10 := NB293_286.out; have hnc10 := NB286_293.out; have hcz11_0 : w9.cell? ⟨g293, 0, none⟩ = some (.int .i64 0) := bq_ B293 0; have hcz11_1 : w9.cell? ⟨g293, 1, none⟩ = some (.int .u64 0) := bq_ B293 1; have hcz11_2 : w9.cell? ⟨g293, 2, none⟩ = some (.int .u64 0) := bq_ B293 2; have hcz11_3 : w9.cell? ⟨g293, 3, none⟩ = some (.int .u64 0) := bq_ B293 3; have hcz11_4 : w9.cell? ⟨g293, 4, none⟩ = some (.int .u64 0) := bq_ B293 4; have hfz11_0 := blk_frozen B293.out 0; have hfz11_1 := blk_frozen B293.out 1; have hfz11_2 := blk_frozen B293.out 2; have hfz11_3 := blk_frozen B293.out 3; have hfz11_4 := blk_frozen B293.out 4; have hcz12_0 : w9.cell? ⟨g286, 0, none⟩ = some (.int .i64 a0_0) := bq_ B286 0; have hcz12_1 : w9.cell? ⟨g286, 1, none⟩ = some (.int .u64 a0_1) := bq_ B286 1; have hcz12_2 : w9.cell? ⟨g286, 2, none⟩ = some (.int .u64 a0_2) := bq_ B286 2; have hcz12_3 : w9.cell? ⟨g286, 3, none⟩ = some (.int .u64 a0_3) := bq_ B286 3; have hcz12_4 : w9.cell? ⟨g286, 4, none⟩ = some (.int .u64 a0_4) := bq_ B286 4; have hfz12_0 := blk_frozen B286.out 0; have hfz12_1 := blk_frozen B286.out 1; have hfz12_2 := blk_frozen B286.out 2; have hfz12_3 := blk_frozen B286.out 3; have hfz12_4 := blk_frozen B286.out 4) | ((with_reducible refine gate_callee (f := 11) rfl ?_); refine goesL_ (some 22) rfl rfl Tryd.func11 (by kernel_rfl) rfl #[.agg #[.int .i64 a0_0, .int .u64 a0_1, .int .u64 a0_2, .int .u64 a0_3, .int .u64 a0_4]] rfl (by (try simp only [List.map_toArray, List.map_cons, List.map_nil]); first | done | rfl) ?_; (with_reducible refine (attestorref08_Draw.calls k a0_0 a0_1 a0_2 a0_3 a0_4 t294 t295 t296 t297 t298 t299 _ A4.out).mono ?_); rintro e w13 ⟨rfl, hb⟩; refine ⟨_, rfl, ?_⟩; have n0_ := Aside0.mk (blk_below (g := g286) (o := .cells #[.int .i64 a0_0, .int .u64 a0_1, .int .u64 a0_2, .int .u64 a0_3, .int .u64 a0_4] 25 (0, 0)) (by refine blk_far ?_ NB286_293.out _; refine blk_far ?_ NB286_293.out _; refine blk_far ?_ NB286_293.out _; refine blk_far ?_ NB286_293.out _; refine blk_far ?_ NB286_293.out _; exact B286.out) hb); have n1_ := Aside0.mk (blk_below (g := g293) (o := .cells #[.int .i64 t287, .int .u64 t288, .int .u64 t289, .int .u64 t290, .int .u64 t291] 25 (0, 0)) (by refine blk_put (cs := #[.int .i64 t287, .int .u64 t288, .int .u64 t289, .int .u64 t290, .int .u64 0]) ?_ 4 _ rfl; refine blk_put (cs := #[.int .i64 t287, .int .u64 t288, .int .u64 t289, .int .u64 0, .int .u64 0]) ?_ 3 _ rfl; refine blk_put (cs := #[.int .i64 t287, .int .u64 t288, .int .u64 0, .int .u64 0, .int .u64 0]) ?_ 2 _ rfl; refine blk_put (cs := #[.int .i64 t287, .int .u64 0, .int .u64 0, .int .u64 0, .int .u64 0]) ?_ 1 _ rfl; refine blk_put (cs := #[.int .i64 0, .int .u64 0, .int .u64 0, .int .u64 0, .int .u64 0]) ?_ 0 _ rfl; exact B293.out) hb); have n2_ := Aside0.mk (below_step (by repeat (first | (with_reducible first | exact HB.out | apply below_alloc | apply pw_below_drewN | apply below_drew1 | refine below_set ?_ GE286.out | refine below_set ?_ GE293.out) | exact HB.out)) hb); clear B286; clear B293; clear HB; have B286 := n0_; have B293 := n1_; have HB := n2_; clear n0_ n1_ n2_; (try clear hb); (try clear hb2); (try clear hk); (try clear hi)) | ((with_reducible refine gate_dst (N := 7) rfl ?_); refine box_event ?hg (N := 7) ?hd (cs := #[.int .i64 0, .int .u64 0, .int .u64 0, .int .u64 0, .int .u64 0]) (t := 25) ?hr ?_; (case hd => rfl); (case hg => rfl); (case hr => first | (go_simp; done) | (go_simp; rfl)); intro g300 hg w14 hbox hb; have n0_ := Aside0.mk (blk_below (g := g286) (o := .cells #[.int .i64 a0_0, .int .u64 a0_1, .int .u64 a0_2, .int .u64 a0_3, .int .u64 a0_4] 25 (0, 0)) (by exact B286.out) hb); have n1_ := Aside0.mk (blk_below (g := g293) (o := .cells #[.int .i64 t287, .int .u64 t288, .int .u64 t289, .int .u64 t290, .int .u64 t291] 25 (0, 0)) (by exact B293.out) hb); have n2_ := Aside0.mk (below_step (by repeat (first | (with_reducible first | exact HB.out | apply below_alloc | apply pw_below_drewN | apply below_drew1 | refine below_set ?_ GE286.out | refine below_set ?_ GE293.out) | exact HB.out)) hb); have n3_ := Aside0.mk (hbox); have n4_ := Aside0.mk ((by rw [hg]; exact (below_size (by repeat (first | (with_reducible first | exact HB.out | apply below_alloc | apply pw_below_drewN | apply below_drew1 | refine below_set ?_ GE286.out | refine below_set ?_ GE293.out) | exact HB.out))) : w.heap.size ≤ g300)); have n5_ := Aside0.mk ((by rw [hg]; exact (below_size (by repeat (first | (with_reducible first | exact HB.out | apply below_alloc | apply pw_below_drewN | apply below_drew1 | refine below_set ?_ GE286.out | refine below_set ?_ GE293.out) | exact HB.out))) : w.heap.size ≤ g300)); have n6_ := Aside0.mk ((by rw [hg]; exact Nat.ne_of_lt (blk_lt (g := g286) (o := .cells #[.int .i64 a0_0, .int .u64 a0_1, .int .u64 a0_2, .int .u64 a0_3, .int .u64 a0_4] 25 (0, 0)) (by exact B286.out)) : g286 ≠ g300)); have n7_ := Aside0.mk ((by rw [hg]; exact Nat.ne_of_gt (blk_lt (g := g286) (o := .cells #[.int .i64 a0_0, .int .u64 a0_1, .int .u64 a0_2, .int .u64 a0_3, .int .u64 a0_4] 25 (0, 0)) (by exact B286.out)) : g300 ≠ g286)); have n8_ := Aside0.mk ((by rw [hg]; exact Nat.ne_of_lt (blk_lt (g := g293) (o := .cells #[.int .i64 t287, .int .u64 t288, .int .u64 t289, .int .u64 t290, .int .u64 t291] 25 (0, 0)) (by exact B293.out)) : g293 ≠ g300)); have n9_ := Aside0.mk ((by rw [hg]; exact Nat.ne_of_gt (blk_lt (g := g293) (o := .cells #[.int .i64 t287, .int .u64 t288, .int .u64 t289, .int .u64 t290, .int .u64 t291] 25 (0, 0)) (by exact B293.out)) : g300 ≠ g293)); clear B286; clear B293; clear HB; have B286 := n0_; have B293 := n1_; have HB := n2_; have B300 := n3_; have GW300 := n4_; have GE300 := n5_; have NB286_300 := n6_; have NB300_286 := n7_; have NB293_300 := n8_; have NB300_293 := n9_; clear n0_ n1_ n2_ n3_ n4_ n5_ n6_ n7_ n8_ n9_; clear hb hbox hg; have hnb15 := NB300_286.out; have hnc15 := NB286_300.out; have hnb16 := NB300_293.out; have hnc16 := NB293_300.out; have hcz17_0 : w14.cell? ⟨g300, 0, none⟩ = some (.int .i64 0) := bq_ B300 0; have hcz17_1 : w14.cell? ⟨g300, 1, none⟩ = some (.int .u64 0) := bq_ B300 1; have hcz17_2 : w14.cell? ⟨g300, 2, none⟩ = some (.int .u64 0) := bq_ B300 2; have hcz17_3 : w14.cell? ⟨g300, 3, none⟩ = some (.int .u64 0) := bq_ B300 3; have hcz17_4 : w14.cell? ⟨g300, 4, none⟩ = some (.int .u64 0) := bq_ B300 4; have hfz17_0 := blk_frozen B300.out 0; have hfz17_1 := blk_frozen B300.out 1; have hfz17_2 := blk_frozen B300.out 2; have hfz17_3 := blk_frozen B300.out 3; have hfz17_4 := blk_frozen B300.out 4))
 (try simp only [Act.put, sa_, sb_, sc_])
 go_cut [32] (fun v32 wc => ∃ (kq : Nat) (x32_4 : Bool), v32 = .bool x32_4 ∧ Aside0 (attestorlaw08_ChannelDraws.j0 kq a1 x32_4 a0_0 a0_1 a0_2 a0_3 a0_4 = some r) ∧ Aside0 (kq ≤ k) ∧ Aside0 (wc.heap[g286]? = some (.cells #[.int .i64 a0_0, .int .u64 a0_1, .int .u64 a0_2, .int .u64 a0_3, .int .u64 a0_4] 25 (0, 0))) ∧ Aside0 (wc.heap[g293]? = some (.cells #[.int .i64 t287, .int .u64 t288, .int .u64 t289, .int .u64 t290, .int .u64 t291] 25 (0, 0))) ∧ Aside0 (wc.heap[g300]? = some (.cells #[.int .i64 t294, .int .u64 t295, .int .u64 t296, .int .u64 t297, .int .u64 t298] 25 (0, 0))) ∧ Aside0 (Below w.heap.size w wc))
 case first =>
  have H := HC5.out
  clear HC5
  by_cases c18 : (!(t287 == t294) || ((!(t288 == t295) || (!(t289 == t296) || (!(t290 == t297) || (!(t291 == t298))))))) = true
  ·rw [if_pos c18] at H
   have c18b0 : (!(t287 == t294) || ((!(t288 == t295) || (!(t289 == t296) || (!(t290 == t297) || (!(t291 == t298))))))) = true := c18
   clear c18
   (first | rw [c18b0] | (simp only [i64_w, i32_w]; rw [c18b0]) | skip)
   have H' := Aside0.mk H
   clear H
   have hnb19 := NB293_286.out
   have hnc19 := NB286_293.out
   have hnb20 := NB293_300.out
   have hnc20 := NB300_293.out
   have hcz21_0 : w14.cell? ⟨g293, 0, none⟩ = some (.int .i64 t287) := bq_ B293 0
   have hcz21_1 : w14.cell? ⟨g293, 1, none⟩ = some (.int .u64 t288) := bq_ B293 1
   have hcz21_2 : w14.cell? ⟨g293, 2, none⟩ = some (.int .u64 t289) := bq_ B293 2
   have hcz21_3 : w14.cell? ⟨g293, 3, none⟩ = some (.int .u64 t290) := bq_ B293 3
   have hcz21_4 : w14.cell? ⟨g293, 4, none⟩ = some (.int .u64 t291) := bq_ B293 4
   have hfz21_0 := blk_frozen B293.out 0
   have hfz21_1 := blk_frozen B293.out 1
   have hfz21_2 := blk_frozen B293.out 2
   have hfz21_3 := blk_frozen B293.out 3
   have hfz21_4 := blk_frozen B293.out 4
   have hnb22 := NB300_286.out
   have hnc22 := NB286_300.out
   have hcz23_0 : w14.cell? ⟨g300, 0, none⟩ = some (.int .i64 0) := bq_ B300 0
   have hcz23_1 : w14.cell? ⟨g300, 1, none⟩ = some (.int .u64 0) := bq_ B300 1
   have hcz23_2 : w14.cell? ⟨g300, 2, none⟩ = some (.int .u64 0) := bq_ B300 2
   have hcz23_3 : w14.cell? ⟨g300, 3, none⟩ = some (.int .u64 0) := bq_ B300 3
   have hcz23_4 : w14.cell? ⟨g300, 4, none⟩ = some (.int .u64 0) := bq_ B300 4
   have hfz23_0 := blk_frozen B300.out 0
   have hfz23_1 := blk_frozen B300.out 1
   have hfz23_2 := blk_frozen B300.out 2
   have hfz23_3 := blk_frozen B300.out 3
   have hfz23_4 := blk_frozen B300.out 4
   go_wp2
   go_meet
   case rel => exact ⟨_, (true), (by first | rfl | (simp; done) | (simp [*]; done) | (simp; rfl) | (simp; decide +kernel)), H', ⟨by first | omega | exact Nat.le_refl _⟩, ⟨by refine blk_far ?_ NB286_300.out _; refine blk_far ?_ NB286_300.out _; refine blk_far ?_ NB286_300.out _; refine blk_far ?_ NB286_300.out _; refine blk_far ?_ NB286_300.out _; exact B286.out⟩, ⟨by refine blk_far ?_ NB293_300.out _; refine blk_far ?_ NB293_300.out _; refine blk_far ?_ NB293_300.out _; refine blk_far ?_ NB293_300.out _; refine blk_far ?_ NB293_300.out _; exact B293.out⟩, ⟨by refine blk_put (cs := #[.int .i64 t294, .int .u64 t295, .int .u64 t296, .int .u64 t297, .int .u64 0]) ?_ 4 _ rfl; refine blk_put (cs := #[.int .i64 t294, .int .u64 t295, .int .u64 t296, .int .u64 0, .int .u64 0]) ?_ 3 _ rfl; refine blk_put (cs := #[.int .i64 t294, .int .u64 t295, .int .u64 0, .int .u64 0, .int .u64 0]) ?_ 2 _ rfl; refine blk_put (cs := #[.int .i64 t294, .int .u64 0, .int .u64 0, .int .u64 0, .int .u64 0]) ?_ 1 _ rfl; refine blk_put (cs := #[.int .i64 0, .int .u64 0, .int .u64 0, .int .u64 0, .int .u64 0]) ?_ 0 _ rfl; exact B300.out⟩, ⟨by repeat (first | (with_reducible first | exact HB.out | apply below_alloc | apply pw_below_drewN | apply below_drew1 | refine below_set ?_ GE286.out | refine below_set ?_ GE293.out | refine below_set ?_ GE300.out) | exact HB.out)⟩⟩
  ·rw [if_neg c18] at H
   have c18b0 : (!(t287 == t294) || ((!(t288 == t295) || (!(t289 == t296) || (!(t290 == t297) || (!(t291 == t298))))))) = false := by simpa using c18
   clear c18
   (first | rw [c18b0] | (simp only [i64_w, i32_w]; rw [c18b0]) | skip)
   have H' := Aside0.mk H
   clear H
   have hnb24 := NB293_286.out
   have hnc24 := NB286_293.out
   have hnb25 := NB293_300.out
   have hnc25 := NB300_293.out
   have hcz26_0 : w14.cell? ⟨g293, 0, none⟩ = some (.int .i64 t287) := bq_ B293 0
   have hcz26_1 : w14.cell? ⟨g293, 1, none⟩ = some (.int .u64 t288) := bq_ B293 1
   have hcz26_2 : w14.cell? ⟨g293, 2, none⟩ = some (.int .u64 t289) := bq_ B293 2
   have hcz26_3 : w14.cell? ⟨g293, 3, none⟩ = some (.int .u64 t290) := bq_ B293 3
   have hcz26_4 : w14.cell? ⟨g293, 4, none⟩ = some (.int .u64 t291) := bq_ B293 4
   have hfz26_0 := blk_frozen B293.out 0
   have hfz26_1 := blk_frozen B293.out 1
   have hfz26_2 := blk_frozen B293.out 2
   have hfz26_3 := blk_frozen B293.out 3
   have hfz26_4 := blk_frozen B293.out 4
   have hnb27 := NB300_286.out
   have hnc27 := NB286_300.out
   have hcz28_0 : w14.cell? ⟨g300, 0, none⟩ = some (.int .i64 0) := bq_ B300 0
   have hcz28_1 : w14.cell? ⟨g300, 1, none⟩ = some (.int .u64 0) := bq_ B300 1
   have hcz28_2 : w14.cell? ⟨g300, 2, none⟩ = some (.int .u64 0) := bq_ B300 2
   have hcz28_3 : w14.cell? ⟨g300, 3, none⟩ = some (.int .u64 0) := bq_ B300 3
   have hcz28_4 : w14.cell? ⟨g300, 4, none⟩ = some (.int .u64 0) := bq_ B300 4
   have hfz28_0 := blk_frozen B300.out 0
   have hfz28_1 := blk_frozen B300.out 1
   have hfz28_2 := blk_frozen B300.out 2
   have hfz28_3 := blk_frozen B300.out 3
   have hfz28_4 := blk_frozen B300.out 4
   go_wp2
   go_meet
   case rel => exact ⟨_, ((t292 != t299)), (by first | rfl | (simp; done) | (simp [*]; done) | (simp; rfl) | (simp; decide +kernel)), H', ⟨by first | omega | exact Nat.le_refl _⟩, ⟨by refine blk_far ?_ NB286_300.out _; refine blk_far ?_ NB286_300.out _; refine blk_far ?_ NB286_300.out _; refine blk_far ?_ NB286_300.out _; refine blk_far ?_ NB286_300.out _; exact B286.out⟩, ⟨by refine blk_far ?_ NB293_300.out _; refine blk_far ?_ NB293_300.out _; refine blk_far ?_ NB293_300.out _; refine blk_far ?_ NB293_300.out _; refine blk_far ?_ NB293_300.out _; exact B293.out⟩, ⟨by refine blk_put (cs := #[.int .i64 t294, .int .u64 t295, .int .u64 t296, .int .u64 t297, .int .u64 0]) ?_ 4 _ rfl; refine blk_put (cs := #[.int .i64 t294, .int .u64 t295, .int .u64 t296, .int .u64 0, .int .u64 0]) ?_ 3 _ rfl; refine blk_put (cs := #[.int .i64 t294, .int .u64 t295, .int .u64 0, .int .u64 0, .int .u64 0]) ?_ 2 _ rfl; refine blk_put (cs := #[.int .i64 t294, .int .u64 0, .int .u64 0, .int .u64 0, .int .u64 0]) ?_ 1 _ rfl; refine blk_put (cs := #[.int .i64 0, .int .u64 0, .int .u64 0, .int .u64 0, .int .u64 0]) ?_ 0 _ rfl; exact B300.out⟩, ⟨by repeat (first | (with_reducible first | exact HB.out | apply below_alloc | apply pw_below_drewN | apply below_drew1 | refine below_set ?_ GE286.out | refine below_set ?_ GE293.out | refine below_set ?_ GE300.out) | exact HB.out)⟩⟩
 case rest =>
  clear HC5
  try clear c1
  try clear c2
  try clear p2
  try clear c3
  try clear c10
  try clear c11
  try clear c15
  try clear c16
  try clear c18
  try clear c18b0
  try clear c19
  try clear c20
  try clear c22
  try clear c24
  try clear c25
  try clear c27
  try clear hcz11_0
  try clear hcz11_1
  try clear hcz11_2
  try clear hcz11_3
  try clear hcz11_4
  try clear hcz12_0
  try clear hcz12_1
  try clear hcz12_2
  try clear hcz12_3
  try clear hcz12_4
  try clear hcz17_0
  try clear hcz17_1
  try clear hcz17_2
  try clear hcz17_3
  try clear hcz17_4
  try clear hcz21_0
  try clear hcz21_1
  try clear hcz21_2
  try clear hcz21_3
  try clear hcz21_4
  try clear hcz23_0
  try clear hcz23_1
  try clear hcz23_2
  try clear hcz23_3
  try clear hcz23_4
  try clear hcz26_0
  try clear hcz26_1
  try clear hcz26_2
  try clear hcz26_3
  try clear hcz26_4
  try clear hcz28_0
  try clear hcz28_1
  try clear hcz28_2
  try clear hcz28_3
  try clear hcz28_4
  try clear hcz7_0
  try clear hcz7_1
  try clear hcz7_2
  try clear hcz7_3
  try clear hcz7_4
  try clear hfz11_0
  try clear hfz11_1
  try clear hfz11_2
  try clear hfz11_3
  try clear hfz11_4
  try clear hfz12_0
  try clear hfz12_1
  try clear hfz12_2
  try clear hfz12_3
  try clear hfz12_4
  try clear hfz17_0
  try clear hfz17_1
  try clear hfz17_2
  try clear hfz17_3
  try clear hfz17_4
  try clear hfz21_0
  try clear hfz21_1
  try clear hfz21_2
  try clear hfz21_3
  try clear hfz21_4
  try clear hfz23_0
  try clear hfz23_1
  try clear hfz23_2
  try clear hfz23_3
  try clear hfz23_4
  try clear hfz26_0
  try clear hfz26_1
  try clear hfz26_2
  try clear hfz26_3
  try clear hfz26_4
  try clear hfz28_0
  try clear hfz28_1
  try clear hfz28_2
  try clear hfz28_3
  try clear hfz28_4
  try clear hfz7_0
  try clear hfz7_1
  try clear hfz7_2
  try clear hfz7_3
  try clear hfz7_4
  obtain ⟨kq, x32_4, rfl, HA, HJ4, B286, B293, B300, HB⟩ := hcut
  cases kq with
  | zero => exact absurd HA.out (by simp [attestorlaw08_ChannelDraws.j0])
  | succ kj4 =>
   have H := HA.out
   clear HA
   simp only [attestorlaw08_ChannelDraws.j0] at H
   by_cases c29 : x32_4 = true
   ·subst c29
    have H1 : (none) = some r := by rw [if_pos rfl] at H; exact H
    clear H
    have H := H1
    clear H1
    exact absurd H (by simp)
   ·replace c29 := Bool.eq_false_iff.mpr c29
    subst c29
    have H1 : ((channel_Position.f kj4 a0_0 a0_1 a0_2 a0_3 a0_4 a1).bind fun bt301 => ((attestorref08_Position.f kj4 a0_0 a0_1 a0_2 a0_3 a0_4 a1).bind fun bt308 => (if (!(bt301.1 == bt308.1) || ((!(bt301.2.1 == bt308.2.1) || (!(bt301.2.2.1 == bt308.2.2.1) || (!(bt301.2.2.2.1 == bt308.2.2.2.1) || (!(bt301.2.2.2.2.1 == bt308.2.2.2.2.1))))))) = true then (none) else (if bt301.2.2.2.2.2 = bt308.2.2.2.2.2 then ((channel_Position.f kj4 a0_0 a0_1 a0_2 a0_3 a0_4 0).bind fun bt315 => ((attestorref08_Position.f kj4 a0_0 a0_1 a0_2 a0_3 a0_4 0).bind fun bt322 => (if (!(bt315.1 == bt322.1) || ((!(bt315.2.1 == bt322.2.1) || (!(bt315.2.2.1 == bt322.2.2.1) || (!(bt315.2.2.2.1 == bt322.2.2.2.1) || (!(bt315.2.2.2.2.1 == bt322.2.2.2.2.1))))))) = true then (none) else (if bt315.2.2.2.2.2 = bt322.2.2.2.2.2 then ((channel_Position.f kj4 a0_0 a0_1 a0_2 a0_3 a0_4 5).bind fun bt329 => ((attestorref08_Position.f kj4 a0_0 a0_1 a0_2 a0_3 a0_4 5).bind fun bt336 => (if (!(bt329.1 == bt336.1) || ((!(bt329.2.1 == bt336.2.1) || (!(bt329.2.2.1 == bt336.2.2.1) || (!(bt329.2.2.2.1 == bt336.2.2.2.1) || (!(bt329.2.2.2.2.1 == bt336.2.2.2.2.1))))))) = true then (none) else (if bt329.2.2.2.2.2 = bt336.2.2.2.2.2 then ((channel_Position.f kj4 a0_0 a0_1 a0_2 a0_3 a0_4 24).bind fun bt343 => ((attestorref08_Position.f kj4 a0_0 a0_1 a0_2 a0_3 a0_4 24).bind fun bt350 => (if (!(bt343.1 == bt350.1) || ((!(bt343.2.1 == bt350.2.1) || (!(bt343.2.2.1 == bt350.2.2.1) || (!(bt343.2.2.2.1 == bt350.2.2.2.1) || (!(bt343.2.2.2.2.1 == bt350.2.2.2.2.1))))))) = true then (none) else (if bt343.2.2.2.2.2 = bt350.2.2.2.2.2 then ((attestorlaw08_lives.f kj4).bind fun t357 => (some t357)) else (none))))) else (none))))) else (none))))) else (none))))) = some r := by rw [if_neg (show ¬ (false = true) by decide)] at H; exact H
    clear H
    have H := H1
    clear H1
    have HC30 := Aside0.mk H
    clear H
    go_wp2
    refine wp_loop_rounds 5 ?_
    rw [rounds_succ]
    have H := HC30.out
    clear HC30
    replace H := Option.bind_eq_some_iff.mp H
    obtain ⟨⟨t301, t302, t303, t304, t305, t306⟩, A310, H⟩ := H
    (try dsimp only at H)
    have A31 := Aside0.mk A310
    clear A310
    replace H := Option.bind_eq_some_iff.mp H
    obtain ⟨⟨t308, t309, t310, t311, t312, t313⟩, A320, H⟩ := H
    replace H : (if (!(t301 == t308) || ((!(t302 == t309) || (!(t303 == t310) || (!(t304 == t311) || (!(t305 == t312))))))) = true then (none) else (if t306 = t313 then ((channel_Position.f kj4 a0_0 a0_1 a0_2 a0_3 a0_4 0).bind fun bt315 => ((attestorref08_Position.f kj4 a0_0 a0_1 a0_2 a0_3 a0_4 0).bind fun bt322 => (if (!(bt315.1 == bt322.1) || ((!(bt315.2.1 == bt322.2.1) || (!(bt315.2.2.1 == bt322.2.2.1) || (!(bt315.2.2.2.1 == bt322.2.2.2.1) || (!(bt315.2.2.2.2.1 == bt322.2.2.2.2.1))))))) = true then (none) else (if bt315.2.2.2.2.2 = bt322.2.2.2.2.2 then ((channel_Position.f kj4 a0_0 a0_1 a0_2 a0_3 a0_4 5).bind fun bt329 => ((attestorref08_Position.f kj4 a0_0 a0_1 a0_2 a0_3 a0_4 5).bind fun bt336 => (if (!(bt329.1 == bt336.1) || ((!(bt329.2.1 == bt336.2.1) || (!(bt329.2.2.1 == bt336.2.2.1) || (!(bt329.2.2.2.1 == bt336.2.2.2.1) || (!(bt329.2.2.2.2.1 == bt336.2.2.2.2.1))))))) = true then (none) else (if bt329.2.2.2.2.2 = bt336.2.2.2.2.2 then ((channel_Position.f kj4 a0_0 a0_1 a0_2 a0_3 a0_4 24).bind fun bt343 => ((attestorref08_Position.f kj4 a0_0 a0_1 a0_2 a0_3 a0_4 24).bind fun bt350 => (if (!(bt343.1 == bt350.1) || ((!(bt343.2.1 == bt350.2.1) || (!(bt343.2.2.1 == bt350.2.2.1) || (!(bt343.2.2.2.1 == bt350.2.2.2.1) || (!(bt343.2.2.2.2.1 == bt350.2.2.2.2.1))))))) = true then (none) else (if bt343.2.2.2.2.2 = bt350.2.2.2.2.2 then ((attestorlaw08_lives.f kj4).bind fun t357 => (some t357)) else (none))))) else (none))))) else (none))))) else (none))) = some r := H
    have A32 := Aside0.mk A320
    clear A320
    by_cases c33 : (!(t301 == t308) || ((!(t302 == t309) || (!(t303 == t310) || (!(t304 == t311) || (!(t305 == t312))))))) = true
    ·rw [if_pos c33] at H
     exact absurd H (by simp)
    ·rw [if_neg c33] at H
     have c33b0 : (!(t301 == t308) || ((!(t302 == t309) || (!(t303 == t310) || (!(t304 == t311) || (!(t305 == t312))))))) = false := by simpa using c33
     clear c33
     by_cases c34 : t306 = t313
     ·rw [if_pos c34] at H
      have c34b0 : (t306 == t313) = true := beq_iff_eq.mpr c34
      have c34b1 : (t306 != t313) = false := bne_eq_false_iff_eq.mpr c34
      clear c34
      have HC35 := Aside0.mk H
      clear H
      have hnb36 := NB286_293.out
      have hnc36 := NB293_286.out
      have hnb37 := NB286_300.out
      have hnc37 := NB300_286.out
      have hcz38_0 : wc.cell? ⟨g286, 0, none⟩ = some (.int .i64 a0_0) := bq_ B286 0
      have hcz38_1 : wc.cell? ⟨g286, 1, none⟩ = some (.int .u64 a0_1) := bq_ B286 1
      have hcz38_2 : wc.cell? ⟨g286, 2, none⟩ = some (.int .u64 a0_2) := bq_ B286 2
      have hcz38_3 : wc.cell? ⟨g286, 3, none⟩ = some (.int .u64 a0_3) := bq_ B286 3
      have hcz38_4 : wc.cell? ⟨g286, 4, none⟩ = some (.int .u64 a0_4) := bq_ B286 4
      have hfz38_0 := blk_frozen B286.out 0
      have hfz38_1 := blk_frozen B286.out 1
      have hfz38_2 := blk_frozen B286.out 2
      have hfz38_3 := blk_frozen B286.out 3
      have hfz38_4 := blk_frozen B286.out 4
      go_wp2_with (first | ((with_reducible refine gate_callee (f := 12) rfl ?_); refine goesL_ (some 41) rfl rfl Tryd.func12 (by kernel_rfl) rfl #[.agg #[.int .i64 a0_0, .int .u64 a0_1, .int .u64 a0_2, .int .u64 a0_3, .int .u64 a0_4], .int .i64 a1] rfl (by (try simp only [List.map_toArray, List.map_cons, List.map_nil]); first | done | rfl) ?_; (with_reducible refine (channel_Position.calls kj4 a0_0 a0_1 a0_2 a0_3 a0_4 a1 t301 t302 t303 t304 t305 t306 _ ?side1 A31.out).mono ?_); (case side1 => repeat (first | exact (GL.below HRG.out HB.out) | (with_reducible refine GL.alloc ?_ _) | (with_reducible refine GL.drewN ?_ _) | (with_reducible refine GL.drew ?_))); rintro e w39 ⟨rfl, hb⟩; refine ⟨_, rfl, ?_⟩; have n0_ := Aside0.mk (blk_below (g := g286) (o := .cells #[.int .i64 a0_0, .int .u64 a0_1, .int .u64 a0_2, .int .u64 a0_3, .int .u64 a0_4] 25 (0, 0)) (by exact B286.out) hb); have n1_ := Aside0.mk (blk_below (g := g293) (o := .cells #[.int .i64 t287, .int .u64 t288, .int .u64 t289, .int .u64 t290, .int .u64 t291] 25 (0, 0)) (by exact B293.out) hb); have n2_ := Aside0.mk (blk_below (g := g300) (o := .cells #[.int .i64 t294, .int .u64 t295, .int .u64 t296, .int .u64 t297, .int .u64 t298] 25 (0, 0)) (by exact B300.out) hb); have n3_ := Aside0.mk (below_step (by repeat (first | (with_reducible first | exact HB.out | apply below_alloc | apply pw_below_drewN | apply below_drew1 | refine below_set ?_ GE286.out | refine below_set ?_ GE293.out | refine below_set ?_ GE300.out) | exact HB.out)) hb); clear B286; clear B293; clear B300; clear HB; have B286 := n0_; have B293 := n1_; have B300 := n2_; have HB := n3_; clear n0_ n1_ n2_ n3_; (try clear hb); (try clear hb2); (try clear hk); (try clear hi)) | ((with_reducible refine gate_dst (N := 11) rfl ?_); refine box_event ?hg (N := 11) ?hd (cs := #[.int .i64 0, .int .u64 0, .int .u64 0, .int .u64 0, .int .u64 0]) (t := 25) ?hr ?_; (case hd => rfl); (case hg => rfl); (case hr => first | (go_simp; done) | (go_simp; rfl)); intro g307 hg w40 hbox hb; have n0_ := Aside0.mk (blk_below (g := g286) (o := .cells #[.int .i64 a0_0, .int .u64 a0_1, .int .u64 a0_2, .int .u64 a0_3, .int .u64 a0_4] 25 (0, 0)) (by exact B286.out) hb); have n1_ := Aside0.mk (blk_below (g := g293) (o := .cells #[.int .i64 t287, .int .u64 t288, .int .u64 t289, .int .u64 t290, .int .u64 t291] 25 (0, 0)) (by exact B293.out) hb); have n2_ := Aside0.mk (blk_below (g := g300) (o := .cells #[.int .i64 t294, .int .u64 t295, .int .u64 t296, .int .u64 t297, .int .u64 t298] 25 (0, 0)) (by exact B300.out) hb); have n3_ := Aside0.mk (below_step (by repeat (first | (with_reducible first | exact HB.out | apply below_alloc | apply pw_below_drewN | apply below_drew1 | refine below_set ?_ GE286.out | refine below_set ?_ GE293.out | refine below_set ?_ GE300.out) | exact HB.out)) hb); have n4_ := Aside0.mk (hbox); have n5_ := Aside0.mk ((by rw [hg]; exact (below_size (by repeat (first | (with_reducible first | exact HB.out | apply below_alloc | apply pw_below_drewN | apply below_drew1 | refine below_set ?_ GE286.out | refine below_set ?_ GE293.out | refine below_set ?_ GE300.out) | exact HB.out))) : w.heap.size ≤ g307)); have n6_ := Aside0.mk ((by rw [hg]; exact (below_size (by repeat (first | (with_reducible first | exact HB.out | apply below_alloc | apply pw_below_drewN | apply below_drew1 | refine below_set ?_ GE286.out | refine below_set ?_ GE293.out | refine below_set ?_ GE300.out) | exact HB.out))) : w.heap.size ≤ g307)); have n7_ := Aside0.mk ((by rw [hg]; exact Nat.ne_of_lt (blk_lt (g := g286) (o := .cells #[.int .i64 a0_0, .int .u64 a0_1, .int .u64 a0_2, .int .u64 a0_3, .int .u64 a0_4] 25 (0, 0)) (by exact B286.out)) : g286 ≠ g307)); have n8_ := Aside0.mk ((by rw [hg]; exact Nat.ne_of_gt (blk_lt (g := g286) (o := .cells #[.int .i64 a0_0, .int .u64 a0_1, .int .u64 a0_2, .int .u64 a0_3, .int .u64 a0_4] 25 (0, 0)) (by exact B286.out)) : g307 ≠ g286)); have n9_ := Aside0.mk ((by rw [hg]; exact Nat.ne_of_lt (blk_lt (g := g293) (o := .cells #[.int .i64 t287, .int .u64 t288, .int .u64 t289, .int .u64 t290, .int .u64 t291] 25 (0, 0)) (by exact B293.out)) : g293 ≠ g307)); have n10_ := Aside0.mk ((by rw [hg]; exact Nat.ne_of_gt (blk_lt (g := g293) (o := .cells #[.int .i64 t287, .int .u64 t288, .int .u64 t289, .int .u64 t290, .int .u64 t291] 25 (0, 0)) (by exact B293.out)) : g307 ≠ g293)); have n11_ := Aside0.mk ((by rw [hg]; exact Nat.ne_of_lt (blk_lt (g := g300) (o := .cells #[.int .i64 t294, .int .u64 t295, .int .u64 t296, .int .u64 t297, .int .u64 t298] 25 (0, 0)) (by exact B300.out)) : g300 ≠ g307)); have n12_ := Aside0.mk ((by rw [hg]; exact Nat.ne_of_gt (blk_lt (g := g300) (o := .cells #[.int .i64 t294, .int .u64 t295, .int .u64 t296, .int .u64 t297, .int .u64 t298] 25 (0, 0)) (by exact B300.out)) : g307 ≠ g300)); clear B286; clear B293; clear B300; clear HB; have B286 := n0_; have B293 := n1_; have B300 := n2_; have HB := n3_; have B307 := n4_; have GW307 := n5_; have GE307 := n6_; have NB286_307 := n7_; have NB307_286 := n8_; have NB293_307 := n9_; have NB307_293 := n10_; have NB300_307 := n11_; have NB307_300 := n12_; clear n0_ n1_ n2_ n3_ n4_ n5_ n6_ n7_ n8_ n9_ n10_ n11_ n12_; clear hb hbox hg; have hnb41 := NB307_286.out; have hnc41 := NB286_307.out; have hnb42 := NB307_293.out; have hnc42 := NB293_307.out; have hnb43 := NB307_300.out; have hnc43 := NB300_307.out; have hcz44_0 : w40.cell? ⟨g307, 0, none⟩ = some (.int .i64 0) := bq_ B307 0; have hcz44_1 : w40.cell? ⟨g307, 1, none⟩ = some (.int .u64 0) := bq_ B307 1; have hcz44_2 : w40.cell? ⟨g307, 2, none⟩ = some (.int .u64 0) := bq_ B307 2; have hcz44_3 : w40.cell? ⟨g307, 3, none⟩ = some (.int .u64 0) := bq_ B307 3; have hcz44_4 : w40.cell? ⟨g307, 4, none⟩ = some (.int .u64 0) := bq_ B307 4; have hfz44_0 := blk_frozen B307.out 0; have hfz44_1 := blk_frozen B307.out 1; have hfz44_2 := blk_frozen B307.out 2; have hfz44_3 := blk_frozen B307.out 3; have hfz44_4 := blk_frozen B307.out 4; have hcz45_0 : w40.cell? ⟨g286, 0, none⟩ = some (.int .i64 a0_0) := bq_ B286 0; have hcz45_1 : w40.cell? ⟨g286, 1, none⟩ = some (.int .u64 a0_1) := bq_ B286 1; have hcz45_2 : w40.cell? ⟨g286, 2, none⟩ = some (.int .u64 a0_2) := bq_ B286 2; have hcz45_3 : w40.cell? ⟨g286, 3, none⟩ = some (.int .u64 a0_3) := bq_ B286 3; have hcz45_4 : w40.cell? ⟨g286, 4, none⟩ = some (.int .u64 a0_4) := bq_ B286 4; have hfz45_0 := blk_frozen B286.out 0; have hfz45_1 := blk_frozen B286.out 1; have hfz45_2 := blk_frozen B286.out 2; have hfz45_3 := blk_frozen B286.out 3; have hfz45_4 := blk_frozen B286.out 4) | ((with_reducible refine gate_callee (f := 13) rfl ?_); refine goesL_ (some 47) rfl rfl Tryd.func13 (by kernel_rfl) rfl #[.agg #[.int .i64 a0_0, .int .u64 a0_1, .int .u64 a0_2, .int .u64 a0_3, .int .u64 a0_4], .int .i64 a1] rfl (by (try simp only [List.map_toArray, List.map_cons, List.map_nil]); first | done | rfl) ?_; (with_reducible refine (attestorref08_Position.calls kj4 a0_0 a0_1 a0_2 a0_3 a0_4 a1 t308 t309 t310 t311 t312 t313 _ A32.out).mono ?_); rintro e w46 ⟨rfl, hb⟩; refine ⟨_, rfl, ?_⟩; have n0_ := Aside0.mk (blk_below (g := g286) (o := .cells #[.int .i64 a0_0, .int .u64 a0_1, .int .u64 a0_2, .int .u64 a0_3, .int .u64 a0_4] 25 (0, 0)) (by refine blk_far ?_ NB286_307.out _; refine blk_far ?_ NB286_307.out _; refine blk_far ?_ NB286_307.out _; refine blk_far ?_ NB286_307.out _; refine blk_far ?_ NB286_307.out _; exact B286.out) hb); have n1_ := Aside0.mk (blk_below (g := g293) (o := .cells #[.int .i64 t287, .int .u64 t288, .int .u64 t289, .int .u64 t290, .int .u64 t291] 25 (0, 0)) (by refine blk_far ?_ NB293_307.out _; refine blk_far ?_ NB293_307.out _; refine blk_far ?_ NB293_307.out _; refine blk_far ?_ NB293_307.out _; refine blk_far ?_ NB293_307.out _; exact B293.out) hb); have n2_ := Aside0.mk (blk_below (g := g300) (o := .cells #[.int .i64 t294, .int .u64 t295, .int .u64 t296, .int .u64 t297, .int .u64 t298] 25 (0, 0)) (by refine blk_far ?_ NB300_307.out _; refine blk_far ?_ NB300_307.out _; refine blk_far ?_ NB300_307.out _; refine blk_far ?_ NB300_307.out _; refine blk_far ?_ NB300_307.out _; exact B300.out) hb); have n3_ := Aside0.mk (blk_below (g := g307) (o := .cells #[.int .i64 t301, .int .u64 t302, .int .u64 t303, .int .u64 t304, .int .u64 t305] 25 (0, 0)) (by refine blk_put (cs := #[.int .i64 t301, .int .u64 t302, .int .u64 t303, .int .u64 t304, .int .u64 0]) ?_ 4 _ rfl; refine blk_put (cs := #[.int .i64 t301, .int .u64 t302, .int .u64 t303, .int .u64 0, .int .u64 0]) ?_ 3 _ rfl; refine blk_put (cs := #[.int .i64 t301, .int .u64 t302, .int .u64 0, .int .u64 0, .int .u64 0]) ?_ 2 _ rfl; refine blk_put (cs := #[.int .i64 t301, .int .u64 0, .int .u64 0, .int .u64 0, .int .u64 0]) ?_ 1 _ rfl; refine blk_put (cs := #[.int .i64 0, .int .u64 0, .int .u64 0, .int .u64 0, .int .u64 0]) ?_ 0 _ rfl; exact B307.out) hb); have n4_ := Aside0.mk (below_step (by repeat (first | (with_reducible first | exact HB.out | apply below_alloc | apply pw_below_drewN | apply below_drew1 | refine below_set ?_ GE286.out | refine below_set ?_ GE293.out | refine below_set ?_ GE300.out | refine below_set ?_ GE307.out) | exact HB.out)) hb); clear B286; clear B293; clear B300; clear B307; clear HB; have B286 := n0_; have B293 := n1_; have B300 := n2_; have B307 := n3_; have HB := n4_; clear n0_ n1_ n2_ n3_ n4_; (try clear hb); (try clear hb2); (try clear hk); (try clear hi)) | ((with_reducible refine gate_dst (N := 13) rfl ?_); refine box_event ?hg (N := 13) ?hd (cs := #[.int .i64 0, .int .u64 0, .int .u64 0, .int .u64 0, .int .u64 0]) (t := 25) ?hr ?_; (case hd => rfl); (case hg => rfl); (case hr => first | (go_simp; done) | (go_simp; rfl)); intro g314 hg w47 hbox hb; have n0_ := Aside0.mk (blk_below (g := g286) (o := .cells #[.int .i64 a0_0, .int .u64 a0_1, .int .u64 a0_2, .int .u64 a0_3, .int .u64 a0_4] 25 (0, 0)) (by exact B286.out) hb); have n1_ := Aside0.mk (blk_below (g := g293) (o := .cells #[.int .i64 t287, .int .u64 t288, .int .u64 t289, .int .u64 t290, .int .u64 t291] 25 (0, 0)) (by exact B293.out) hb); have n2_ := Aside0.mk (blk_below (g := g300) (o := .cells #[.int .i64 t294, .int .u64 t295, .int .u64 t296, .int .u64 t297, .int .u64 t298] 25 (0, 0)) (by exact B300.out) hb); have n3_ := Aside0.mk (blk_below (g := g307) (o := .cells #[.int .i64 t301, .int .u64 t302, .int .u64 t303, .int .u64 t304, .int .u64 t305] 25 (0, 0)) (by exact B307.out) hb); have n4_ := Aside0.mk (below_step (by repeat (first | (with_reducible first | exact HB.out | apply below_alloc | apply pw_below_drewN | apply below_drew1 | refine below_set ?_ GE286.out | refine below_set ?_ GE293.out | refine below_set ?_ GE300.out | refine below_set ?_ GE307.out) | exact HB.out)) hb); have n5_ := Aside0.mk (hbox); have n6_ := Aside0.mk ((by rw [hg]; exact (below_size (by repeat (first | (with_reducible first | exact HB.out | apply below_alloc | apply pw_below_drewN | apply below_drew1 | refine below_set ?_ GE286.out | refine below_set ?_ GE293.out | refine below_set ?_ GE300.out | refine below_set ?_ GE307.out) | exact HB.out))) : w.heap.size ≤ g314)); have n7_ := Aside0.mk ((by rw [hg]; exact (below_size (by repeat (first | (with_reducible first | exact HB.out | apply below_alloc | apply pw_below_drewN | apply below_drew1 | refine below_set ?_ GE286.out | refine below_set ?_ GE293.out | refine below_set ?_ GE300.out | refine below_set ?_ GE307.out) | exact HB.out))) : w.heap.size ≤ g314)); have n8_ := Aside0.mk ((by rw [hg]; exact Nat.ne_of_lt (blk_lt (g := g286) (o := .cells #[.int .i64 a0_0, .int .u64 a0_1, .int .u64 a0_2, .int .u64 a0_3, .int .u64 a0_4] 25 (0, 0)) (by exact B286.out)) : g286 ≠ g314)); have n9_ := Aside0.mk ((by rw [hg]; exact Nat.ne_of_gt (blk_lt (g := g286) (o := .cells #[.int .i64 a0_0, .int .u64 a0_1, .int .u64 a0_2, .int .u64 a0_3, .int .u64 a0_4] 25 (0, 0)) (by exact B286.out)) : g314 ≠ g286)); have n10_ := Aside0.mk ((by rw [hg]; exact Nat.ne_of_lt (blk_lt (g := g293) (o := .cells #[.int .i64 t287, .int .u64 t288, .int .u64 t289, .int .u64 t290, .int .u64 t291] 25 (0, 0)) (by exact B293.out)) : g293 ≠ g314)); have n11_ := Aside0.mk ((by rw [hg]; exact Nat.ne_of_gt (blk_lt (g := g293) (o := .cells #[.int .i64 t287, .int .u64 t288, .int .u64 t289, .int .u64 t290, .int .u64 t291] 25 (0, 0)) (by exact B293.out)) : g314 ≠ g293)); have n12_ := Aside0.mk ((by rw [hg]; exact Nat.ne_of_lt (blk_lt (g := g300) (o := .cells #[.int .i64 t294, .int .u64 t295, .int .u64 t296, .int .u64 t297, .int .u64 t298] 25 (0, 0)) (by exact B300.out)) : g300 ≠ g314)); have n13_ := Aside0.mk ((by rw [hg]; exact Nat.ne_of_gt (blk_lt (g := g300) (o := .cells #[.int .i64 t294, .int .u64 t295, .int .u64 t296, .int .u64 t297, .int .u64 t298] 25 (0, 0)) (by exact B300.out)) : g314 ≠ g300)); have n14_ := Aside0.mk ((by rw [hg]; exact Nat.ne_of_lt (blk_lt (g := g307) (o := .cells #[.int .i64 t301, .int .u64 t302, .int .u64 t303, .int .u64 t304, .int .u64 t305] 25 (0, 0)) (by exact B307.out)) : g307 ≠ g314)); have n15_ := Aside0.mk ((by rw [hg]; exact Nat.ne_of_gt (blk_lt (g := g307) (o := .cells #[.int .i64 t301, .int .u64 t302, .int .u64 t303, .int .u64 t304, .int .u64 t305] 25 (0, 0)) (by exact B307.out)) : g314 ≠ g307)); clear B286; clear B293; clear B300; clear B307; clear HB; have B286 := n0_; have B293 := n1_; have B300 := n2_; have B307 := n3_; have HB := n4_; have B314 := n5_; have GW314 := n6_; have GE314 := n7_; have NB286_314 := n8_; have NB314_286 := n9_; have NB293_314 := n10_; have NB314_293 := n11_; have NB300_314 := n12_; have NB314_300 := n13_; have NB307_314 := n14_; have NB314_307 := n15_; clear n0_ n1_ n2_ n3_ n4_ n5_ n6_ n7_ n8_ n9_ n10_ n11_ n12_ n13_ n14_ n15_; clear hb hbox hg; have hnb48 := NB314_286.out; have hnc48 := NB286_314.out; have hnb49 := NB314_293.out; have hnc49 := NB293_314.out; have hnb50 := NB314_300.out; have hnc50 := NB300_314.out; have hnb51 := NB314_307.out; have hnc51 := NB307_314.out; have hcz52_0 : w47.cell? ⟨g314, 0, none⟩ = some (.int .i64 0) := bq_ B314 0; have hcz52_1 : w47.cell? ⟨g314, 1, none⟩ = some (.int .u64 0) := bq_ B314 1; have hcz52_2 : w47.cell? ⟨g314, 2, none⟩ = some (.int .u64 0) := bq_ B314 2; have hcz52_3 : w47.cell? ⟨g314, 3, none⟩ = some (.int .u64 0) := bq_ B314 3; have hcz52_4 : w47.cell? ⟨g314, 4, none⟩ = some (.int .u64 0) := bq_ B314 4; have hfz52_0 := blk_frozen B314.out 0; have hfz52_1 := blk_frozen B314.out 1; have hfz52_2 := blk_frozen B314.out 2; have hfz52_3 := blk_frozen B314.out 3; have hfz52_4 := blk_frozen B314.out 4; have hcz53_0 : w47.cell? ⟨g307, 0, none⟩ = some (.int .i64 t301) := bq_ B307 0; have hcz53_1 : w47.cell? ⟨g307, 1, none⟩ = some (.int .u64 t302) := bq_ B307 1; have hcz53_2 : w47.cell? ⟨g307, 2, none⟩ = some (.int .u64 t303) := bq_ B307 2; have hcz53_3 : w47.cell? ⟨g307, 3, none⟩ = some (.int .u64 t304) := bq_ B307 3; have hcz53_4 : w47.cell? ⟨g307, 4, none⟩ = some (.int .u64 t305) := bq_ B307 4; have hfz53_0 := blk_frozen B307.out 0; have hfz53_1 := blk_frozen B307.out 1; have hfz53_2 := blk_frozen B307.out 2; have hfz53_3 := blk_frozen B307.out 3; have hfz53_4 := blk_frozen B307.out 4))
      rw [rounds_succ]
      have H := HC35.out
      clear HC35
      replace H := Option.bind_eq_some_iff.mp H
      obtain ⟨⟨t315, t316, t317, t318, t319, t320⟩, A540, H⟩ := H
      replace H : ((attestorref08_Position.f kj4 a0_0 a0_1 a0_2 a0_3 a0_4 0).bind fun bt322 => (if (!(t315 == bt322.1) || ((!(t316 == bt322.2.1) || (!(t317 == bt322.2.2.1) || (!(t318 == bt322.2.2.2.1) || (!(t319 == bt322.2.2.2.2.1))))))) = true then (none) else (if t320 = bt322.2.2.2.2.2 then ((channel_Position.f kj4 a0_0 a0_1 a0_2 a0_3 a0_4 5).bind fun bt329 => ((attestorref08_Position.f kj4 a0_0 a0_1 a0_2 a0_3 a0_4 5).bind fun bt336 => (if (!(bt329.1 == bt336.1) || ((!(bt329.2.1 == bt336.2.1) || (!(bt329.2.2.1 == bt336.2.2.1) || (!(bt329.2.2.2.1 == bt336.2.2.2.1) || (!(bt329.2.2.2.2.1 == bt336.2.2.2.2.1))))))) = true then (none) else (if bt329.2.2.2.2.2 = bt336.2.2.2.2.2 then ((channel_Position.f kj4 a0_0 a0_1 a0_2 a0_3 a0_4 24).bind fun bt343 => ((attestorref08_Position.f kj4 a0_0 a0_1 a0_2 a0_3 a0_4 24).bind fun bt350 => (if (!(bt343.1 == bt350.1) || ((!(bt343.2.1 == bt350.2.1) || (!(bt343.2.2.1 == bt350.2.2.1) || (!(bt343.2.2.2.1 == bt350.2.2.2.1) || (!(bt343.2.2.2.2.1 == bt350.2.2.2.2.1))))))) = true then (none) else (if bt343.2.2.2.2.2 = bt350.2.2.2.2.2 then ((attestorlaw08_lives.f kj4).bind fun t357 => (some t357)) else (none))))) else (none))))) else (none)))) = some r := H
      have A54 := Aside0.mk A540
      clear A540
      replace H := Option.bind_eq_some_iff.mp H
      obtain ⟨⟨t322, t323, t324, t325, t326, t327⟩, A550, H⟩ := H
      replace H : (if (!(t315 == t322) || ((!(t316 == t323) || (!(t317 == t324) || (!(t318 == t325) || (!(t319 == t326))))))) = true then (none) else (if t320 = t327 then ((channel_Position.f kj4 a0_0 a0_1 a0_2 a0_3 a0_4 5).bind fun bt329 => ((attestorref08_Position.f kj4 a0_0 a0_1 a0_2 a0_3 a0_4 5).bind fun bt336 => (if (!(bt329.1 == bt336.1) || ((!(bt329.2.1 == bt336.2.1) || (!(bt329.2.2.1 == bt336.2.2.1) || (!(bt329.2.2.2.1 == bt336.2.2.2.1) || (!(bt329.2.2.2.2.1 == bt336.2.2.2.2.1))))))) = true then (none) else (if bt329.2.2.2.2.2 = bt336.2.2.2.2.2 then ((channel_Position.f kj4 a0_0 a0_1 a0_2 a0_3 a0_4 24).bind fun bt343 => ((attestorref08_Position.f kj4 a0_0 a0_1 a0_2 a0_3 a0_4 24).bind fun bt350 => (if (!(bt343.1 == bt350.1) || ((!(bt343.2.1 == bt350.2.1) || (!(bt343.2.2.1 == bt350.2.2.1) || (!(bt343.2.2.2.1 == bt350.2.2.2.1) || (!(bt343.2.2.2.2.1 == bt350.2.2.2.2.1))))))) = true then (none) else (if bt343.2.2.2.2.2 = bt350.2.2.2.2.2 then ((attestorlaw08_lives.f kj4).bind fun t357 => (some t357)) else (none))))) else (none))))) else (none))) = some r := H
      have A55 := Aside0.mk A550
      clear A550
      by_cases c56 : (!(t315 == t322) || ((!(t316 == t323) || (!(t317 == t324) || (!(t318 == t325) || (!(t319 == t326))))))) = true
      ·rw [if_pos c56] at H
       exact absurd H (by simp)
      ·rw [if_neg c56] at H
       have c56b0 : (!(t315 == t322) || ((!(t316 == t323) || (!(t317 == t324) || (!(t318 == t325) || (!(t319 == t326))))))) = false := by simpa using c56
       clear c56
       by_cases c57 : t320 = t327
       ·rw [if_pos c57] at H
        have c57b0 : (t320 == t327) = true := beq_iff_eq.mpr c57
        have c57b1 : (t320 != t327) = false := bne_eq_false_iff_eq.mpr c57
        clear c57
        have HC58 := Aside0.mk H
        clear H
        have hnb59 := NB286_293.out
        have hnc59 := NB293_286.out
        have hnb60 := NB286_300.out
        have hnc60 := NB300_286.out
        have hnb61 := NB286_307.out
        have hnc61 := NB307_286.out
        have hnb62 := NB286_314.out
        have hnc62 := NB314_286.out
        have hcz63_0 : w47.cell? ⟨g286, 0, none⟩ = some (.int .i64 a0_0) := bq_ B286 0
        have hcz63_1 : w47.cell? ⟨g286, 1, none⟩ = some (.int .u64 a0_1) := bq_ B286 1
        have hcz63_2 : w47.cell? ⟨g286, 2, none⟩ = some (.int .u64 a0_2) := bq_ B286 2
        have hcz63_3 : w47.cell? ⟨g286, 3, none⟩ = some (.int .u64 a0_3) := bq_ B286 3
        have hcz63_4 : w47.cell? ⟨g286, 4, none⟩ = some (.int .u64 a0_4) := bq_ B286 4
        have hfz63_0 := blk_frozen B286.out 0
        have hfz63_1 := blk_frozen B286.out 1
        have hfz63_2 := blk_frozen B286.out 2
        have hfz63_3 := blk_frozen B286.out 3
        have hfz63_4 := blk_frozen B286.out 4
        go_wp2_with (first | ((with_reducible refine gate_callee (f := 12) rfl ?_); refine goesL_ (some 41) rfl rfl Tryd.func12 (by kernel_rfl) rfl #[.agg #[.int .i64 a0_0, .int .u64 a0_1, .int .u64 a0_2, .int .u64 a0_3, .int .u64 a0_4], .int .i64 0] rfl (by (try simp only [List.map_toArray, List.map_cons, List.map_nil]); first | done | rfl) ?_; (with_reducible refine (channel_Position.calls kj4 a0_0 a0_1 a0_2 a0_3 a0_4 0 t315 t316 t317 t318 t319 t320 _ ?side1 A54.out).mono ?_); (case side1 => exact GL.below HRG.out (by repeat (first | (with_reducible first | exact HB.out | apply below_alloc | apply pw_below_drewN | apply below_drew1 | refine below_set ?_ GE286.out | refine below_set ?_ GE293.out | refine below_set ?_ GE300.out | refine below_set ?_ GE307.out | refine below_set ?_ GE314.out) | exact HB.out))); rintro e w64 ⟨rfl, hb⟩; refine ⟨_, rfl, ?_⟩; have n0_ := Aside0.mk (blk_below (g := g286) (o := .cells #[.int .i64 a0_0, .int .u64 a0_1, .int .u64 a0_2, .int .u64 a0_3, .int .u64 a0_4] 25 (0, 0)) (by refine blk_far ?_ NB286_314.out _; refine blk_far ?_ NB286_314.out _; refine blk_far ?_ NB286_314.out _; refine blk_far ?_ NB286_314.out _; refine blk_far ?_ NB286_314.out _; exact B286.out) hb); have n1_ := Aside0.mk (blk_below (g := g293) (o := .cells #[.int .i64 t287, .int .u64 t288, .int .u64 t289, .int .u64 t290, .int .u64 t291] 25 (0, 0)) (by refine blk_far ?_ NB293_314.out _; refine blk_far ?_ NB293_314.out _; refine blk_far ?_ NB293_314.out _; refine blk_far ?_ NB293_314.out _; refine blk_far ?_ NB293_314.out _; exact B293.out) hb); have n2_ := Aside0.mk (blk_below (g := g300) (o := .cells #[.int .i64 t294, .int .u64 t295, .int .u64 t296, .int .u64 t297, .int .u64 t298] 25 (0, 0)) (by refine blk_far ?_ NB300_314.out _; refine blk_far ?_ NB300_314.out _; refine blk_far ?_ NB300_314.out _; refine blk_far ?_ NB300_314.out _; refine blk_far ?_ NB300_314.out _; exact B300.out) hb); have n3_ := Aside0.mk (blk_below (g := g307) (o := .cells #[.int .i64 t301, .int .u64 t302, .int .u64 t303, .int .u64 t304, .int .u64 t305] 25 (0, 0)) (by refine blk_far ?_ NB307_314.out _; refine blk_far ?_ NB307_314.out _; refine blk_far ?_ NB307_314.out _; refine blk_far ?_ NB307_314.out _; refine blk_far ?_ NB307_314.out _; exact B307.out) hb); have n4_ := Aside0.mk (blk_below (g := g314) (o := .cells #[.int .i64 t308, .int .u64 t309, .int .u64 t310, .int .u64 t311, .int .u64 t312] 25 (0, 0)) (by refine blk_put (cs := #[.int .i64 t308, .int .u64 t309, .int .u64 t310, .int .u64 t311, .int .u64 0]) ?_ 4 _ rfl; refine blk_put (cs := #[.int .i64 t308, .int .u64 t309, .int .u64 t310, .int .u64 0, .int .u64 0]) ?_ 3 _ rfl; refine blk_put (cs := #[.int .i64 t308, .int .u64 t309, .int .u64 0, .int .u64 0, .int .u64 0]) ?_ 2 _ rfl; refine blk_put (cs := #[.int .i64 t308, .int .u64 0, .int .u64 0, .int .u64 0, .int .u64 0]) ?_ 1 _ rfl; refine blk_put (cs := #[.int .i64 0, .int .u64 0, .int .u64 0, .int .u64 0, .int .u64 0]) ?_ 0 _ rfl; exact B314.out) hb); have n5_ := Aside0.mk (below_step (by repeat (first | (with_reducible first | exact HB.out | apply below_alloc | apply pw_below_drewN | apply below_drew1 | refine below_set ?_ GE286.out | refine below_set ?_ GE293.out | refine below_set ?_ GE300.out | refine below_set ?_ GE307.out | refine below_set ?_ GE314.out) | exact HB.out)) hb); clear B286; clear B293; clear B300; clear B307; clear B314; clear HB; have B286 := n0_; have B293 := n1_; have B300 := n2_; have B307 := n3_; have B314 := n4_; have HB := n5_; clear n0_ n1_ n2_ n3_ n4_ n5_; (try clear hb); (try clear hb2); (try clear hk); (try clear hi)) | ((with_reducible refine gate_dst (N := 11) rfl ?_); refine box_event ?hg (N := 11) ?hd (cs := #[.int .i64 0, .int .u64 0, .int .u64 0, .int .u64 0, .int .u64 0]) (t := 25) ?hr ?_; (case hd => rfl); (case hg => rfl); (case hr => first | (go_simp; done) | (go_simp; rfl)); intro g321 hg w65 hbox hb; have n0_ := Aside0.mk (blk_below (g := g286) (o := .cells #[.int .i64 a0_0, .int .u64 a0_1, .int .u64 a0_2, .int .u64 a0_3, .int .u64 a0_4] 25 (0, 0)) (by exact B286.out) hb); have n1_ := Aside0.mk (blk_below (g := g293) (o := .cells #[.int .i64 t287, .int .u64 t288, .int .u64 t289, .int .u64 t290, .int .u64 t291] 25 (0, 0)) (by exact B293.out) hb); have n2_ := Aside0.mk (blk_below (g := g300) (o := .cells #[.int .i64 t294, .int .u64 t295, .int .u64 t296, .int .u64 t297, .int .u64 t298] 25 (0, 0)) (by exact B300.out) hb); have n3_ := Aside0.mk (blk_below (g := g307) (o := .cells #[.int .i64 t301, .int .u64 t302, .int .u64 t303, .int .u64 t304, .int .u64 t305] 25 (0, 0)) (by exact B307.out) hb); have n4_ := Aside0.mk (blk_below (g := g314) (o := .cells #[.int .i64 t308, .int .u64 t309, .int .u64 t310, .int .u64 t311, .int .u64 t312] 25 (0, 0)) (by exact B314.out) hb); have n5_ := Aside0.mk (below_step (by repeat (first | (with_reducible first | exact HB.out | apply below_alloc | apply pw_below_drewN | apply below_drew1 | refine below_set ?_ GE286.out | refine below_set ?_ GE293.out | refine below_set ?_ GE300.out | refine below_set ?_ GE307.out | refine below_set ?_ GE314.out) | exact HB.out)) hb); have n6_ := Aside0.mk (hbox); have n7_ := Aside0.mk ((by rw [hg]; exact (below_size (by repeat (first | (with_reducible first | exact HB.out | apply below_alloc | apply pw_below_drewN | apply below_drew1 | refine below_set ?_ GE286.out | refine below_set ?_ GE293.out | refine below_set ?_ GE300.out | refine below_set ?_ GE307.out | refine below_set ?_ GE314.out) | exact HB.out))) : w.heap.size ≤ g321)); have n8_ := Aside0.mk ((by rw [hg]; exact (below_size (by repeat (first | (with_reducible first | exact HB.out | apply below_alloc | apply pw_below_drewN | apply below_drew1 | refine below_set ?_ GE286.out | refine below_set ?_ GE293.out | refine below_set ?_ GE300.out | refine below_set ?_ GE307.out | refine below_set ?_ GE314.out) | exact HB.out))) : w.heap.size ≤ g321)); have n9_ := Aside0.mk ((by rw [hg]; exact Nat.ne_of_lt (blk_lt (g := g286) (o := .cells #[.int .i64 a0_0, .int .u64 a0_1, .int .u64 a0_2, .int .u64 a0_3, .int .u64 a0_4] 25 (0, 0)) (by exact B286.out)) : g286 ≠ g321)); have n10_ := Aside0.mk ((by rw [hg]; exact Nat.ne_of_gt (blk_lt (g := g286) (o := .cells #[.int .i64 a0_0, .int .u64 a0_1, .int .u64 a0_2, .int .u64 a0_3, .int .u64 a0_4] 25 (0, 0)) (by exact B286.out)) : g321 ≠ g286)); have n11_ := Aside0.mk ((by rw [hg]; exact Nat.ne_of_lt (blk_lt (g := g293) (o := .cells #[.int .i64 t287, .int .u64 t288, .int .u64 t289, .int .u64 t290, .int .u64 t291] 25 (0, 0)) (by exact B293.out)) : g293 ≠ g321)); have n12_ := Aside0.mk ((by rw [hg]; exact Nat.ne_of_gt (blk_lt (g := g293) (o := .cells #[.int .i64 t287, .int .u64 t288, .int .u64 t289, .int .u64 t290, .int .u64 t291] 25 (0, 0)) (by exact B293.out)) : g321 ≠ g293)); have n13_ := Aside0.mk ((by rw [hg]; exact Nat.ne_of_lt (blk_lt (g := g300) (o := .cells #[.int .i64 t294, .int .u64 t295, .int .u64 t296, .int .u64 t297, .int .u64 t298] 25 (0, 0)) (by exact B300.out)) : g300 ≠ g321)); have n14_ := Aside0.mk ((by rw [hg]; exact Nat.ne_of_gt (blk_lt (g := g300) (o := .cells #[.int .i64 t294, .int .u64 t295, .int .u64 t296, .int .u64 t297, .int .u64 t298] 25 (0, 0)) (by exact B300.out)) : g321 ≠ g300)); have n15_ := Aside0.mk ((by rw [hg]; exact Nat.ne_of_lt (blk_lt (g := g307) (o := .cells #[.int .i64 t301, .int .u64 t302, .int .u64 t303, .int .u64 t304, .int .u64 t305] 25 (0, 0)) (by exact B307.out)) : g307 ≠ g321)); have n16_ := Aside0.mk ((by rw [hg]; exact Nat.ne_of_gt (blk_lt (g := g307) (o := .cells #[.int .i64 t301, .int .u64 t302, .int .u64 t303, .int .u64 t304, .int .u64 t305] 25 (0, 0)) (by exact B307.out)) : g321 ≠ g307)); have n17_ := Aside0.mk ((by rw [hg]; exact Nat.ne_of_lt (blk_lt (g := g314) (o := .cells #[.int .i64 t308, .int .u64 t309, .int .u64 t310, .int .u64 t311, .int .u64 t312] 25 (0, 0)) (by exact B314.out)) : g314 ≠ g321)); have n18_ := Aside0.mk ((by rw [hg]; exact Nat.ne_of_gt (blk_lt (g := g314) (o := .cells #[.int .i64 t308, .int .u64 t309, .int .u64 t310, .int .u64 t311, .int .u64 t312] 25 (0, 0)) (by exact B314.out)) : g321 ≠ g314)); clear B286; clear B293; clear B300; clear B307; clear B314; clear HB; have B286 := n0_; have B293 := n1_; have B300 := n2_; have B307 := n3_; have B314 := n4_; have HB := n5_; have B321 := n6_; have GW321 := n7_; have GE321 := n8_; have NB286_321 := n9_; have NB321_286 := n10_; have NB293_321 := n11_; have NB321_293 := n12_; have NB300_321 := n13_; have NB321_300 := n14_; have NB307_321 := n15_; have NB321_307 := n16_; have NB314_321 := n17_; have NB321_314 := n18_; clear n0_ n1_ n2_ n3_ n4_ n5_ n6_ n7_ n8_ n9_ n10_ n11_ n12_ n13_ n14_ n15_ n16_ n17_ n18_; clear hb hbox hg; have hnb66 := NB321_286.out; have hnc66 := NB286_321.out; have hnb67 := NB321_293.out; have hnc67 := NB293_321.out; have hnb68 := NB321_300.out; have hnc68 := NB300_321.out; have hnb69 := NB321_307.out; have hnc69 := NB307_321.out; have hnb70 := NB321_314.out; have hnc70 := NB314_321.out; have hcz71_0 : w65.cell? ⟨g321, 0, none⟩ = some (.int .i64 0) := bq_ B321 0; have hcz71_1 : w65.cell? ⟨g321, 1, none⟩ = some (.int .u64 0) := bq_ B321 1; have hcz71_2 : w65.cell? ⟨g321, 2, none⟩ = some (.int .u64 0) := bq_ B321 2; have hcz71_3 : w65.cell? ⟨g321, 3, none⟩ = some (.int .u64 0) := bq_ B321 3; have hcz71_4 : w65.cell? ⟨g321, 4, none⟩ = some (.int .u64 0) := bq_ B321 4; have hfz71_0 := blk_frozen B321.out 0; have hfz71_1 := blk_frozen B321.out 1; have hfz71_2 := blk_frozen B321.out 2; have hfz71_3 := blk_frozen B321.out 3; have hfz71_4 := blk_frozen B321.out 4; have hcz72_0 : w65.cell? ⟨g286, 0, none⟩ = some (.int .i64 a0_0) := bq_ B286 0; have hcz72_1 : w65.cell? ⟨g286, 1, none⟩ = some (.int .u64 a0_1) := bq_ B286 1; have hcz72_2 : w65.cell? ⟨g286, 2, none⟩ = some (.int .u64 a0_2) := bq_ B286 2; have hcz72_3 : w65.cell? ⟨g286, 3, none⟩ = some (.int .u64 a0_3) := bq_ B286 3; have hcz72_4 : w65.cell? ⟨g286, 4, none⟩ = some (.int .u64 a0_4) := bq_ B286 4; have hfz72_0 := blk_frozen B286.out 0; have hfz72_1 := blk_frozen B286.out 1; have hfz72_2 := blk_frozen B286.out 2; have hfz72_3 := blk_frozen B286.out 3; have hfz72_4 := blk_frozen B286.out 4) | ((with_reducible refine gate_callee (f := 13) rfl ?_); refine goesL_ (some 47) rfl rfl Tryd.func13 (by kernel_rfl) rfl #[.agg #[.int .i64 a0_0, .int .u64 a0_1, .int .u64 a0_2, .int .u64 a0_3, .int .u64 a0_4], .int .i64 0] rfl (by (try simp only [List.map_toArray, List.map_cons, List.map_nil]); first | done | rfl) ?_; (with_reducible refine (attestorref08_Position.calls kj4 a0_0 a0_1 a0_2 a0_3 a0_4 0 t322 t323 t324 t325 t326 t327 _ A55.out).mono ?_); rintro e w73 ⟨rfl, hb⟩; refine ⟨_, rfl, ?_⟩; have n0_ := Aside0.mk (blk_below (g := g286) (o := .cells #[.int .i64 a0_0, .int .u64 a0_1, .int .u64 a0_2, .int .u64 a0_3, .int .u64 a0_4] 25 (0, 0)) (by refine blk_far ?_ NB286_321.out _; refine blk_far ?_ NB286_321.out _; refine blk_far ?_ NB286_321.out _; refine blk_far ?_ NB286_321.out _; refine blk_far ?_ NB286_321.out _; exact B286.out) hb); have n1_ := Aside0.mk (blk_below (g := g293) (o := .cells #[.int .i64 t287, .int .u64 t288, .int .u64 t289, .int .u64 t290, .int .u64 t291] 25 (0, 0)) (by refine blk_far ?_ NB293_321.out _; refine blk_far ?_ NB293_321.out _; refine blk_far ?_ NB293_321.out _; refine blk_far ?_ NB293_321.out _; refine blk_far ?_ NB293_321.out _; exact B293.out) hb); have n2_ := Aside0.mk (blk_below (g := g300) (o := .cells #[.int .i64 t294, .int .u64 t295, .int .u64 t296, .int .u64 t297, .int .u64 t298] 25 (0, 0)) (by refine blk_far ?_ NB300_321.out _; refine blk_far ?_ NB300_321.out _; refine blk_far ?_ NB300_321.out _; refine blk_far ?_ NB300_321.out _; refine blk_far ?_ NB300_321.out _; exact B300.out) hb); have n3_ := Aside0.mk (blk_below (g := g307) (o := .cells #[.int .i64 t301, .int .u64 t302, .int .u64 t303, .int .u64 t304, .int .u64 t305] 25 (0, 0)) (by refine blk_far ?_ NB307_321.out _; refine blk_far ?_ NB307_321.out _; refine blk_far ?_ NB307_321.out _; refine blk_far ?_ NB307_321.out _; refine blk_far ?_ NB307_321.out _; exact B307.out) hb); have n4_ := Aside0.mk (blk_below (g := g314) (o := .cells #[.int .i64 t308, .int .u64 t309, .int .u64 t310, .int .u64 t311, .int .u64 t312] 25 (0, 0)) (by refine blk_far ?_ NB314_321.out _; refine blk_far ?_ NB314_321.out _; refine blk_far ?_ NB314_321.out _; refine blk_far ?_ NB314_321.out _; refine blk_far ?_ NB314_321.out _; exact B314.out) hb); have n5_ := Aside0.mk (blk_below (g := g321) (o := .cells #[.int .i64 t315, .int .u64 t316, .int .u64 t317, .int .u64 t318, .int .u64 t319] 25 (0, 0)) (by refine blk_put (cs := #[.int .i64 t315, .int .u64 t316, .int .u64 t317, .int .u64 t318, .int .u64 0]) ?_ 4 _ rfl; refine blk_put (cs := #[.int .i64 t315, .int .u64 t316, .int .u64 t317, .int .u64 0, .int .u64 0]) ?_ 3 _ rfl; refine blk_put (cs := #[.int .i64 t315, .int .u64 t316, .int .u64 0, .int .u64 0, .int .u64 0]) ?_ 2 _ rfl; refine blk_put (cs := #[.int .i64 t315, .int .u64 0, .int .u64 0, .int .u64 0, .int .u64 0]) ?_ 1 _ rfl; refine blk_put (cs := #[.int .i64 0, .int .u64 0, .int .u64 0, .int .u64 0, .int .u64 0]) ?_ 0 _ rfl; exact B321.out) hb); have n6_ := Aside0.mk (below_step (by repeat (first | (with_reducible first | exact HB.out | apply below_alloc | apply pw_below_drewN | apply below_drew1 | refine below_set ?_ GE286.out | refine below_set ?_ GE293.out | refine below_set ?_ GE300.out | refine below_set ?_ GE307.out | refine below_set ?_ GE314.out | refine below_set ?_ GE321.out) | exact HB.out)) hb); clear B286; clear B293; clear B300; clear B307; clear B314; clear B321; clear HB; have B286 := n0_; have B293 := n1_; have B300 := n2_; have B307 := n3_; have B314 := n4_; have B321 := n5_; have HB := n6_; clear n0_ n1_ n2_ n3_ n4_ n5_ n6_; (try clear hb); (try clear hb2); (try clear hk); (try clear hi)) | ((with_reducible refine gate_dst (N := 13) rfl ?_); refine box_event ?hg (N := 13) ?hd (cs := #[.int .i64 0, .int .u64 0, .int .u64 0, .int .u64 0, .int .u64 0]) (t := 25) ?hr ?_; (case hd => rfl); (case hg => rfl); (case hr => first | (go_simp; done) | (go_simp; rfl)); intro g328 hg w74 hbox hb; have n0_ := Aside0.mk (blk_below (g := g286) (o := .cells #[.int .i64 a0_0, .int .u64 a0_1, .int .u64 a0_2, .int .u64 a0_3, .int .u64 a0_4] 25 (0, 0)) (by exact B286.out) hb); have n1_ := Aside0.mk (blk_below (g := g293) (o := .cells #[.int .i64 t287, .int .u64 t288, .int .u64 t289, .int .u64 t290, .int .u64 t291] 25 (0, 0)) (by exact B293.out) hb); have n2_ := Aside0.mk (blk_below (g := g300) (o := .cells #[.int .i64 t294, .int .u64 t295, .int .u64 t296, .int .u64 t297, .int .u64 t298] 25 (0, 0)) (by exact B300.out) hb); have n3_ := Aside0.mk (blk_below (g := g307) (o := .cells #[.int .i64 t301, .int .u64 t302, .int .u64 t303, .int .u64 t304, .int .u64 t305] 25 (0, 0)) (by exact B307.out) hb); have n4_ := Aside0.mk (blk_below (g := g314) (o := .cells #[.int .i64 t308, .int .u64 t309, .int .u64 t310, .int .u64 t311, .int .u64 t312] 25 (0, 0)) (by exact B314.out) hb); have n5_ := Aside0.mk (blk_below (g := g321) (o := .cells #[.int .i64 t315, .int .u64 t316, .int .u64 t317, .int .u64 t318, .int .u64 t319] 25 (0, 0)) (by exact B321.out) hb); have n6_ := Aside0.mk (below_step (by repeat (first | (with_reducible first | exact HB.out | apply below_alloc | apply pw_below_drewN | apply below_drew1 | refine below_set ?_ GE286.out | refine below_set ?_ GE293.out | refine below_set ?_ GE300.out | refine below_set ?_ GE307.out | refine below_set ?_ GE314.out | refine below_set ?_ GE321.out) | exact HB.out)) hb); have n7_ := Aside0.mk (hbox); have n8_ := Aside0.mk ((by rw [hg]; exact (below_size (by repeat (first | (with_reducible first | exact HB.out | apply below_alloc | apply pw_below_drewN | apply below_drew1 | refine below_set ?_ GE286.out | refine below_set ?_ GE293.out | refine below_set ?_ GE300.out | refine below_set ?_ GE307.out | refine below_set ?_ GE314.out | refine below_set ?_ GE321.out) | exact HB.out))) : w.heap.size ≤ g328)); have n9_ := Aside0.mk ((by rw [hg]; exact (below_size (by repeat (first | (with_reducible first | exact HB.out | apply below_alloc | apply pw_below_drewN | apply below_drew1 | refine below_set ?_ GE286.out | refine below_set ?_ GE293.out | refine below_set ?_ GE300.out | refine below_set ?_ GE307.out | refine below_set ?_ GE314.out | refine below_set ?_ GE321.out) | exact HB.out))) : w.heap.size ≤ g328)); have n10_ := Aside0.mk ((by rw [hg]; exact Nat.ne_of_lt (blk_lt (g := g286) (o := .cells #[.int .i64 a0_0, .int .u64 a0_1, .int .u64 a0_2, .int .u64 a0_3, .int .u64 a0_4] 25 (0, 0)) (by exact B286.out)) : g286 ≠ g328)); have n11_ := Aside0.mk ((by rw [hg]; exact Nat.ne_of_gt (blk_lt (g := g286) (o := .cells #[.int .i64 a0_0, .int .u64 a0_1, .int .u64 a0_2, .int .u64 a0_3, .int .u64 a0_4] 25 (0, 0)) (by exact B286.out)) : g328 ≠ g286)); have n12_ := Aside0.mk ((by rw [hg]; exact Nat.ne_of_lt (blk_lt (g := g293) (o := .cells #[.int .i64 t287, .int .u64 t288, .int .u64 t289, .int .u64 t290, .int .u64 t291] 25 (0, 0)) (by exact B293.out)) : g293 ≠ g328)); have n13_ := Aside0.mk ((by rw [hg]; exact Nat.ne_of_gt (blk_lt (g := g293) (o := .cells #[.int .i64 t287, .int .u64 t288, .int .u64 t289, .int .u64 t290, .int .u64 t291] 25 (0, 0)) (by exact B293.out)) : g328 ≠ g293)); have n14_ := Aside0.mk ((by rw [hg]; exact Nat.ne_of_lt (blk_lt (g := g300) (o := .cells #[.int .i64 t294, .int .u64 t295, .int .u64 t296, .int .u64 t297, .int .u64 t298] 25 (0, 0)) (by exact B300.out)) : g300 ≠ g328)); have n15_ := Aside0.mk ((by rw [hg]; exact Nat.ne_of_gt (blk_lt (g := g300) (o := .cells #[.int .i64 t294, .int .u64 t295, .int .u64 t296, .int .u64 t297, .int .u64 t298] 25 (0, 0)) (by exact B300.out)) : g328 ≠ g300)); have n16_ := Aside0.mk ((by rw [hg]; exact Nat.ne_of_lt (blk_lt (g := g307) (o := .cells #[.int .i64 t301, .int .u64 t302, .int .u64 t303, .int .u64 t304, .int .u64 t305] 25 (0, 0)) (by exact B307.out)) : g307 ≠ g328)); have n17_ := Aside0.mk ((by rw [hg]; exact Nat.ne_of_gt (blk_lt (g := g307) (o := .cells #[.int .i64 t301, .int .u64 t302, .int .u64 t303, .int .u64 t304, .int .u64 t305] 25 (0, 0)) (by exact B307.out)) : g328 ≠ g307)); have n18_ := Aside0.mk ((by rw [hg]; exact Nat.ne_of_lt (blk_lt (g := g314) (o := .cells #[.int .i64 t308, .int .u64 t309, .int .u64 t310, .int .u64 t311, .int .u64 t312] 25 (0, 0)) (by exact B314.out)) : g314 ≠ g328)); have n19_ := Aside0.mk ((by rw [hg]; exact Nat.ne_of_gt (blk_lt (g := g314) (o := .cells #[.int .i64 t308, .int .u64 t309, .int .u64 t310, .int .u64 t311, .int .u64 t312] 25 (0, 0)) (by exact B314.out)) : g328 ≠ g314)); have n20_ := Aside0.mk ((by rw [hg]; exact Nat.ne_of_lt (blk_lt (g := g321) (o := .cells #[.int .i64 t315, .int .u64 t316, .int .u64 t317, .int .u64 t318, .int .u64 t319] 25 (0, 0)) (by exact B321.out)) : g321 ≠ g328)); have n21_ := Aside0.mk ((by rw [hg]; exact Nat.ne_of_gt (blk_lt (g := g321) (o := .cells #[.int .i64 t315, .int .u64 t316, .int .u64 t317, .int .u64 t318, .int .u64 t319] 25 (0, 0)) (by exact B321.out)) : g328 ≠ g321)); clear B286; clear B293; clear B300; clear B307; clear B314; clear B321; clear HB; have B286 := n0_; have B293 := n1_; have B300 := n2_; have B307 := n3_; have B314 := n4_; have B321 := n5_; have HB := n6_; have B328 := n7_; have GW328 := n8_; have GE328 := n9_; have NB286_328 := n10_; have NB328_286 := n11_; have NB293_328 := n12_; have NB328_293 := n13_; have NB300_328 := n14_; have NB328_300 := n15_; have NB307_328 := n16_; have NB328_307 := n17_; have NB314_328 := n18_; have NB328_314 := n19_; have NB321_328 := n20_; have NB328_321 := n21_; clear n0_ n1_ n2_ n3_ n4_ n5_ n6_ n7_ n8_ n9_ n10_ n11_ n12_ n13_ n14_ n15_ n16_ n17_ n18_ n19_ n20_ n21_; clear hb hbox hg; have hnb75 := NB328_286.out; have hnc75 := NB286_328.out; have hnb76 := NB328_293.out; have hnc76 := NB293_328.out; have hnb77 := NB328_300.out; have hnc77 := NB300_328.out; have hnb78 := NB328_307.out; have hnc78 := NB307_328.out; have hnb79 := NB328_314.out; have hnc79 := NB314_328.out; have hnb80 := NB328_321.out; have hnc80 := NB321_328.out; have hcz81_0 : w74.cell? ⟨g328, 0, none⟩ = some (.int .i64 0) := bq_ B328 0; have hcz81_1 : w74.cell? ⟨g328, 1, none⟩ = some (.int .u64 0) := bq_ B328 1; have hcz81_2 : w74.cell? ⟨g328, 2, none⟩ = some (.int .u64 0) := bq_ B328 2; have hcz81_3 : w74.cell? ⟨g328, 3, none⟩ = some (.int .u64 0) := bq_ B328 3; have hcz81_4 : w74.cell? ⟨g328, 4, none⟩ = some (.int .u64 0) := bq_ B328 4; have hfz81_0 := blk_frozen B328.out 0; have hfz81_1 := blk_frozen B328.out 1; have hfz81_2 := blk_frozen B328.out 2; have hfz81_3 := blk_frozen B328.out 3; have hfz81_4 := blk_frozen B328.out 4; have hcz82_0 : w74.cell? ⟨g321, 0, none⟩ = some (.int .i64 t315) := bq_ B321 0; have hcz82_1 : w74.cell? ⟨g321, 1, none⟩ = some (.int .u64 t316) := bq_ B321 1; have hcz82_2 : w74.cell? ⟨g321, 2, none⟩ = some (.int .u64 t317) := bq_ B321 2; have hcz82_3 : w74.cell? ⟨g321, 3, none⟩ = some (.int .u64 t318) := bq_ B321 3; have hcz82_4 : w74.cell? ⟨g321, 4, none⟩ = some (.int .u64 t319) := bq_ B321 4; have hfz82_0 := blk_frozen B321.out 0; have hfz82_1 := blk_frozen B321.out 1; have hfz82_2 := blk_frozen B321.out 2; have hfz82_3 := blk_frozen B321.out 3; have hfz82_4 := blk_frozen B321.out 4))
        rw [rounds_succ]
        have H := HC58.out
        clear HC58
        replace H := Option.bind_eq_some_iff.mp H
        obtain ⟨⟨t329, t330, t331, t332, t333, t334⟩, A830, H⟩ := H
        replace H : ((attestorref08_Position.f kj4 a0_0 a0_1 a0_2 a0_3 a0_4 5).bind fun bt336 => (if (!(t329 == bt336.1) || ((!(t330 == bt336.2.1) || (!(t331 == bt336.2.2.1) || (!(t332 == bt336.2.2.2.1) || (!(t333 == bt336.2.2.2.2.1))))))) = true then (none) else (if t334 = bt336.2.2.2.2.2 then ((channel_Position.f kj4 a0_0 a0_1 a0_2 a0_3 a0_4 24).bind fun bt343 => ((attestorref08_Position.f kj4 a0_0 a0_1 a0_2 a0_3 a0_4 24).bind fun bt350 => (if (!(bt343.1 == bt350.1) || ((!(bt343.2.1 == bt350.2.1) || (!(bt343.2.2.1 == bt350.2.2.1) || (!(bt343.2.2.2.1 == bt350.2.2.2.1) || (!(bt343.2.2.2.2.1 == bt350.2.2.2.2.1))))))) = true then (none) else (if bt343.2.2.2.2.2 = bt350.2.2.2.2.2 then ((attestorlaw08_lives.f kj4).bind fun t357 => (some t357)) else (none))))) else (none)))) = some r := H
        have A83 := Aside0.mk A830
        clear A830
        replace H := Option.bind_eq_some_iff.mp H
        obtain ⟨⟨t336, t337, t338, t339, t340, t341⟩, A840, H⟩ := H
        replace H : (if (!(t329 == t336) || ((!(t330 == t337) || (!(t331 == t338) || (!(t332 == t339) || (!(t333 == t340))))))) = true then (none) else (if t334 = t341 then ((channel_Position.f kj4 a0_0 a0_1 a0_2 a0_3 a0_4 24).bind fun bt343 => ((attestorref08_Position.f kj4 a0_0 a0_1 a0_2 a0_3 a0_4 24).bind fun bt350 => (if (!(bt343.1 == bt350.1) || ((!(bt343.2.1 == bt350.2.1) || (!(bt343.2.2.1 == bt350.2.2.1) || (!(bt343.2.2.2.1 == bt350.2.2.2.1) || (!(bt343.2.2.2.2.1 == bt350.2.2.2.2.1))))))) = true then (none) else (if bt343.2.2.2.2.2 = bt350.2.2.2.2.2 then ((attestorlaw08_lives.f kj4).bind fun t357 => (some t357)) else (none))))) else (none))) = some r := H
        have A84 := Aside0.mk A840
        clear A840
        by_cases c85 : (!(t329 == t336) || ((!(t330 == t337) || (!(t331 == t338) || (!(t332 == t339) || (!(t333 == t340))))))) = true
        ·rw [if_pos c85] at H
         exact absurd H (by simp)
        ·rw [if_neg c85] at H
         have c85b0 : (!(t329 == t336) || ((!(t330 == t337) || (!(t331 == t338) || (!(t332 == t339) || (!(t333 == t340))))))) = false := by simpa using c85
         clear c85
         by_cases c86 : t334 = t341
         ·rw [if_pos c86] at H
          have c86b0 : (t334 == t341) = true := beq_iff_eq.mpr c86
          have c86b1 : (t334 != t341) = false := bne_eq_false_iff_eq.mpr c86
          clear c86
          have HC87 := Aside0.mk H
          clear H
          have hnb88 := NB286_293.out
          have hnc88 := NB293_286.out
          have hnb89 := NB286_300.out
          have hnc89 := NB300_286.out
          have hnb90 := NB286_307.out
          have hnc90 := NB307_286.out
          have hnb91 := NB286_314.out
          have hnc91 := NB314_286.out
          have hnb92 := NB286_321.out
          have hnc92 := NB321_286.out
          have hnb93 := NB286_328.out
          have hnc93 := NB328_286.out
          have hcz94_0 : w74.cell? ⟨g286, 0, none⟩ = some (.int .i64 a0_0) := bq_ B286 0
          have hcz94_1 : w74.cell? ⟨g286, 1, none⟩ = some (.int .u64 a0_1) := bq_ B286 1
          have hcz94_2 : w74.cell? ⟨g286, 2, none⟩ = some (.int .u64 a0_2) := bq_ B286 2
          have hcz94_3 : w74.cell? ⟨g286, 3, none⟩ = some (.int .u64 a0_3) := bq_ B286 3
          have hcz94_4 : w74.cell? ⟨g286, 4, none⟩ = some (.int .u64 a0_4) := bq_ B286 4
          have hfz94_0 := blk_frozen B286.out 0
          have hfz94_1 := blk_frozen B286.out 1
          have hfz94_2 := blk_frozen B286.out 2
          have hfz94_3 := blk_frozen B286.out 3
          have hfz94_4 := blk_frozen B286.out 4
          go_wp2_with (first | ((with_reducible refine gate_callee (f := 12) rfl ?_); refine goesL_ (some 41) rfl rfl Tryd.func12 (by kernel_rfl) rfl #[.agg #[.int .i64 a0_0, .int .u64 a0_1, .int .u64 a0_2, .int .u64 a0_3, .int .u64 a0_4], .int .i64 5] rfl (by (try simp only [List.map_toArray, List.map_cons, List.map_nil]); first | done | rfl) ?_; (with_reducible refine (channel_Position.calls kj4 a0_0 a0_1 a0_2 a0_3 a0_4 5 t329 t330 t331 t332 t333 t334 _ ?side1 A83.out).mono ?_); (case side1 => exact GL.below HRG.out (by repeat (first | (with_reducible first | exact HB.out | apply below_alloc | apply pw_below_drewN | apply below_drew1 | refine below_set ?_ GE286.out | refine below_set ?_ GE293.out | refine below_set ?_ GE300.out | refine below_set ?_ GE307.out | refine below_set ?_ GE314.out | refine below_set ?_ GE321.out | refine below_set ?_ GE328.out) | exact HB.out))); rintro e w95 ⟨rfl, hb⟩; refine ⟨_, rfl, ?_⟩; have n0_ := Aside0.mk (blk_below (g := g286) (o := .cells #[.int .i64 a0_0, .int .u64 a0_1, .int .u64 a0_2, .int .u64 a0_3, .int .u64 a0_4] 25 (0, 0)) (by refine blk_far ?_ NB286_328.out _; refine blk_far ?_ NB286_328.out _; refine blk_far ?_ NB286_328.out _; refine blk_far ?_ NB286_328.out _; refine blk_far ?_ NB286_328.out _; exact B286.out) hb); have n1_ := Aside0.mk (blk_below (g := g293) (o := .cells #[.int .i64 t287, .int .u64 t288, .int .u64 t289, .int .u64 t290, .int .u64 t291] 25 (0, 0)) (by refine blk_far ?_ NB293_328.out _; refine blk_far ?_ NB293_328.out _; refine blk_far ?_ NB293_328.out _; refine blk_far ?_ NB293_328.out _; refine blk_far ?_ NB293_328.out _; exact B293.out) hb); have n2_ := Aside0.mk (blk_below (g := g300) (o := .cells #[.int .i64 t294, .int .u64 t295, .int .u64 t296, .int .u64 t297, .int .u64 t298] 25 (0, 0)) (by refine blk_far ?_ NB300_328.out _; refine blk_far ?_ NB300_328.out _; refine blk_far ?_ NB300_328.out _; refine blk_far ?_ NB300_328.out _; refine blk_far ?_ NB300_328.out _; exact B300.out) hb); have n3_ := Aside0.mk (blk_below (g := g307) (o := .cells #[.int .i64 t301, .int .u64 t302, .int .u64 t303, .int .u64 t304, .int .u64 t305] 25 (0, 0)) (by refine blk_far ?_ NB307_328.out _; refine blk_far ?_ NB307_328.out _; refine blk_far ?_ NB307_328.out _; refine blk_far ?_ NB307_328.out _; refine blk_far ?_ NB307_328.out _; exact B307.out) hb); have n4_ := Aside0.mk (blk_below (g := g314) (o := .cells #[.int .i64 t308, .int .u64 t309, .int .u64 t310, .int .u64 t311, .int .u64 t312] 25 (0, 0)) (by refine blk_far ?_ NB314_328.out _; refine blk_far ?_ NB314_328.out _; refine blk_far ?_ NB314_328.out _; refine blk_far ?_ NB314_328.out _; refine blk_far ?_ NB314_328.out _; exact B314.out) hb); have n5_ := Aside0.mk (blk_below (g := g321) (o := .cells #[.int .i64 t315, .int .u64 t316, .int .u64 t317, .int .u64 t318, .int .u64 t319] 25 (0, 0)) (by refine blk_far ?_ NB321_328.out _; refine blk_far ?_ NB321_328.out _; refine blk_far ?_ NB321_328.out _; refine blk_far ?_ NB321_328.out _; refine blk_far ?_ NB321_328.out _; exact B321.out) hb); have n6_ := Aside0.mk (blk_below (g := g328) (o := .cells #[.int .i64 t322, .int .u64 t323, .int .u64 t324, .int .u64 t325, .int .u64 t326] 25 (0, 0)) (by refine blk_put (cs := #[.int .i64 t322, .int .u64 t323, .int .u64 t324, .int .u64 t325, .int .u64 0]) ?_ 4 _ rfl; refine blk_put (cs := #[.int .i64 t322, .int .u64 t323, .int .u64 t324, .int .u64 0, .int .u64 0]) ?_ 3 _ rfl; refine blk_put (cs := #[.int .i64 t322, .int .u64 t323, .int .u64 0, .int .u64 0, .int .u64 0]) ?_ 2 _ rfl; refine blk_put (cs := #[.int .i64 t322, .int .u64 0, .int .u64 0, .int .u64 0, .int .u64 0]) ?_ 1 _ rfl; refine blk_put (cs := #[.int .i64 0, .int .u64 0, .int .u64 0, .int .u64 0, .int .u64 0]) ?_ 0 _ rfl; exact B328.out) hb); have n7_ := Aside0.mk (below_step (by repeat (first | (with_reducible first | exact HB.out | apply below_alloc | apply pw_below_drewN | apply below_drew1 | refine below_set ?_ GE286.out | refine below_set ?_ GE293.out | refine below_set ?_ GE300.out | refine below_set ?_ GE307.out | refine below_set ?_ GE314.out | refine below_set ?_ GE321.out | refine below_set ?_ GE328.out) | exact HB.out)) hb); clear B286; clear B293; clear B300; clear B307; clear B314; clear B321; clear B328; clear HB; have B286 := n0_; have B293 := n1_; have B300 := n2_; have B307 := n3_; have B314 := n4_; have B321 := n5_; have B328 := n6_; have HB := n7_; clear n0_ n1_ n2_ n3_ n4_ n5_ n6_ n7_; (try clear hb); (try clear hb2); (try clear hk); (try clear hi)) | ((with_reducible refine gate_dst (N := 11) rfl ?_); refine box_event ?hg (N := 11) ?hd (cs := #[.int .i64 0, .int .u64 0, .int .u64 0, .int .u64 0, .int .u64 0]) (t := 25) ?hr ?_; (case hd => rfl); (case hg => rfl); (case hr => first | (go_simp; done) | (go_simp; rfl)); intro g335 hg w96 hbox hb; have n0_ := Aside0.mk (blk_below (g := g286) (o := .cells #[.int .i64 a0_0, .int .u64 a0_1, .int .u64 a0_2, .int .u64 a0_3, .int .u64 a0_4] 25 (0, 0)) (by exact B286.out) hb); have n1_ := Aside0.mk (blk_below (g := g293) (o := .cells #[.int .i64 t287, .int .u64 t288, .int .u64 t289, .int .u64 t290, .int .u64 t291] 25 (0, 0)) (by exact B293.out) hb); have n2_ := Aside0.mk (blk_below (g := g300) (o := .cells #[.int .i64 t294, .int .u64 t295, .int .u64 t296, .int .u64 t297, .int .u64 t298] 25 (0, 0)) (by exact B300.out) hb); have n3_ := Aside0.mk (blk_below (g := g307) (o := .cells #[.int .i64 t301, .int .u64 t302, .int .u64 t303, .int .u64 t304, .int .u64 t305] 25 (0, 0)) (by exact B307.out) hb); have n4_ := Aside0.mk (blk_below (g := g314) (o := .cells #[.int .i64 t308, .int .u64 t309, .int .u64 t310, .int .u64 t311, .int .u64 t312] 25 (0, 0)) (by exact B314.out) hb); have n5_ := Aside0.mk (blk_below (g := g321) (o := .cells #[.int .i64 t315, .int .u64 t316, .int .u64 t317, .int .u64 t318, .int .u64 t319] 25 (0, 0)) (by exact B321.out) hb); have n6_ := Aside0.mk (blk_below (g := g328) (o := .cells #[.int .i64 t322, .int .u64 t323, .int .u64 t324, .int .u64 t325, .int .u64 t326] 25 (0, 0)) (by exact B328.out) hb); have n7_ := Aside0.mk (below_step (by repeat (first | (with_reducible first | exact HB.out | apply below_alloc | apply pw_below_drewN | apply below_drew1 | refine below_set ?_ GE286.out | refine below_set ?_ GE293.out | refine below_set ?_ GE300.out | refine below_set ?_ GE307.out | refine below_set ?_ GE314.out | refine below_set ?_ GE321.out | refine below_set ?_ GE328.out) | exact HB.out)) hb); have n8_ := Aside0.mk (hbox); have n9_ := Aside0.mk ((by rw [hg]; exact (below_size (by repeat (first | (with_reducible first | exact HB.out | apply below_alloc | apply pw_below_drewN | apply below_drew1 | refine below_set ?_ GE286.out | refine below_set ?_ GE293.out | refine below_set ?_ GE300.out | refine below_set ?_ GE307.out | refine below_set ?_ GE314.out | refine below_set ?_ GE321.out | refine below_set ?_ GE328.out) | exact HB.out))) : w.heap.size ≤ g335)); have n10_ := Aside0.mk ((by rw [hg]; exact (below_size (by repeat (first | (with_reducible first | exact HB.out | apply below_alloc | apply pw_below_drewN | apply below_drew1 | refine below_set ?_ GE286.out | refine below_set ?_ GE293.out | refine below_set ?_ GE300.out | refine below_set ?_ GE307.out | refine below_set ?_ GE314.out | refine below_set ?_ GE321.out | refine below_set ?_ GE328.out) | exact HB.out))) : w.heap.size ≤ g335)); have n11_ := Aside0.mk ((by rw [hg]; exact Nat.ne_of_lt (blk_lt (g := g286) (o := .cells #[.int .i64 a0_0, .int .u64 a0_1, .int .u64 a0_2, .int .u64 a0_3, .int .u64 a0_4] 25 (0, 0)) (by exact B286.out)) : g286 ≠ g335)); have n12_ := Aside0.mk ((by rw [hg]; exact Nat.ne_of_gt (blk_lt (g := g286) (o := .cells #[.int .i64 a0_0, .int .u64 a0_1, .int .u64 a0_2, .int .u64 a0_3, .int .u64 a0_4] 25 (0, 0)) (by exact B286.out)) : g335 ≠ g286)); have n13_ := Aside0.mk ((by rw [hg]; exact Nat.ne_of_lt (blk_lt (g := g293) (o := .cells #[.int .i64 t287, .int .u64 t288, .int .u64 t289, .int .u64 t290, .int .u64 t291] 25 (0, 0)) (by exact B293.out)) : g293 ≠ g335)); have n14_ := Aside0.mk ((by rw [hg]; exact Nat.ne_of_gt (blk_lt (g := g293) (o := .cells #[.int .i64 t287, .int .u64 t288, .int .u64 t289, .int .u64 t290, .int .u64 t291] 25 (0, 0)) (by exact B293.out)) : g335 ≠ g293)); have n15_ := Aside0.mk ((by rw [hg]; exact Nat.ne_of_lt (blk_lt (g := g300) (o := .cells #[.int .i64 t294, .int .u64 t295, .int .u64 t296, .int .u64 t297, .int .u64 t298] 25 (0, 0)) (by exact B300.out)) : g300 ≠ g335)); have n16_ := Aside0.mk ((by rw [hg]; exact Nat.ne_of_gt (blk_lt (g := g300) (o := .cells #[.int .i64 t294, .int .u64 t295, .int .u64 t296, .int .u64 t297, .int .u64 t298] 25 (0, 0)) (by exact B300.out)) : g335 ≠ g300)); have n17_ := Aside0.mk ((by rw [hg]; exact Nat.ne_of_lt (blk_lt (g := g307) (o := .cells #[.int .i64 t301, .int .u64 t302, .int .u64 t303, .int .u64 t304, .int .u64 t305] 25 (0, 0)) (by exact B307.out)) : g307 ≠ g335)); have n18_ := Aside0.mk ((by rw [hg]; exact Nat.ne_of_gt (blk_lt (g := g307) (o := .cells #[.int .i64 t301, .int .u64 t302, .int .u64 t303, .int .u64 t304, .int .u64 t305] 25 (0, 0)) (by exact B307.out)) : g335 ≠ g307)); have n19_ := Aside0.mk ((by rw [hg]; exact Nat.ne_of_lt (blk_lt (g := g314) (o := .cells #[.int .i64 t308, .int .u64 t309, .int .u64 t310, .int .u64 t311, .int .u64 t312] 25 (0, 0)) (by exact B314.out)) : g314 ≠ g335)); have n20_ := Aside0.mk ((by rw [hg]; exact Nat.ne_of_gt (blk_lt (g := g314) (o := .cells #[.int .i64 t308, .int .u64 t309, .int .u64 t310, .int .u64 t311, .int .u64 t312] 25 (0, 0)) (by exact B314.out)) : g335 ≠ g314)); have n21_ := Aside0.mk ((by rw [hg]; exact Nat.ne_of_lt (blk_lt (g := g321) (o := .cells #[.int .i64 t315, .int .u64 t316, .int .u64 t317, .int .u64 t318, .int .u64 t319] 25 (0, 0)) (by exact B321.out)) : g321 ≠ g335)); have n22_ := Aside0.mk ((by rw [hg]; exact Nat.ne_of_gt (blk_lt (g := g321) (o := .cells #[.int .i64 t315, .int .u64 t316, .int .u64 t317, .int .u64 t318, .int .u64 t319] 25 (0, 0)) (by exact B321.out)) : g335 ≠ g321)); have n23_ := Aside0.mk ((by rw [hg]; exact Nat.ne_of_lt (blk_lt (g := g328) (o := .cells #[.int .i64 t322, .int .u64 t323, .int .u64 t324, .int .u64 t325, .int .u64 t326] 25 (0, 0)) (by exact B328.out)) : g328 ≠ g335)); have n24_ := Aside0.mk ((by rw [hg]; exact Nat.ne_of_gt (blk_lt (g := g328) (o := .cells #[.int .i64 t322, .int .u64 t323, .int .u64 t324, .int .u64 t325, .int .u64 t326] 25 (0, 0)) (by exact B328.out)) : g335 ≠ g328)); clear B286; clear B293; clear B300; clear B307; clear B314; clear B321; clear B328; clear HB; have B286 := n0_; have B293 := n1_; have B300 := n2_; have B307 := n3_; have B314 := n4_; have B321 := n5_; have B328 := n6_; have HB := n7_; have B335 := n8_; have GW335 := n9_; have GE335 := n10_; have NB286_335 := n11_; have NB335_286 := n12_; have NB293_335 := n13_; have NB335_293 := n14_; have NB300_335 := n15_; have NB335_300 := n16_; have NB307_335 := n17_; have NB335_307 := n18_; have NB314_335 := n19_; have NB335_314 := n20_; have NB321_335 := n21_; have NB335_321 := n22_; have NB328_335 := n23_; have NB335_328 := n24_; clear n0_ n1_ n2_ n3_ n4_ n5_ n6_ n7_ n8_ n9_ n10_ n11_ n12_ n13_ n14_ n15_ n16_ n17_ n18_ n19_ n20_ n21_ n22_ n23_ n24_; clear hb hbox hg; have hnb97 := NB335_286.out; have hnc97 := NB286_335.out; have hnb98 := NB335_293.out; have hnc98 := NB293_335.out; have hnb99 := NB335_300.out; have hnc99 := NB300_335.out; have hnb100 := NB335_307.out; have hnc100 := NB307_335.out; have hnb101 := NB335_314.out; have hnc101 := NB314_335.out; have hnb102 := NB335_321.out; have hnc102 := NB321_335.out; have hnb103 := NB335_328.out; have hnc103 := NB328_335.out; have hcz104_0 : w96.cell? ⟨g335, 0, none⟩ = some (.int .i64 0) := bq_ B335 0; have hcz104_1 : w96.cell? ⟨g335, 1, none⟩ = some (.int .u64 0) := bq_ B335 1; have hcz104_2 : w96.cell? ⟨g335, 2, none⟩ = some (.int .u64 0) := bq_ B335 2; have hcz104_3 : w96.cell? ⟨g335, 3, none⟩ = some (.int .u64 0) := bq_ B335 3; have hcz104_4 : w96.cell? ⟨g335, 4, none⟩ = some (.int .u64 0) := bq_ B335 4; have hfz104_0 := blk_frozen B335.out 0; have hfz104_1 := blk_frozen B335.out 1; have hfz104_2 := blk_frozen B335.out 2; have hfz104_3 := blk_frozen B335.out 3; have hfz104_4 := blk_frozen B335.out 4; have hcz105_0 : w96.cell? ⟨g286, 0, none⟩ = some (.int .i64 a0_0) := bq_ B286 0; have hcz105_1 : w96.cell? ⟨g286, 1, none⟩ = some (.int .u64 a0_1) := bq_ B286 1; have hcz105_2 : w96.cell? ⟨g286, 2, none⟩ = some (.int .u64 a0_2) := bq_ B286 2; have hcz105_3 : w96.cell? ⟨g286, 3, none⟩ = some (.int .u64 a0_3) := bq_ B286 3; have hcz105_4 : w96.cell? ⟨g286, 4, none⟩ = some (.int .u64 a0_4) := bq_ B286 4; have hfz105_0 := blk_frozen B286.out 0; have hfz105_1 := blk_frozen B286.out 1; have hfz105_2 := blk_frozen B286.out 2; have hfz105_3 := blk_frozen B286.out 3; have hfz105_4 := blk_frozen B286.out 4) | ((with_reducible refine gate_callee (f := 13) rfl ?_); refine goesL_ (some 47) rfl rfl Tryd.func13 (by kernel_rfl) rfl #[.agg #[.int .i64 a0_0, .int .u64 a0_1, .int .u64 a0_2, .int .u64 a0_3, .int .u64 a0_4], .int .i64 5] rfl (by (try simp only [List.map_toArray, List.map_cons, List.map_nil]); first | done | rfl) ?_; (with_reducible refine (attestorref08_Position.calls kj4 a0_0 a0_1 a0_2 a0_3 a0_4 5 t336 t337 t338 t339 t340 t341 _ A84.out).mono ?_); rintro e w106 ⟨rfl, hb⟩; refine ⟨_, rfl, ?_⟩; have n0_ := Aside0.mk (blk_below (g := g286) (o := .cells #[.int .i64 a0_0, .int .u64 a0_1, .int .u64 a0_2, .int .u64 a0_3, .int .u64 a0_4] 25 (0, 0)) (by refine blk_far ?_ NB286_335.out _; refine blk_far ?_ NB286_335.out _; refine blk_far ?_ NB286_335.out _; refine blk_far ?_ NB286_335.out _; refine blk_far ?_ NB286_335.out _; exact B286.out) hb); have n1_ := Aside0.mk (blk_below (g := g293) (o := .cells #[.int .i64 t287, .int .u64 t288, .int .u64 t289, .int .u64 t290, .int .u64 t291] 25 (0, 0)) (by refine blk_far ?_ NB293_335.out _; refine blk_far ?_ NB293_335.out _; refine blk_far ?_ NB293_335.out _; refine blk_far ?_ NB293_335.out _; refine blk_far ?_ NB293_335.out _; exact B293.out) hb); have n2_ := Aside0.mk (blk_below (g := g300) (o := .cells #[.int .i64 t294, .int .u64 t295, .int .u64 t296, .int .u64 t297, .int .u64 t298] 25 (0, 0)) (by refine blk_far ?_ NB300_335.out _; refine blk_far ?_ NB300_335.out _; refine blk_far ?_ NB300_335.out _; refine blk_far ?_ NB300_335.out _; refine blk_far ?_ NB300_335.out _; exact B300.out) hb); have n3_ := Aside0.mk (blk_below (g := g307) (o := .cells #[.int .i64 t301, .int .u64 t302, .int .u64 t303, .int .u64 t304, .int .u64 t305] 25 (0, 0)) (by refine blk_far ?_ NB307_335.out _; refine blk_far ?_ NB307_335.out _; refine blk_far ?_ NB307_335.out _; refine blk_far ?_ NB307_335.out _; refine blk_far ?_ NB307_335.out _; exact B307.out) hb); have n4_ := Aside0.mk (blk_below (g := g314) (o := .cells #[.int .i64 t308, .int .u64 t309, .int .u64 t310, .int .u64 t311, .int .u64 t312] 25 (0, 0)) (by refine blk_far ?_ NB314_335.out _; refine blk_far ?_ NB314_335.out _; refine blk_far ?_ NB314_335.out _; refine blk_far ?_ NB314_335.out _; refine blk_far ?_ NB314_335.out _; exact B314.out) hb); have n5_ := Aside0.mk (blk_below (g := g321) (o := .cells #[.int .i64 t315, .int .u64 t316, .int .u64 t317, .int .u64 t318, .int .u64 t319] 25 (0, 0)) (by refine blk_far ?_ NB321_335.out _; refine blk_far ?_ NB321_335.out _; refine blk_far ?_ NB321_335.out _; refine blk_far ?_ NB321_335.out _; refine blk_far ?_ NB321_335.out _; exact B321.out) hb); have n6_ := Aside0.mk (blk_below (g := g328) (o := .cells #[.int .i64 t322, .int .u64 t323, .int .u64 t324, .int .u64 t325, .int .u64 t326] 25 (0, 0)) (by refine blk_far ?_ NB328_335.out _; refine blk_far ?_ NB328_335.out _; refine blk_far ?_ NB328_335.out _; refine blk_far ?_ NB328_335.out _; refine blk_far ?_ NB328_335.out _; exact B328.out) hb); have n7_ := Aside0.mk (blk_below (g := g335) (o := .cells #[.int .i64 t329, .int .u64 t330, .int .u64 t331, .int .u64 t332, .int .u64 t333] 25 (0, 0)) (by refine blk_put (cs := #[.int .i64 t329, .int .u64 t330, .int .u64 t331, .int .u64 t332, .int .u64 0]) ?_ 4 _ rfl; refine blk_put (cs := #[.int .i64 t329, .int .u64 t330, .int .u64 t331, .int .u64 0, .int .u64 0]) ?_ 3 _ rfl; refine blk_put (cs := #[.int .i64 t329, .int .u64 t330, .int .u64 0, .int .u64 0, .int .u64 0]) ?_ 2 _ rfl; refine blk_put (cs := #[.int .i64 t329, .int .u64 0, .int .u64 0, .int .u64 0, .int .u64 0]) ?_ 1 _ rfl; refine blk_put (cs := #[.int .i64 0, .int .u64 0, .int .u64 0, .int .u64 0, .int .u64 0]) ?_ 0 _ rfl; exact B335.out) hb); have n8_ := Aside0.mk (below_step (by repeat (first | (with_reducible first | exact HB.out | apply below_alloc | apply pw_below_drewN | apply below_drew1 | refine below_set ?_ GE286.out | refine below_set ?_ GE293.out | refine below_set ?_ GE300.out | refine below_set ?_ GE307.out | refine below_set ?_ GE314.out | refine below_set ?_ GE321.out | refine below_set ?_ GE328.out | refine below_set ?_ GE335.out) | exact HB.out)) hb); clear B286; clear B293; clear B300; clear B307; clear B314; clear B321; clear B328; clear B335; clear HB; have B286 := n0_; have B293 := n1_; have B300 := n2_; have B307 := n3_; have B314 := n4_; have B321 := n5_; have B328 := n6_; have B335 := n7_; have HB := n8_; clear n0_ n1_ n2_ n3_ n4_ n5_ n6_ n7_ n8_; (try clear hb); (try clear hb2); (try clear hk); (try clear hi)) | ((with_reducible refine gate_dst (N := 13) rfl ?_); refine box_event ?hg (N := 13) ?hd (cs := #[.int .i64 0, .int .u64 0, .int .u64 0, .int .u64 0, .int .u64 0]) (t := 25) ?hr ?_; (case hd => rfl); (case hg => rfl); (case hr => first | (go_simp; done) | (go_simp; rfl)); intro g342 hg w107 hbox hb; have n0_ := Aside0.mk (blk_below (g := g286) (o := .cells #[.int .i64 a0_0, .int .u64 a0_1, .int .u64 a0_2, .int .u64 a0_3, .int .u64 a0_4] 25 (0, 0)) (by exact B286.out) hb); have n1_ := Aside0.mk (blk_below (g := g293) (o := .cells #[.int .i64 t287, .int .u64 t288, .int .u64 t289, .int .u64 t290, .int .u64 t291] 25 (0, 0)) (by exact B293.out) hb); have n2_ := Aside0.mk (blk_below (g := g300) (o := .cells #[.int .i64 t294, .int .u64 t295, .int .u64 t296, .int .u64 t297, .int .u64 t298] 25 (0, 0)) (by exact B300.out) hb); have n3_ := Aside0.mk (blk_below (g := g307) (o := .cells #[.int .i64 t301, .int .u64 t302, .int .u64 t303, .int .u64 t304, .int .u64 t305] 25 (0, 0)) (by exact B307.out) hb); have n4_ := Aside0.mk (blk_below (g := g314) (o := .cells #[.int .i64 t308, .int .u64 t309, .int .u64 t310, .int .u64 t311, .int .u64 t312] 25 (0, 0)) (by exact B314.out) hb); have n5_ := Aside0.mk (blk_below (g := g321) (o := .cells #[.int .i64 t315, .int .u64 t316, .int .u64 t317, .int .u64 t318, .int .u64 t319] 25 (0, 0)) (by exact B321.out) hb); have n6_ := Aside0.mk (blk_below (g := g328) (o := .cells #[.int .i64 t322, .int .u64 t323, .int .u64 t324, .int .u64 t325, .int .u64 t326] 25 (0, 0)) (by exact B328.out) hb); have n7_ := Aside0.mk (blk_below (g := g335) (o := .cells #[.int .i64 t329, .int .u64 t330, .int .u64 t331, .int .u64 t332, .int .u64 t333] 25 (0, 0)) (by exact B335.out) hb); have n8_ := Aside0.mk (below_step (by repeat (first | (with_reducible first | exact HB.out | apply below_alloc | apply pw_below_drewN | apply below_drew1 | refine below_set ?_ GE286.out | refine below_set ?_ GE293.out | refine below_set ?_ GE300.out | refine below_set ?_ GE307.out | refine below_set ?_ GE314.out | refine below_set ?_ GE321.out | refine below_set ?_ GE328.out | refine below_set ?_ GE335.out) | exact HB.out)) hb); have n9_ := Aside0.mk (hbox); have n10_ := Aside0.mk ((by rw [hg]; exact (below_size (by repeat (first | (with_reducible first | exact HB.out | apply below_alloc | apply pw_below_drewN | apply below_drew1 | refine below_set ?_ GE286.out | refine below_set ?_ GE293.out | refine below_set ?_ GE300.out | refine below_set ?_ GE307.out | refine below_set ?_ GE314.out | refine below_set ?_ GE321.out | refine below_set ?_ GE328.out | refine below_set ?_ GE335.out) | exact HB.out))) : w.heap.size ≤ g342)); have n11_ := Aside0.mk ((by rw [hg]; exact (below_size (by repeat (first | (with_reducible first | exact HB.out | apply below_alloc | apply pw_below_drewN | apply below_drew1 | refine below_set ?_ GE286.out | refine below_set ?_ GE293.out | refine below_set ?_ GE300.out | refine below_set ?_ GE307.out | refine below_set ?_ GE314.out | refine below_set ?_ GE321.out | refine below_set ?_ GE328.out | refine below_set ?_ GE335.out) | exact HB.out))) : w.heap.size ≤ g342)); have n12_ := Aside0.mk ((by rw [hg]; exact Nat.ne_of_lt (blk_lt (g := g286) (o := .cells #[.int .i64 a0_0, .int .u64 a0_1, .int .u64 a0_2, .int .u64 a0_3, .int .u64 a0_4] 25 (0, 0)) (by exact B286.out)) : g286 ≠ g342)); have n13_ := Aside0.mk ((by rw [hg]; exact Nat.ne_of_gt (blk_lt (g := g286) (o := .cells #[.int .i64 a0_0, .int .u64 a0_1, .int .u64 a0_2, .int .u64 a0_3, .int .u64 a0_4] 25 (0, 0)) (by exact B286.out)) : g342 ≠ g286)); have n14_ := Aside0.mk ((by rw [hg]; exact Nat.ne_of_lt (blk_lt (g := g293) (o := .cells #[.int .i64 t287, .int .u64 t288, .int .u64 t289, .int .u64 t290, .int .u64 t291] 25 (0, 0)) (by exact B293.out)) : g293 ≠ g342)); have n15_ := Aside0.mk ((by rw [hg]; exact Nat.ne_of_gt (blk_lt (g := g293) (o := .cells #[.int .i64 t287, .int .u64 t288, .int .u64 t289, .int .u64 t290, .int .u64 t291] 25 (0, 0)) (by exact B293.out)) : g342 ≠ g293)); have n16_ := Aside0.mk ((by rw [hg]; exact Nat.ne_of_lt (blk_lt (g := g300) (o := .cells #[.int .i64 t294, .int .u64 t295, .int .u64 t296, .int .u64 t297, .int .u64 t298] 25 (0, 0)) (by exact B300.out)) : g300 ≠ g342)); have n17_ := Aside0.mk ((by rw [hg]; exact Nat.ne_of_gt (blk_lt (g := g300) (o := .cells #[.int .i64 t294, .int .u64 t295, .int .u64 t296, .int .u64 t297, .int .u64 t298] 25 (0, 0)) (by exact B300.out)) : g342 ≠ g300)); have n18_ := Aside0.mk ((by rw [hg]; exact Nat.ne_of_lt (blk_lt (g := g307) (o := .cells #[.int .i64 t301, .int .u64 t302, .int .u64 t303, .int .u64 t304, .int .u64 t305] 25 (0, 0)) (by exact B307.out)) : g307 ≠ g342)); have n19_ := Aside0.mk ((by rw [hg]; exact Nat.ne_of_gt (blk_lt (g := g307) (o := .cells #[.int .i64 t301, .int .u64 t302, .int .u64 t303, .int .u64 t304, .int .u64 t305] 25 (0, 0)) (by exact B307.out)) : g342 ≠ g307)); have n20_ := Aside0.mk ((by rw [hg]; exact Nat.ne_of_lt (blk_lt (g := g314) (o := .cells #[.int .i64 t308, .int .u64 t309, .int .u64 t310, .int .u64 t311, .int .u64 t312] 25 (0, 0)) (by exact B314.out)) : g314 ≠ g342)); have n21_ := Aside0.mk ((by rw [hg]; exact Nat.ne_of_gt (blk_lt (g := g314) (o := .cells #[.int .i64 t308, .int .u64 t309, .int .u64 t310, .int .u64 t311, .int .u64 t312] 25 (0, 0)) (by exact B314.out)) : g342 ≠ g314)); have n22_ := Aside0.mk ((by rw [hg]; exact Nat.ne_of_lt (blk_lt (g := g321) (o := .cells #[.int .i64 t315, .int .u64 t316, .int .u64 t317, .int .u64 t318, .int .u64 t319] 25 (0, 0)) (by exact B321.out)) : g321 ≠ g342)); have n23_ := Aside0.mk ((by rw [hg]; exact Nat.ne_of_gt (blk_lt (g := g321) (o := .cells #[.int .i64 t315, .int .u64 t316, .int .u64 t317, .int .u64 t318, .int .u64 t319] 25 (0, 0)) (by exact B321.out)) : g342 ≠ g321)); have n24_ := Aside0.mk ((by rw [hg]; exact Nat.ne_of_lt (blk_lt (g := g328) (o := .cells #[.int .i64 t322, .int .u64 t323, .int .u64 t324, .int .u64 t325, .int .u64 t326] 25 (0, 0)) (by exact B328.out)) : g328 ≠ g342)); have n25_ := Aside0.mk ((by rw [hg]; exact Nat.ne_of_gt (blk_lt (g := g328) (o := .cells #[.int .i64 t322, .int .u64 t323, .int .u64 t324, .int .u64 t325, .int .u64 t326] 25 (0, 0)) (by exact B328.out)) : g342 ≠ g328)); have n26_ := Aside0.mk ((by rw [hg]; exact Nat.ne_of_lt (blk_lt (g := g335) (o := .cells #[.int .i64 t329, .int .u64 t330, .int .u64 t331, .int .u64 t332, .int .u64 t333] 25 (0, 0)) (by exact B335.out)) : g335 ≠ g342)); have n27_ := Aside0.mk ((by rw [hg]; exact Nat.ne_of_gt (blk_lt (g := g335) (o := .cells #[.int .i64 t329, .int .u64 t330, .int .u64 t331, .int .u64 t332, .int .u64 t333] 25 (0, 0)) (by exact B335.out)) : g342 ≠ g335)); clear B286; clear B293; clear B300; clear B307; clear B314; clear B321; clear B328; clear B335; clear HB; have B286 := n0_; have B293 := n1_; have B300 := n2_; have B307 := n3_; have B314 := n4_; have B321 := n5_; have B328 := n6_; have B335 := n7_; have HB := n8_; have B342 := n9_; have GW342 := n10_; have GE342 := n11_; have NB286_342 := n12_; have NB342_286 := n13_; have NB293_342 := n14_; have NB342_293 := n15_; have NB300_342 := n16_; have NB342_300 := n17_; have NB307_342 := n18_; have NB342_307 := n19_; have NB314_342 := n20_; have NB342_314 := n21_; have NB321_342 := n22_; have NB342_321 := n23_; have NB328_342 := n24_; have NB342_328 := n25_; have NB335_342 := n26_; have NB342_335 := n27_; clear n0_ n1_ n2_ n3_ n4_ n5_ n6_ n7_ n8_ n9_ n10_ n11_ n12_ n13_ n14_ n15_ n16_ n17_ n18_ n19_ n20_ n21_ n22_ n23_ n24_ n25_ n26_ n27_; clear hb hbox hg; have hnb108 := NB342_286.out; have hnc108 := NB286_342.out; have hnb109 := NB342_293.out; have hnc109 := NB293_342.out; have hnb110 := NB342_300.out; have hnc110 := NB300_342.out; have hnb111 := NB342_307.out; have hnc111 := NB307_342.out; have hnb112 := NB342_314.out; have hnc112 := NB314_342.out; have hnb113 := NB342_321.out; have hnc113 := NB321_342.out; have hnb114 := NB342_328.out; have hnc114 := NB328_342.out; have hnb115 := NB342_335.out; have hnc115 := NB335_342.out; have hcz116_0 : w107.cell? ⟨g342, 0, none⟩ = some (.int .i64 0) := bq_ B342 0; have hcz116_1 : w107.cell? ⟨g342, 1, none⟩ = some (.int .u64 0) := bq_ B342 1; have hcz116_2 : w107.cell? ⟨g342, 2, none⟩ = some (.int .u64 0) := bq_ B342 2; have hcz116_3 : w107.cell? ⟨g342, 3, none⟩ = some (.int .u64 0) := bq_ B342 3; have hcz116_4 : w107.cell? ⟨g342, 4, none⟩ = some (.int .u64 0) := bq_ B342 4; have hfz116_0 := blk_frozen B342.out 0; have hfz116_1 := blk_frozen B342.out 1; have hfz116_2 := blk_frozen B342.out 2; have hfz116_3 := blk_frozen B342.out 3; have hfz116_4 := blk_frozen B342.out 4; have hcz117_0 : w107.cell? ⟨g335, 0, none⟩ = some (.int .i64 t329) := bq_ B335 0; have hcz117_1 : w107.cell? ⟨g335, 1, none⟩ = some (.int .u64 t330) := bq_ B335 1; have hcz117_2 : w107.cell? ⟨g335, 2, none⟩ = some (.int .u64 t331) := bq_ B335 2; have hcz117_3 : w107.cell? ⟨g335, 3, none⟩ = some (.int .u64 t332) := bq_ B335 3; have hcz117_4 : w107.cell? ⟨g335, 4, none⟩ = some (.int .u64 t333) := bq_ B335 4; have hfz117_0 := blk_frozen B335.out 0; have hfz117_1 := blk_frozen B335.out 1; have hfz117_2 := blk_frozen B335.out 2; have hfz117_3 := blk_frozen B335.out 3; have hfz117_4 := blk_frozen B335.out 4))
          rw [rounds_succ]
          have H := HC87.out
          clear HC87
          replace H := Option.bind_eq_some_iff.mp H
          obtain ⟨⟨t343, t344, t345, t346, t347, t348⟩, A1180, H⟩ := H
          replace H : ((attestorref08_Position.f kj4 a0_0 a0_1 a0_2 a0_3 a0_4 24).bind fun bt350 => (if (!(t343 == bt350.1) || ((!(t344 == bt350.2.1) || (!(t345 == bt350.2.2.1) || (!(t346 == bt350.2.2.2.1) || (!(t347 == bt350.2.2.2.2.1))))))) = true then (none) else (if t348 = bt350.2.2.2.2.2 then ((attestorlaw08_lives.f kj4).bind fun t357 => (some t357)) else (none)))) = some r := H
          have A118 := Aside0.mk A1180
          clear A1180
          replace H := Option.bind_eq_some_iff.mp H
          obtain ⟨⟨t350, t351, t352, t353, t354, t355⟩, A1190, H⟩ := H
          replace H : (if (!(t343 == t350) || ((!(t344 == t351) || (!(t345 == t352) || (!(t346 == t353) || (!(t347 == t354))))))) = true then (none) else (if t348 = t355 then ((attestorlaw08_lives.f kj4).bind fun t357 => (some t357)) else (none))) = some r := H
          have A119 := Aside0.mk A1190
          clear A1190
          by_cases c120 : (!(t343 == t350) || ((!(t344 == t351) || (!(t345 == t352) || (!(t346 == t353) || (!(t347 == t354))))))) = true
          ·rw [if_pos c120] at H
           exact absurd H (by simp)
          ·rw [if_neg c120] at H
           have c120b0 : (!(t343 == t350) || ((!(t344 == t351) || (!(t345 == t352) || (!(t346 == t353) || (!(t347 == t354))))))) = false := by simpa using c120
           clear c120
           by_cases c121 : t348 = t355
           ·rw [if_pos c121] at H
            have c121b0 : (t348 == t355) = true := beq_iff_eq.mpr c121
            have c121b1 : (t348 != t355) = false := bne_eq_false_iff_eq.mpr c121
            clear c121
            have HC122 := Aside0.mk H
            clear H
            have hnb123 := NB286_293.out
            have hnc123 := NB293_286.out
            have hnb124 := NB286_300.out
            have hnc124 := NB300_286.out
            have hnb125 := NB286_307.out
            have hnc125 := NB307_286.out
            have hnb126 := NB286_314.out
            have hnc126 := NB314_286.out
            have hnb127 := NB286_321.out
            have hnc127 := NB321_286.out
            have hnb128 := NB286_328.out
            have hnc128 := NB328_286.out
            have hnb129 := NB286_335.out
            have hnc129 := NB335_286.out
            have hnb130 := NB286_342.out
            have hnc130 := NB342_286.out
            have hcz131_0 : w107.cell? ⟨g286, 0, none⟩ = some (.int .i64 a0_0) := bq_ B286 0
            have hcz131_1 : w107.cell? ⟨g286, 1, none⟩ = some (.int .u64 a0_1) := bq_ B286 1
            have hcz131_2 : w107.cell? ⟨g286, 2, none⟩ = some (.int .u64 a0_2) := bq_ B286 2
            have hcz131_3 : w107.cell? ⟨g286, 3, none⟩ = some (.int .u64 a0_3) := bq_ B286 3
            have hcz131_4 : w107.cell? ⟨g286, 4, none⟩ = some (.int .u64 a0_4) := bq_ B286 4
            have hfz131_0 := blk_frozen B286.out 0
            have hfz131_1 := blk_frozen B286.out 1
            have hfz131_2 := blk_frozen B286.out 2
            have hfz131_3 := blk_frozen B286.out 3
            have hfz131_4 := blk_frozen B286.out 4
            go_wp2_with (first | ((with_reducible refine gate_callee (f := 12) rfl ?_); refine goesL_ (some 41) rfl rfl Tryd.func12 (by kernel_rfl) rfl #[.agg #[.int .i64 a0_0, .int .u64 a0_1, .int .u64 a0_2, .int .u64 a0_3, .int .u64 a0_4], .int .i64 24] rfl (by (try simp only [List.map_toArray, List.map_cons, List.map_nil]); first | done | rfl) ?_; (with_reducible refine (channel_Position.calls kj4 a0_0 a0_1 a0_2 a0_3 a0_4 24 t343 t344 t345 t346 t347 t348 _ ?side1 A118.out).mono ?_); (case side1 => exact GL.below HRG.out (by repeat (first | (with_reducible first | exact HB.out | apply below_alloc | apply pw_below_drewN | apply below_drew1 | refine below_set ?_ GE286.out | refine below_set ?_ GE293.out | refine below_set ?_ GE300.out | refine below_set ?_ GE307.out | refine below_set ?_ GE314.out | refine below_set ?_ GE321.out | refine below_set ?_ GE328.out | refine below_set ?_ GE335.out | refine below_set ?_ GE342.out) | exact HB.out))); rintro e w132 ⟨rfl, hb⟩; refine ⟨_, rfl, ?_⟩; have n0_ := Aside0.mk (blk_below (g := g286) (o := .cells #[.int .i64 a0_0, .int .u64 a0_1, .int .u64 a0_2, .int .u64 a0_3, .int .u64 a0_4] 25 (0, 0)) (by refine blk_far ?_ NB286_342.out _; refine blk_far ?_ NB286_342.out _; refine blk_far ?_ NB286_342.out _; refine blk_far ?_ NB286_342.out _; refine blk_far ?_ NB286_342.out _; exact B286.out) hb); have n1_ := Aside0.mk (blk_below (g := g293) (o := .cells #[.int .i64 t287, .int .u64 t288, .int .u64 t289, .int .u64 t290, .int .u64 t291] 25 (0, 0)) (by refine blk_far ?_ NB293_342.out _; refine blk_far ?_ NB293_342.out _; refine blk_far ?_ NB293_342.out _; refine blk_far ?_ NB293_342.out _; refine blk_far ?_ NB293_342.out _; exact B293.out) hb); have n2_ := Aside0.mk (blk_below (g := g300) (o := .cells #[.int .i64 t294, .int .u64 t295, .int .u64 t296, .int .u64 t297, .int .u64 t298] 25 (0, 0)) (by refine blk_far ?_ NB300_342.out _; refine blk_far ?_ NB300_342.out _; refine blk_far ?_ NB300_342.out _; refine blk_far ?_ NB300_342.out _; refine blk_far ?_ NB300_342.out _; exact B300.out) hb); have n3_ := Aside0.mk (blk_below (g := g307) (o := .cells #[.int .i64 t301, .int .u64 t302, .int .u64 t303, .int .u64 t304, .int .u64 t305] 25 (0, 0)) (by refine blk_far ?_ NB307_342.out _; refine blk_far ?_ NB307_342.out _; refine blk_far ?_ NB307_342.out _; refine blk_far ?_ NB307_342.out _; refine blk_far ?_ NB307_342.out _; exact B307.out) hb); have n4_ := Aside0.mk (blk_below (g := g314) (o := .cells #[.int .i64 t308, .int .u64 t309, .int .u64 t310, .int .u64 t311, .int .u64 t312] 25 (0, 0)) (by refine blk_far ?_ NB314_342.out _; refine blk_far ?_ NB314_342.out _; refine blk_far ?_ NB314_342.out _; refine blk_far ?_ NB314_342.out _; refine blk_far ?_ NB314_342.out _; exact B314.out) hb); have n5_ := Aside0.mk (blk_below (g := g321) (o := .cells #[.int .i64 t315, .int .u64 t316, .int .u64 t317, .int .u64 t318, .int .u64 t319] 25 (0, 0)) (by refine blk_far ?_ NB321_342.out _; refine blk_far ?_ NB321_342.out _; refine blk_far ?_ NB321_342.out _; refine blk_far ?_ NB321_342.out _; refine blk_far ?_ NB321_342.out _; exact B321.out) hb); have n6_ := Aside0.mk (blk_below (g := g328) (o := .cells #[.int .i64 t322, .int .u64 t323, .int .u64 t324, .int .u64 t325, .int .u64 t326] 25 (0, 0)) (by refine blk_far ?_ NB328_342.out _; refine blk_far ?_ NB328_342.out _; refine blk_far ?_ NB328_342.out _; refine blk_far ?_ NB328_342.out _; refine blk_far ?_ NB328_342.out _; exact B328.out) hb); have n7_ := Aside0.mk (blk_below (g := g335) (o := .cells #[.int .i64 t329, .int .u64 t330, .int .u64 t331, .int .u64 t332, .int .u64 t333] 25 (0, 0)) (by refine blk_far ?_ NB335_342.out _; refine blk_far ?_ NB335_342.out _; refine blk_far ?_ NB335_342.out _; refine blk_far ?_ NB335_342.out _; refine blk_far ?_ NB335_342.out _; exact B335.out) hb); have n8_ := Aside0.mk (blk_below (g := g342) (o := .cells #[.int .i64 t336, .int .u64 t337, .int .u64 t338, .int .u64 t339, .int .u64 t340] 25 (0, 0)) (by refine blk_put (cs := #[.int .i64 t336, .int .u64 t337, .int .u64 t338, .int .u64 t339, .int .u64 0]) ?_ 4 _ rfl; refine blk_put (cs := #[.int .i64 t336, .int .u64 t337, .int .u64 t338, .int .u64 0, .int .u64 0]) ?_ 3 _ rfl; refine blk_put (cs := #[.int .i64 t336, .int .u64 t337, .int .u64 0, .int .u64 0, .int .u64 0]) ?_ 2 _ rfl; refine blk_put (cs := #[.int .i64 t336, .int .u64 0, .int .u64 0, .int .u64 0, .int .u64 0]) ?_ 1 _ rfl; refine blk_put (cs := #[.int .i64 0, .int .u64 0, .int .u64 0, .int .u64 0, .int .u64 0]) ?_ 0 _ rfl; exact B342.out) hb); have n9_ := Aside0.mk (below_step (by repeat (first | (with_reducible first | exact HB.out | apply below_alloc | apply pw_below_drewN | apply below_drew1 | refine below_set ?_ GE286.out | refine below_set ?_ GE293.out | refine below_set ?_ GE300.out | refine below_set ?_ GE307.out | refine below_set ?_ GE314.out | refine below_set ?_ GE321.out | refine below_set ?_ GE328.out | refine below_set ?_ GE335.out | refine below_set ?_ GE342.out) | exact HB.out)) hb); clear B286; clear B293; clear B300; clear B307; clear B314; clear B321; clear B328; clear B335; clear B342; clear HB; have B286 := n0_; have B293 := n1_; have B300 := n2_; have B307 := n3_; have B314 := n4_; have B321 := n5_; have B328 := n6_; have B335 := n7_; have B342 := n8_; have HB := n9_; clear n0_ n1_ n2_ n3_ n4_ n5_ n6_ n7_ n8_ n9_; (try clear hb); (try clear hb2); (try clear hk); (try clear hi)) | ((with_reducible refine gate_dst (N := 11) rfl ?_); refine box_event ?hg (N := 11) ?hd (cs := #[.int .i64 0, .int .u64 0, .int .u64 0, .int .u64 0, .int .u64 0]) (t := 25) ?hr ?_; (case hd => rfl); (case hg => rfl); (case hr => first | (go_simp; done) | (go_simp; rfl)); intro g349 hg w133 hbox hb; have n0_ := Aside0.mk (blk_below (g := g286) (o := .cells #[.int .i64 a0_0, .int .u64 a0_1, .int .u64 a0_2, .int .u64 a0_3, .int .u64 a0_4] 25 (0, 0)) (by exact B286.out) hb); have n1_ := Aside0.mk (blk_below (g := g293) (o := .cells #[.int .i64 t287, .int .u64 t288, .int .u64 t289, .int .u64 t290, .int .u64 t291] 25 (0, 0)) (by exact B293.out) hb); have n2_ := Aside0.mk (blk_below (g := g300) (o := .cells #[.int .i64 t294, .int .u64 t295, .int .u64 t296, .int .u64 t297, .int .u64 t298] 25 (0, 0)) (by exact B300.out) hb); have n3_ := Aside0.mk (blk_below (g := g307) (o := .cells #[.int .i64 t301, .int .u64 t302, .int .u64 t303, .int .u64 t304, .int .u64 t305] 25 (0, 0)) (by exact B307.out) hb); have n4_ := Aside0.mk (blk_below (g := g314) (o := .cells #[.int .i64 t308, .int .u64 t309, .int .u64 t310, .int .u64 t311, .int .u64 t312] 25 (0, 0)) (by exact B314.out) hb); have n5_ := Aside0.mk (blk_below (g := g321) (o := .cells #[.int .i64 t315, .int .u64 t316, .int .u64 t317, .int .u64 t318, .int .u64 t319] 25 (0, 0)) (by exact B321.out) hb); have n6_ := Aside0.mk (blk_below (g := g328) (o := .cells #[.int .i64 t322, .int .u64 t323, .int .u64 t324, .int .u64 t325, .int .u64 t326] 25 (0, 0)) (by exact B328.out) hb); have n7_ := Aside0.mk (blk_below (g := g335) (o := .cells #[.int .i64 t329, .int .u64 t330, .int .u64 t331, .int .u64 t332, .int .u64 t333] 25 (0, 0)) (by exact B335.out) hb); have n8_ := Aside0.mk (blk_below (g := g342) (o := .cells #[.int .i64 t336, .int .u64 t337, .int .u64 t338, .int .u64 t339, .int .u64 t340] 25 (0, 0)) (by exact B342.out) hb); have n9_ := Aside0.mk (below_step (by repeat (first | (with_reducible first | exact HB.out | apply below_alloc | apply pw_below_drewN | apply below_drew1 | refine below_set ?_ GE286.out | refine below_set ?_ GE293.out | refine below_set ?_ GE300.out | refine below_set ?_ GE307.out | refine below_set ?_ GE314.out | refine below_set ?_ GE321.out | refine below_set ?_ GE328.out | refine below_set ?_ GE335.out | refine below_set ?_ GE342.out) | exact HB.out)) hb); have n10_ := Aside0.mk (hbox); have n11_ := Aside0.mk ((by rw [hg]; exact (below_size (by repeat (first | (with_reducible first | exact HB.out | apply below_alloc | apply pw_below_drewN | apply below_drew1 | refine below_set ?_ GE286.out | refine below_set ?_ GE293.out | refine below_set ?_ GE300.out | refine below_set ?_ GE307.out | refine below_set ?_ GE314.out | refine below_set ?_ GE321.out | refine below_set ?_ GE328.out | refine below_set ?_ GE335.out | refine below_set ?_ GE342.out) | exact HB.out))) : w.heap.size ≤ g349)); have n12_ := Aside0.mk ((by rw [hg]; exact (below_size (by repeat (first | (with_reducible first | exact HB.out | apply below_alloc | apply pw_below_drewN | apply below_drew1 | refine below_set ?_ GE286.out | refine below_set ?_ GE293.out | refine below_set ?_ GE300.out | refine below_set ?_ GE307.out | refine below_set ?_ GE314.out | refine below_set ?_ GE321.out | refine below_set ?_ GE328.out | refine below_set ?_ GE335.out | refine below_set ?_ GE342.out) | exact HB.out))) : w.heap.size ≤ g349)); have n13_ := Aside0.mk ((by rw [hg]; exact Nat.ne_of_lt (blk_lt (g := g286) (o := .cells #[.int .i64 a0_0, .int .u64 a0_1, .int .u64 a0_2, .int .u64 a0_3, .int .u64 a0_4] 25 (0, 0)) (by exact B286.out)) : g286 ≠ g349)); have n14_ := Aside0.mk ((by rw [hg]; exact Nat.ne_of_gt (blk_lt (g := g286) (o := .cells #[.int .i64 a0_0, .int .u64 a0_1, .int .u64 a0_2, .int .u64 a0_3, .int .u64 a0_4] 25 (0, 0)) (by exact B286.out)) : g349 ≠ g286)); have n15_ := Aside0.mk ((by rw [hg]; exact Nat.ne_of_lt (blk_lt (g := g293) (o := .cells #[.int .i64 t287, .int .u64 t288, .int .u64 t289, .int .u64 t290, .int .u64 t291] 25 (0, 0)) (by exact B293.out)) : g293 ≠ g349)); have n16_ := Aside0.mk ((by rw [hg]; exact Nat.ne_of_gt (blk_lt (g := g293) (o := .cells #[.int .i64 t287, .int .u64 t288, .int .u64 t289, .int .u64 t290, .int .u64 t291] 25 (0, 0)) (by exact B293.out)) : g349 ≠ g293)); have n17_ := Aside0.mk ((by rw [hg]; exact Nat.ne_of_lt (blk_lt (g := g300) (o := .cells #[.int .i64 t294, .int .u64 t295, .int .u64 t296, .int .u64 t297, .int .u64 t298] 25 (0, 0)) (by exact B300.out)) : g300 ≠ g349)); have n18_ := Aside0.mk ((by rw [hg]; exact Nat.ne_of_gt (blk_lt (g := g300) (o := .cells #[.int .i64 t294, .int .u64 t295, .int .u64 t296, .int .u64 t297, .int .u64 t298] 25 (0, 0)) (by exact B300.out)) : g349 ≠ g300)); have n19_ := Aside0.mk ((by rw [hg]; exact Nat.ne_of_lt (blk_lt (g := g307) (o := .cells #[.int .i64 t301, .int .u64 t302, .int .u64 t303, .int .u64 t304, .int .u64 t305] 25 (0, 0)) (by exact B307.out)) : g307 ≠ g349)); have n20_ := Aside0.mk ((by rw [hg]; exact Nat.ne_of_gt (blk_lt (g := g307) (o := .cells #[.int .i64 t301, .int .u64 t302, .int .u64 t303, .int .u64 t304, .int .u64 t305] 25 (0, 0)) (by exact B307.out)) : g349 ≠ g307)); have n21_ := Aside0.mk ((by rw [hg]; exact Nat.ne_of_lt (blk_lt (g := g314) (o := .cells #[.int .i64 t308, .int .u64 t309, .int .u64 t310, .int .u64 t311, .int .u64 t312] 25 (0, 0)) (by exact B314.out)) : g314 ≠ g349)); have n22_ := Aside0.mk ((by rw [hg]; exact Nat.ne_of_gt (blk_lt (g := g314) (o := .cells #[.int .i64 t308, .int .u64 t309, .int .u64 t310, .int .u64 t311, .int .u64 t312] 25 (0, 0)) (by exact B314.out)) : g349 ≠ g314)); have n23_ := Aside0.mk ((by rw [hg]; exact Nat.ne_of_lt (blk_lt (g := g321) (o := .cells #[.int .i64 t315, .int .u64 t316, .int .u64 t317, .int .u64 t318, .int .u64 t319] 25 (0, 0)) (by exact B321.out)) : g321 ≠ g349)); have n24_ := Aside0.mk ((by rw [hg]; exact Nat.ne_of_gt (blk_lt (g := g321) (o := .cells #[.int .i64 t315, .int .u64 t316, .int .u64 t317, .int .u64 t318, .int .u64 t319] 25 (0, 0)) (by exact B321.out)) : g349 ≠ g321)); have n25_ := Aside0.mk ((by rw [hg]; exact Nat.ne_of_lt (blk_lt (g := g328) (o := .cells #[.int .i64 t322, .int .u64 t323, .int .u64 t324, .int .u64 t325, .int .u64 t326] 25 (0, 0)) (by exact B328.out)) : g328 ≠ g349)); have n26_ := Aside0.mk ((by rw [hg]; exact Nat.ne_of_gt (blk_lt (g := g328) (o := .cells #[.int .i64 t322, .int .u64 t323, .int .u64 t324, .int .u64 t325, .int .u64 t326] 25 (0, 0)) (by exact B328.out)) : g349 ≠ g328)); have n27_ := Aside0.mk ((by rw [hg]; exact Nat.ne_of_lt (blk_lt (g := g335) (o := .cells #[.int .i64 t329, .int .u64 t330, .int .u64 t331, .int .u64 t332, .int .u64 t333] 25 (0, 0)) (by exact B335.out)) : g335 ≠ g349)); have n28_ := Aside0.mk ((by rw [hg]; exact Nat.ne_of_gt (blk_lt (g := g335) (o := .cells #[.int .i64 t329, .int .u64 t330, .int .u64 t331, .int .u64 t332, .int .u64 t333] 25 (0, 0)) (by exact B335.out)) : g349 ≠ g335)); have n29_ := Aside0.mk ((by rw [hg]; exact Nat.ne_of_lt (blk_lt (g := g342) (o := .cells #[.int .i64 t336, .int .u64 t337, .int .u64 t338, .int .u64 t339, .int .u64 t340] 25 (0, 0)) (by exact B342.out)) : g342 ≠ g349)); have n30_ := Aside0.mk ((by rw [hg]; exact Nat.ne_of_gt (blk_lt (g := g342) (o := .cells #[.int .i64 t336, .int .u64 t337, .int .u64 t338, .int .u64 t339, .int .u64 t340] 25 (0, 0)) (by exact B342.out)) : g349 ≠ g342)); clear B286; clear B293; clear B300; clear B307; clear B314; clear B321; clear B328; clear B335; clear B342; clear HB; have B286 := n0_; have B293 := n1_; have B300 := n2_; have B307 := n3_; have B314 := n4_; have B321 := n5_; have B328 := n6_; have B335 := n7_; have B342 := n8_; have HB := n9_; have B349 := n10_; have GW349 := n11_; have GE349 := n12_; have NB286_349 := n13_; have NB349_286 := n14_; have NB293_349 := n15_; have NB349_293 := n16_; have NB300_349 := n17_; have NB349_300 := n18_; have NB307_349 := n19_; have NB349_307 := n20_; have NB314_349 := n21_; have NB349_314 := n22_; have NB321_349 := n23_; have NB349_321 := n24_; have NB328_349 := n25_; have NB349_328 := n26_; have NB335_349 := n27_; have NB349_335 := n28_; have NB342_349 := n29_; have NB349_342 := n30_; clear n0_ n1_ n2_ n3_ n4_ n5_ n6_ n7_ n8_ n9_ n10_ n11_ n12_ n13_ n14_ n15_ n16_ n17_ n18_ n19_ n20_ n21_ n22_ n23_ n24_ n25_ n26_ n27_ n28_ n29_ n30_; clear hb hbox hg; have hnb134 := NB349_286.out; have hnc134 := NB286_349.out; have hnb135 := NB349_293.out; have hnc135 := NB293_349.out; have hnb136 := NB349_300.out; have hnc136 := NB300_349.out; have hnb137 := NB349_307.out; have hnc137 := NB307_349.out; have hnb138 := NB349_314.out; have hnc138 := NB314_349.out; have hnb139 := NB349_321.out; have hnc139 := NB321_349.out; have hnb140 := NB349_328.out; have hnc140 := NB328_349.out; have hnb141 := NB349_335.out; have hnc141 := NB335_349.out; have hnb142 := NB349_342.out; have hnc142 := NB342_349.out; have hcz143_0 : w133.cell? ⟨g349, 0, none⟩ = some (.int .i64 0) := bq_ B349 0; have hcz143_1 : w133.cell? ⟨g349, 1, none⟩ = some (.int .u64 0) := bq_ B349 1; have hcz143_2 : w133.cell? ⟨g349, 2, none⟩ = some (.int .u64 0) := bq_ B349 2; have hcz143_3 : w133.cell? ⟨g349, 3, none⟩ = some (.int .u64 0) := bq_ B349 3; have hcz143_4 : w133.cell? ⟨g349, 4, none⟩ = some (.int .u64 0) := bq_ B349 4; have hfz143_0 := blk_frozen B349.out 0; have hfz143_1 := blk_frozen B349.out 1; have hfz143_2 := blk_frozen B349.out 2; have hfz143_3 := blk_frozen B349.out 3; have hfz143_4 := blk_frozen B349.out 4; have hcz144_0 : w133.cell? ⟨g286, 0, none⟩ = some (.int .i64 a0_0) := bq_ B286 0; have hcz144_1 : w133.cell? ⟨g286, 1, none⟩ = some (.int .u64 a0_1) := bq_ B286 1; have hcz144_2 : w133.cell? ⟨g286, 2, none⟩ = some (.int .u64 a0_2) := bq_ B286 2; have hcz144_3 : w133.cell? ⟨g286, 3, none⟩ = some (.int .u64 a0_3) := bq_ B286 3; have hcz144_4 : w133.cell? ⟨g286, 4, none⟩ = some (.int .u64 a0_4) := bq_ B286 4; have hfz144_0 := blk_frozen B286.out 0; have hfz144_1 := blk_frozen B286.out 1; have hfz144_2 := blk_frozen B286.out 2; have hfz144_3 := blk_frozen B286.out 3; have hfz144_4 := blk_frozen B286.out 4) | ((with_reducible refine gate_callee (f := 13) rfl ?_); refine goesL_ (some 47) rfl rfl Tryd.func13 (by kernel_rfl) rfl #[.agg #[.int .i64 a0_0, .int .u64 a0_1, .int .u64 a0_2, .int .u64 a0_3, .int .u64 a0_4], .int .i64 24] rfl (by (try simp only [List.map_toArray, List.map_cons, List.map_nil]); first | done | rfl) ?_; (with_reducible refine (attestorref08_Position.calls kj4 a0_0 a0_1 a0_2 a0_3 a0_4 24 t350 t351 t352 t353 t354 t355 _ A119.out).mono ?_); rintro e w145 ⟨rfl, hb⟩; refine ⟨_, rfl, ?_⟩; have n0_ := Aside0.mk (blk_below (g := g286) (o := .cells #[.int .i64 a0_0, .int .u64 a0_1, .int .u64 a0_2, .int .u64 a0_3, .int .u64 a0_4] 25 (0, 0)) (by refine blk_far ?_ NB286_349.out _; refine blk_far ?_ NB286_349.out _; refine blk_far ?_ NB286_349.out _; refine blk_far ?_ NB286_349.out _; refine blk_far ?_ NB286_349.out _; exact B286.out) hb); have n1_ := Aside0.mk (blk_below (g := g293) (o := .cells #[.int .i64 t287, .int .u64 t288, .int .u64 t289, .int .u64 t290, .int .u64 t291] 25 (0, 0)) (by refine blk_far ?_ NB293_349.out _; refine blk_far ?_ NB293_349.out _; refine blk_far ?_ NB293_349.out _; refine blk_far ?_ NB293_349.out _; refine blk_far ?_ NB293_349.out _; exact B293.out) hb); have n2_ := Aside0.mk (blk_below (g := g300) (o := .cells #[.int .i64 t294, .int .u64 t295, .int .u64 t296, .int .u64 t297, .int .u64 t298] 25 (0, 0)) (by refine blk_far ?_ NB300_349.out _; refine blk_far ?_ NB300_349.out _; refine blk_far ?_ NB300_349.out _; refine blk_far ?_ NB300_349.out _; refine blk_far ?_ NB300_349.out _; exact B300.out) hb); have n3_ := Aside0.mk (blk_below (g := g307) (o := .cells #[.int .i64 t301, .int .u64 t302, .int .u64 t303, .int .u64 t304, .int .u64 t305] 25 (0, 0)) (by refine blk_far ?_ NB307_349.out _; refine blk_far ?_ NB307_349.out _; refine blk_far ?_ NB307_349.out _; refine blk_far ?_ NB307_349.out _; refine blk_far ?_ NB307_349.out _; exact B307.out) hb); have n4_ := Aside0.mk (blk_below (g := g314) (o := .cells #[.int .i64 t308, .int .u64 t309, .int .u64 t310, .int .u64 t311, .int .u64 t312] 25 (0, 0)) (by refine blk_far ?_ NB314_349.out _; refine blk_far ?_ NB314_349.out _; refine blk_far ?_ NB314_349.out _; refine blk_far ?_ NB314_349.out _; refine blk_far ?_ NB314_349.out _; exact B314.out) hb); have n5_ := Aside0.mk (blk_below (g := g321) (o := .cells #[.int .i64 t315, .int .u64 t316, .int .u64 t317, .int .u64 t318, .int .u64 t319] 25 (0, 0)) (by refine blk_far ?_ NB321_349.out _; refine blk_far ?_ NB321_349.out _; refine blk_far ?_ NB321_349.out _; refine blk_far ?_ NB321_349.out _; refine blk_far ?_ NB321_349.out _; exact B321.out) hb); have n6_ := Aside0.mk (blk_below (g := g328) (o := .cells #[.int .i64 t322, .int .u64 t323, .int .u64 t324, .int .u64 t325, .int .u64 t326] 25 (0, 0)) (by refine blk_far ?_ NB328_349.out _; refine blk_far ?_ NB328_349.out _; refine blk_far ?_ NB328_349.out _; refine blk_far ?_ NB328_349.out _; refine blk_far ?_ NB328_349.out _; exact B328.out) hb); have n7_ := Aside0.mk (blk_below (g := g335) (o := .cells #[.int .i64 t329, .int .u64 t330, .int .u64 t331, .int .u64 t332, .int .u64 t333] 25 (0, 0)) (by refine blk_far ?_ NB335_349.out _; refine blk_far ?_ NB335_349.out _; refine blk_far ?_ NB335_349.out _; refine blk_far ?_ NB335_349.out _; refine blk_far ?_ NB335_349.out _; exact B335.out) hb); have n8_ := Aside0.mk (blk_below (g := g342) (o := .cells #[.int .i64 t336, .int .u64 t337, .int .u64 t338, .int .u64 t339, .int .u64 t340] 25 (0, 0)) (by refine blk_far ?_ NB342_349.out _; refine blk_far ?_ NB342_349.out _; refine blk_far ?_ NB342_349.out _; refine blk_far ?_ NB342_349.out _; refine blk_far ?_ NB342_349.out _; exact B342.out) hb); have n9_ := Aside0.mk (blk_below (g := g349) (o := .cells #[.int .i64 t343, .int .u64 t344, .int .u64 t345, .int .u64 t346, .int .u64 t347] 25 (0, 0)) (by refine blk_put (cs := #[.int .i64 t343, .int .u64 t344, .int .u64 t345, .int .u64 t346, .int .u64 0]) ?_ 4 _ rfl; refine blk_put (cs := #[.int .i64 t343, .int .u64 t344, .int .u64 t345, .int .u64 0, .int .u64 0]) ?_ 3 _ rfl; refine blk_put (cs := #[.int .i64 t343, .int .u64 t344, .int .u64 0, .int .u64 0, .int .u64 0]) ?_ 2 _ rfl; refine blk_put (cs := #[.int .i64 t343, .int .u64 0, .int .u64 0, .int .u64 0, .int .u64 0]) ?_ 1 _ rfl; refine blk_put (cs := #[.int .i64 0, .int .u64 0, .int .u64 0, .int .u64 0, .int .u64 0]) ?_ 0 _ rfl; exact B349.out) hb); have n10_ := Aside0.mk (below_step (by repeat (first | (with_reducible first | exact HB.out | apply below_alloc | apply pw_below_drewN | apply below_drew1 | refine below_set ?_ GE286.out | refine below_set ?_ GE293.out | refine below_set ?_ GE300.out | refine below_set ?_ GE307.out | refine below_set ?_ GE314.out | refine below_set ?_ GE321.out | refine below_set ?_ GE328.out | refine below_set ?_ GE335.out | refine below_set ?_ GE342.out | refine below_set ?_ GE349.out) | exact HB.out)) hb); clear B286; clear B293; clear B300; clear B307; clear B314; clear B321; clear B328; clear B335; clear B342; clear B349; clear HB; have B286 := n0_; have B293 := n1_; have B300 := n2_; have B307 := n3_; have B314 := n4_; have B321 := n5_; have B328 := n6_; have B335 := n7_; have B342 := n8_; have B349 := n9_; have HB := n10_; clear n0_ n1_ n2_ n3_ n4_ n5_ n6_ n7_ n8_ n9_ n10_; (try clear hb); (try clear hb2); (try clear hk); (try clear hi)) | ((with_reducible refine gate_dst (N := 13) rfl ?_); refine box_event ?hg (N := 13) ?hd (cs := #[.int .i64 0, .int .u64 0, .int .u64 0, .int .u64 0, .int .u64 0]) (t := 25) ?hr ?_; (case hd => rfl); (case hg => rfl); (case hr => first | (go_simp; done) | (go_simp; rfl)); intro g356 hg w146 hbox hb; have n0_ := Aside0.mk (blk_below (g := g286) (o := .cells #[.int .i64 a0_0, .int .u64 a0_1, .int .u64 a0_2, .int .u64 a0_3, .int .u64 a0_4] 25 (0, 0)) (by exact B286.out) hb); have n1_ := Aside0.mk (blk_below (g := g293) (o := .cells #[.int .i64 t287, .int .u64 t288, .int .u64 t289, .int .u64 t290, .int .u64 t291] 25 (0, 0)) (by exact B293.out) hb); have n2_ := Aside0.mk (blk_below (g := g300) (o := .cells #[.int .i64 t294, .int .u64 t295, .int .u64 t296, .int .u64 t297, .int .u64 t298] 25 (0, 0)) (by exact B300.out) hb); have n3_ := Aside0.mk (blk_below (g := g307) (o := .cells #[.int .i64 t301, .int .u64 t302, .int .u64 t303, .int .u64 t304, .int .u64 t305] 25 (0, 0)) (by exact B307.out) hb); have n4_ := Aside0.mk (blk_below (g := g314) (o := .cells #[.int .i64 t308, .int .u64 t309, .int .u64 t310, .int .u64 t311, .int .u64 t312] 25 (0, 0)) (by exact B314.out) hb); have n5_ := Aside0.mk (blk_below (g := g321) (o := .cells #[.int .i64 t315, .int .u64 t316, .int .u64 t317, .int .u64 t318, .int .u64 t319] 25 (0, 0)) (by exact B321.out) hb); have n6_ := Aside0.mk (blk_below (g := g328) (o := .cells #[.int .i64 t322, .int .u64 t323, .int .u64 t324, .int .u64 t325, .int .u64 t326] 25 (0, 0)) (by exact B328.out) hb); have n7_ := Aside0.mk (blk_below (g := g335) (o := .cells #[.int .i64 t329, .int .u64 t330, .int .u64 t331, .int .u64 t332, .int .u64 t333] 25 (0, 0)) (by exact B335.out) hb); have n8_ := Aside0.mk (blk_below (g := g342) (o := .cells #[.int .i64 t336, .int .u64 t337, .int .u64 t338, .int .u64 t339, .int .u64 t340] 25 (0, 0)) (by exact B342.out) hb); have n9_ := Aside0.mk (blk_below (g := g349) (o := .cells #[.int .i64 t343, .int .u64 t344, .int .u64 t345, .int .u64 t346, .int .u64 t347] 25 (0, 0)) (by exact B349.out) hb); have n10_ := Aside0.mk (below_step (by repeat (first | (with_reducible first | exact HB.out | apply below_alloc | apply pw_below_drewN | apply below_drew1 | refine below_set ?_ GE286.out | refine below_set ?_ GE293.out | refine below_set ?_ GE300.out | refine below_set ?_ GE307.out | refine below_set ?_ GE314.out | refine below_set ?_ GE321.out | refine below_set ?_ GE328.out | refine below_set ?_ GE335.out | refine below_set ?_ GE342.out | refine below_set ?_ GE349.out) | exact HB.out)) hb); have n11_ := Aside0.mk (hbox); have n12_ := Aside0.mk ((by rw [hg]; exact (below_size (by repeat (first | (with_reducible first | exact HB.out | apply below_alloc | apply pw_below_drewN | apply below_drew1 | refine below_set ?_ GE286.out | refine below_set ?_ GE293.out | refine below_set ?_ GE300.out | refine below_set ?_ GE307.out | refine below_set ?_ GE314.out | refine below_set ?_ GE321.out | refine below_set ?_ GE328.out | refine below_set ?_ GE335.out | refine below_set ?_ GE342.out | refine below_set ?_ GE349.out) | exact HB.out))) : w.heap.size ≤ g356)); have n13_ := Aside0.mk ((by rw [hg]; exact (below_size (by repeat (first | (with_reducible first | exact HB.out | apply below_alloc | apply pw_below_drewN | apply below_drew1 | refine below_set ?_ GE286.out | refine below_set ?_ GE293.out | refine below_set ?_ GE300.out | refine below_set ?_ GE307.out | refine below_set ?_ GE314.out | refine below_set ?_ GE321.out | refine below_set ?_ GE328.out | refine below_set ?_ GE335.out | refine below_set ?_ GE342.out | refine below_set ?_ GE349.out) | exact HB.out))) : w.heap.size ≤ g356)); have n14_ := Aside0.mk ((by rw [hg]; exact Nat.ne_of_lt (blk_lt (g := g286) (o := .cells #[.int .i64 a0_0, .int .u64 a0_1, .int .u64 a0_2, .int .u64 a0_3, .int .u64 a0_4] 25 (0, 0)) (by exact B286.out)) : g286 ≠ g356)); have n15_ := Aside0.mk ((by rw [hg]; exact Nat.ne_of_gt (blk_lt (g := g286) (o := .cells #[.int .i64 a0_0, .int .u64 a0_1, .int .u64 a0_2, .int .u64 a0_3, .int .u64 a0_4] 25 (0, 0)) (by exact B286.out)) : g356 ≠ g286)); have n16_ := Aside0.mk ((by rw [hg]; exact Nat.ne_of_lt (blk_lt (g := g293) (o := .cells #[.int .i64 t287, .int .u64 t288, .int .u64 t289, .int .u64 t290, .int .u64 t291] 25 (0, 0)) (by exact B293.out)) : g293 ≠ g356)); have n17_ := Aside0.mk ((by rw [hg]; exact Nat.ne_of_gt (blk_lt (g := g293) (o := .cells #[.int .i64 t287, .int .u64 t288, .int .u64 t289, .int .u64 t290, .int .u64 t291] 25 (0, 0)) (by exact B293.out)) : g356 ≠ g293)); have n18_ := Aside0.mk ((by rw [hg]; exact Nat.ne_of_lt (blk_lt (g := g300) (o := .cells #[.int .i64 t294, .int .u64 t295, .int .u64 t296, .int .u64 t297, .int .u64 t298] 25 (0, 0)) (by exact B300.out)) : g300 ≠ g356)); have n19_ := Aside0.mk ((by rw [hg]; exact Nat.ne_of_gt (blk_lt (g := g300) (o := .cells #[.int .i64 t294, .int .u64 t295, .int .u64 t296, .int .u64 t297, .int .u64 t298] 25 (0, 0)) (by exact B300.out)) : g356 ≠ g300)); have n20_ := Aside0.mk ((by rw [hg]; exact Nat.ne_of_lt (blk_lt (g := g307) (o := .cells #[.int .i64 t301, .int .u64 t302, .int .u64 t303, .int .u64 t304, .int .u64 t305] 25 (0, 0)) (by exact B307.out)) : g307 ≠ g356)); have n21_ := Aside0.mk ((by rw [hg]; exact Nat.ne_of_gt (blk_lt (g := g307) (o := .cells #[.int .i64 t301, .int .u64 t302, .int .u64 t303, .int .u64 t304, .int .u64 t305] 25 (0, 0)) (by exact B307.out)) : g356 ≠ g307)); have n22_ := Aside0.mk ((by rw [hg]; exact Nat.ne_of_lt (blk_lt (g := g314) (o := .cells #[.int .i64 t308, .int .u64 t309, .int .u64 t310, .int .u64 t311, .int .u64 t312] 25 (0, 0)) (by exact B314.out)) : g314 ≠ g356)); have n23_ := Aside0.mk ((by rw [hg]; exact Nat.ne_of_gt (blk_lt (g := g314) (o := .cells #[.int .i64 t308, .int .u64 t309, .int .u64 t310, .int .u64 t311, .int .u64 t312] 25 (0, 0)) (by exact B314.out)) : g356 ≠ g314)); have n24_ := Aside0.mk ((by rw [hg]; exact Nat.ne_of_lt (blk_lt (g := g321) (o := .cells #[.int .i64 t315, .int .u64 t316, .int .u64 t317, .int .u64 t318, .int .u64 t319] 25 (0, 0)) (by exact B321.out)) : g321 ≠ g356)); have n25_ := Aside0.mk ((by rw [hg]; exact Nat.ne_of_gt (blk_lt (g := g321) (o := .cells #[.int .i64 t315, .int .u64 t316, .int .u64 t317, .int .u64 t318, .int .u64 t319] 25 (0, 0)) (by exact B321.out)) : g356 ≠ g321)); have n26_ := Aside0.mk ((by rw [hg]; exact Nat.ne_of_lt (blk_lt (g := g328) (o := .cells #[.int .i64 t322, .int .u64 t323, .int .u64 t324, .int .u64 t325, .int .u64 t326] 25 (0, 0)) (by exact B328.out)) : g328 ≠ g356)); have n27_ := Aside0.mk ((by rw [hg]; exact Nat.ne_of_gt (blk_lt (g := g328) (o := .cells #[.int .i64 t322, .int .u64 t323, .int .u64 t324, .int .u64 t325, .int .u64 t326] 25 (0, 0)) (by exact B328.out)) : g356 ≠ g328)); have n28_ := Aside0.mk ((by rw [hg]; exact Nat.ne_of_lt (blk_lt (g := g335) (o := .cells #[.int .i64 t329, .int .u64 t330, .int .u64 t331, .int .u64 t332, .int .u64 t333] 25 (0, 0)) (by exact B335.out)) : g335 ≠ g356)); have n29_ := Aside0.mk ((by rw [hg]; exact Nat.ne_of_gt (blk_lt (g := g335) (o := .cells #[.int .i64 t329, .int .u64 t330, .int .u64 t331, .int .u64 t332, .int .u64 t333] 25 (0, 0)) (by exact B335.out)) : g356 ≠ g335)); have n30_ := Aside0.mk ((by rw [hg]; exact Nat.ne_of_lt (blk_lt (g := g342) (o := .cells #[.int .i64 t336, .int .u64 t337, .int .u64 t338, .int .u64 t339, .int .u64 t340] 25 (0, 0)) (by exact B342.out)) : g342 ≠ g356)); have n31_ := Aside0.mk ((by rw [hg]; exact Nat.ne_of_gt (blk_lt (g := g342) (o := .cells #[.int .i64 t336, .int .u64 t337, .int .u64 t338, .int .u64 t339, .int .u64 t340] 25 (0, 0)) (by exact B342.out)) : g356 ≠ g342)); have n32_ := Aside0.mk ((by rw [hg]; exact Nat.ne_of_lt (blk_lt (g := g349) (o := .cells #[.int .i64 t343, .int .u64 t344, .int .u64 t345, .int .u64 t346, .int .u64 t347] 25 (0, 0)) (by exact B349.out)) : g349 ≠ g356)); have n33_ := Aside0.mk ((by rw [hg]; exact Nat.ne_of_gt (blk_lt (g := g349) (o := .cells #[.int .i64 t343, .int .u64 t344, .int .u64 t345, .int .u64 t346, .int .u64 t347] 25 (0, 0)) (by exact B349.out)) : g356 ≠ g349)); clear B286; clear B293; clear B300; clear B307; clear B314; clear B321; clear B328; clear B335; clear B342; clear B349; clear HB; have B286 := n0_; have B293 := n1_; have B300 := n2_; have B307 := n3_; have B314 := n4_; have B321 := n5_; have B328 := n6_; have B335 := n7_; have B342 := n8_; have B349 := n9_; have HB := n10_; have B356 := n11_; have GW356 := n12_; have GE356 := n13_; have NB286_356 := n14_; have NB356_286 := n15_; have NB293_356 := n16_; have NB356_293 := n17_; have NB300_356 := n18_; have NB356_300 := n19_; have NB307_356 := n20_; have NB356_307 := n21_; have NB314_356 := n22_; have NB356_314 := n23_; have NB321_356 := n24_; have NB356_321 := n25_; have NB328_356 := n26_; have NB356_328 := n27_; have NB335_356 := n28_; have NB356_335 := n29_; have NB342_356 := n30_; have NB356_342 := n31_; have NB349_356 := n32_; have NB356_349 := n33_; clear n0_ n1_ n2_ n3_ n4_ n5_ n6_ n7_ n8_ n9_ n10_ n11_ n12_ n13_ n14_ n15_ n16_ n17_ n18_ n19_ n20_ n21_ n22_ n23_ n24_ n25_ n26_ n27_ n28_ n29_ n30_ n31_ n32_ n33_; clear hb hbox hg; have hnb147 := NB356_286.out; have hnc147 := NB286_356.out; have hnb148 := NB356_293.out; have hnc148 := NB293_356.out; have hnb149 := NB356_300.out; have hnc149 := NB300_356.out; have hnb150 := NB356_307.out; have hnc150 := NB307_356.out; have hnb151 := NB356_314.out; have hnc151 := NB314_356.out; have hnb152 := NB356_321.out; have hnc152 := NB321_356.out; have hnb153 := NB356_328.out; have hnc153 := NB328_356.out; have hnb154 := NB356_335.out; have hnc154 := NB335_356.out; have hnb155 := NB356_342.out; have hnc155 := NB342_356.out; have hnb156 := NB356_349.out; have hnc156 := NB349_356.out; have hcz157_0 : w146.cell? ⟨g356, 0, none⟩ = some (.int .i64 0) := bq_ B356 0; have hcz157_1 : w146.cell? ⟨g356, 1, none⟩ = some (.int .u64 0) := bq_ B356 1; have hcz157_2 : w146.cell? ⟨g356, 2, none⟩ = some (.int .u64 0) := bq_ B356 2; have hcz157_3 : w146.cell? ⟨g356, 3, none⟩ = some (.int .u64 0) := bq_ B356 3; have hcz157_4 : w146.cell? ⟨g356, 4, none⟩ = some (.int .u64 0) := bq_ B356 4; have hfz157_0 := blk_frozen B356.out 0; have hfz157_1 := blk_frozen B356.out 1; have hfz157_2 := blk_frozen B356.out 2; have hfz157_3 := blk_frozen B356.out 3; have hfz157_4 := blk_frozen B356.out 4; have hcz158_0 : w146.cell? ⟨g349, 0, none⟩ = some (.int .i64 t343) := bq_ B349 0; have hcz158_1 : w146.cell? ⟨g349, 1, none⟩ = some (.int .u64 t344) := bq_ B349 1; have hcz158_2 : w146.cell? ⟨g349, 2, none⟩ = some (.int .u64 t345) := bq_ B349 2; have hcz158_3 : w146.cell? ⟨g349, 3, none⟩ = some (.int .u64 t346) := bq_ B349 3; have hcz158_4 : w146.cell? ⟨g349, 4, none⟩ = some (.int .u64 t347) := bq_ B349 4; have hfz158_0 := blk_frozen B349.out 0; have hfz158_1 := blk_frozen B349.out 1; have hfz158_2 := blk_frozen B349.out 2; have hfz158_3 := blk_frozen B349.out 3; have hfz158_4 := blk_frozen B349.out 4))
            rw [rounds_succ]
            have H := HC122.out
            clear HC122
            replace H := Option.bind_eq_some_iff.mp H
            obtain ⟨t357, A1590, H⟩ := H
            have A159 := Aside0.mk A1590
            clear A1590
            obtain rfl := Option.some.inj H
            go_wp2_with (first | ((with_reducible refine gate_callee (f := 14) rfl ?_); refine goesL_ (some 59) rfl rfl Tryd.func14 (by kernel_rfl) rfl #[] rfl (by (try simp only [List.map_toArray, List.map_cons, List.map_nil]); first | done | rfl) ?_; (with_reducible refine (attestorlaw08_lives.calls kj4  t357 _ ?side1 A159.out).mono ?_); (case side1 => exact GL.below HRG.out (by repeat (first | (with_reducible first | exact HB.out | apply below_alloc | apply pw_below_drewN | apply below_drew1 | refine below_set ?_ GE286.out | refine below_set ?_ GE293.out | refine below_set ?_ GE300.out | refine below_set ?_ GE307.out | refine below_set ?_ GE314.out | refine below_set ?_ GE321.out | refine below_set ?_ GE328.out | refine below_set ?_ GE335.out | refine below_set ?_ GE342.out | refine below_set ?_ GE349.out | refine below_set ?_ GE356.out) | exact HB.out))); rintro e w160 ⟨rfl, hb⟩; refine ⟨_, rfl, ?_⟩; have n0_ := Aside0.mk (blk_below (g := g286) (o := .cells #[.int .i64 a0_0, .int .u64 a0_1, .int .u64 a0_2, .int .u64 a0_3, .int .u64 a0_4] 25 (0, 0)) (by refine blk_far ?_ NB286_356.out _; refine blk_far ?_ NB286_356.out _; refine blk_far ?_ NB286_356.out _; refine blk_far ?_ NB286_356.out _; refine blk_far ?_ NB286_356.out _; exact B286.out) hb); have n1_ := Aside0.mk (blk_below (g := g293) (o := .cells #[.int .i64 t287, .int .u64 t288, .int .u64 t289, .int .u64 t290, .int .u64 t291] 25 (0, 0)) (by refine blk_far ?_ NB293_356.out _; refine blk_far ?_ NB293_356.out _; refine blk_far ?_ NB293_356.out _; refine blk_far ?_ NB293_356.out _; refine blk_far ?_ NB293_356.out _; exact B293.out) hb); have n2_ := Aside0.mk (blk_below (g := g300) (o := .cells #[.int .i64 t294, .int .u64 t295, .int .u64 t296, .int .u64 t297, .int .u64 t298] 25 (0, 0)) (by refine blk_far ?_ NB300_356.out _; refine blk_far ?_ NB300_356.out _; refine blk_far ?_ NB300_356.out _; refine blk_far ?_ NB300_356.out _; refine blk_far ?_ NB300_356.out _; exact B300.out) hb); have n3_ := Aside0.mk (blk_below (g := g307) (o := .cells #[.int .i64 t301, .int .u64 t302, .int .u64 t303, .int .u64 t304, .int .u64 t305] 25 (0, 0)) (by refine blk_far ?_ NB307_356.out _; refine blk_far ?_ NB307_356.out _; refine blk_far ?_ NB307_356.out _; refine blk_far ?_ NB307_356.out _; refine blk_far ?_ NB307_356.out _; exact B307.out) hb); have n4_ := Aside0.mk (blk_below (g := g314) (o := .cells #[.int .i64 t308, .int .u64 t309, .int .u64 t310, .int .u64 t311, .int .u64 t312] 25 (0, 0)) (by refine blk_far ?_ NB314_356.out _; refine blk_far ?_ NB314_356.out _; refine blk_far ?_ NB314_356.out _; refine blk_far ?_ NB314_356.out _; refine blk_far ?_ NB314_356.out _; exact B314.out) hb); have n5_ := Aside0.mk (blk_below (g := g321) (o := .cells #[.int .i64 t315, .int .u64 t316, .int .u64 t317, .int .u64 t318, .int .u64 t319] 25 (0, 0)) (by refine blk_far ?_ NB321_356.out _; refine blk_far ?_ NB321_356.out _; refine blk_far ?_ NB321_356.out _; refine blk_far ?_ NB321_356.out _; refine blk_far ?_ NB321_356.out _; exact B321.out) hb); have n6_ := Aside0.mk (blk_below (g := g328) (o := .cells #[.int .i64 t322, .int .u64 t323, .int .u64 t324, .int .u64 t325, .int .u64 t326] 25 (0, 0)) (by refine blk_far ?_ NB328_356.out _; refine blk_far ?_ NB328_356.out _; refine blk_far ?_ NB328_356.out _; refine blk_far ?_ NB328_356.out _; refine blk_far ?_ NB328_356.out _; exact B328.out) hb); have n7_ := Aside0.mk (blk_below (g := g335) (o := .cells #[.int .i64 t329, .int .u64 t330, .int .u64 t331, .int .u64 t332, .int .u64 t333] 25 (0, 0)) (by refine blk_far ?_ NB335_356.out _; refine blk_far ?_ NB335_356.out _; refine blk_far ?_ NB335_356.out _; refine blk_far ?_ NB335_356.out _; refine blk_far ?_ NB335_356.out _; exact B335.out) hb); have n8_ := Aside0.mk (blk_below (g := g342) (o := .cells #[.int .i64 t336, .int .u64 t337, .int .u64 t338, .int .u64 t339, .int .u64 t340] 25 (0, 0)) (by refine blk_far ?_ NB342_356.out _; refine blk_far ?_ NB342_356.out _; refine blk_far ?_ NB342_356.out _; refine blk_far ?_ NB342_356.out _; refine blk_far ?_ NB342_356.out _; exact B342.out) hb); have n9_ := Aside0.mk (blk_below (g := g349) (o := .cells #[.int .i64 t343, .int .u64 t344, .int .u64 t345, .int .u64 t346, .int .u64 t347] 25 (0, 0)) (by refine blk_far ?_ NB349_356.out _; refine blk_far ?_ NB349_356.out _; refine blk_far ?_ NB349_356.out _; refine blk_far ?_ NB349_356.out _; refine blk_far ?_ NB349_356.out _; exact B349.out) hb); have n10_ := Aside0.mk (blk_below (g := g356) (o := .cells #[.int .i64 t350, .int .u64 t351, .int .u64 t352, .int .u64 t353, .int .u64 t354] 25 (0, 0)) (by refine blk_put (cs := #[.int .i64 t350, .int .u64 t351, .int .u64 t352, .int .u64 t353, .int .u64 0]) ?_ 4 _ rfl; refine blk_put (cs := #[.int .i64 t350, .int .u64 t351, .int .u64 t352, .int .u64 0, .int .u64 0]) ?_ 3 _ rfl; refine blk_put (cs := #[.int .i64 t350, .int .u64 t351, .int .u64 0, .int .u64 0, .int .u64 0]) ?_ 2 _ rfl; refine blk_put (cs := #[.int .i64 t350, .int .u64 0, .int .u64 0, .int .u64 0, .int .u64 0]) ?_ 1 _ rfl; refine blk_put (cs := #[.int .i64 0, .int .u64 0, .int .u64 0, .int .u64 0, .int .u64 0]) ?_ 0 _ rfl; exact B356.out) hb); have n11_ := Aside0.mk (below_step (by repeat (first | (with_reducible first | exact HB.out | apply below_alloc | apply pw_below_drewN | apply below_drew1 | refine below_set ?_ GE286.out | refine below_set ?_ GE293.out | refine below_set ?_ GE300.out | refine below_set ?_ GE307.out | refine below_set ?_ GE314.out | refine below_set ?_ GE321.out | refine below_set ?_ GE328.out | refine below_set ?_ GE335.out | refine below_set ?_ GE342.out | refine below_set ?_ GE349.out | refine below_set ?_ GE356.out) | exact HB.out)) hb); clear B286; clear B293; clear B300; clear B307; clear B314; clear B321; clear B328; clear B335; clear B342; clear B349; clear B356; clear HB; have B286 := n0_; have B293 := n1_; have B300 := n2_; have B307 := n3_; have B314 := n4_; have B321 := n5_; have B328 := n6_; have B335 := n7_; have B342 := n8_; have B349 := n9_; have B356 := n10_; have HB := n11_; clear n0_ n1_ n2_ n3_ n4_ n5_ n6_ n7_ n8_ n9_ n10_ n11_; (try clear hb); (try clear hb2); (try clear hk); (try clear hi)))
            go_ret
            exact ⟨by first | rfl | (simp [errW_none, errW_some] <;> rfl) | (simp [*, errW_none, errW_some] <;> rfl), by repeat (first | (with_reducible first | exact HB.out | apply below_alloc | apply pw_below_drewN | apply below_drew1 | refine below_set ?_ GE286.out | refine below_set ?_ GE293.out | refine below_set ?_ GE300.out | refine below_set ?_ GE307.out | refine below_set ?_ GE314.out | refine below_set ?_ GE321.out | refine below_set ?_ GE328.out | refine below_set ?_ GE335.out | refine below_set ?_ GE342.out | refine below_set ?_ GE349.out | refine below_set ?_ GE356.out) | exact HB.out)⟩
           ·rw [if_neg c121] at H
            exact absurd H (by simp)
         ·rw [if_neg c86] at H
          exact absurd H (by simp)
       ·rw [if_neg c57] at H
        exact absurd H (by simp)
     ·rw [if_neg c34] at H
      exact absurd H (by simp)

end Go.Proofs.YtkailiemikjfbaaDoor.Q
end
section
namespace Go.Proofs.YtkailiemikjfbaaDoor.Q
open Go.RowKit Go.Proofs.YtkailiemikjfbaaDoorW.PrintWords Go.Proofs.YtkailiemikjfbaaDoorW.PrintLast Go.Proofs.YtkailiemikjfbaaDoorW.PrintMore
open Go.Proofs.YtkailiemikjfbaaDoor.Num
set_option linter.unusedVariables false
set_option linter.unusedSimpArgs false

theorem draws_true (f a b c d bits : Int) (ha : 0 ≤ a) (hb : 0 ≤ b) (hc : 0 ≤ c) (hd : 0 ≤ d) : ∃ k, attestorlaw08_ChannelDraws.f k f a b c d bits = some true := by
  obtain ⟨s, rfl, rfl, rfl, rfl⟩ := nat4 ha hb hc hd
  refine ⟨1001, ?_⟩
  obtain ⟨v0, a0, b0⟩ := draw_both f s 1001 (by omega)
  obtain ⟨v1, a1, b1⟩ := pos_both f s bits 1000 (by omega)
  obtain ⟨v2, a2, b2⟩ := pos_both f s 0 1000 (by omega)
  obtain ⟨v3, a3, b3⟩ := pos_both f s 5 1000 (by omega)
  obtain ⟨v4, a4, b4⟩ := pos_both f s 24 1000 (by omega)
  unfold attestorlaw08_ChannelDraws.f
  refine bnd a0 (bnd b0 ?_)
  rw [if_neg (same5 _ _ _ _ _), attestorlaw08_ChannelDraws.j0, if_neg (by simp)]
  refine bnd a1 (bnd b1 ?_)
  rw [if_neg (same5 _ _ _ _ _), if_pos rfl]
  refine bnd a2 (bnd b2 ?_)
  rw [if_neg (same5 _ _ _ _ _), if_pos rfl]
  refine bnd a3 (bnd b3 ?_)
  rw [if_neg (same5 _ _ _ _ _), if_pos rfl]
  refine bnd a4 (bnd b4 ?_)
  rw [if_neg (same5 _ _ _ _ _), if_pos rfl]
  exact bnd (lives_true _ (by omega)) rfl
end Go.Proofs.YtkailiemikjfbaaDoor.Q
end
section
namespace Go.Proofs.YtkailiemikjfbaaDoor.Q
open Go.ChangeShapes Go.WideShapes Go.ChangeAt Go.WideMaps Go.WideElems Go.RowKit
open Go.Proofs.YtkailiemikjfbaaDoorW.PrintWords Go.Proofs.YtkailiemikjfbaaDoorW.PrintLast Go.Proofs.YtkailiemikjfbaaDoorW.PrintMore
open Go.Proofs.YtkailiemikjfbaaDoor.Opn
set_option linter.unusedVariables false

set_option maxRecDepth 100000 in
theorem channelDraws_lifted (os : Os) (started : os.Started) (H : Type) (enc : TypeId × Value → H) :
    ReturnsInHanded {} Tryd.checked os 3 .any (fun w args => (Rows.channelDrawsSpec.pre enc Tryd.prog Tryd.f3 [] false w args ∧ laidMetH Tryd.prog laid1 w) ∧ sizedMet enc Tryd.prog Tryd.f3 (OpenSpec.ofChange Rows.channelDrawsSpec) false w args)
      (Rows.channelDrawsSpec.post enc Tryd.prog Tryd.f3 false true false false) := by
  refine returnsInHanded_of_change_and (C := Tryd.checked) (X := (fun w _ => laidMetH Tryd.prog laid1 w)) (fun _ _ _ hh h => h.of_heap hh) own started (by kernel_rfl) Tryd.func3
    (ChangeSpec.witness_shaped (enc := enc) (C := Tryd.checked) (os := os) (X := (fun w _ => laidMetH Tryd.prog laid1 w)) false (World.doorLaid Tryd.prog 400 os) #[.agg #[.int .i64 0, .int .u64 0, .int .u64 0, .int .u64 0, .int .u64 0], .int .i64 0] 8 rfl (World.shaped_of_RefB (by kernel_rfl) (by kernel_rfl)) (by kernel_rfl) (by kernel_rfl) (by kernel_rfl) (door_met os _)) ?_
  intro W base args ds gs before hval0 hW _ _ hL _
  have hval : ∀ (j : Nat) t v, Tryd.f3.params[j]? = some t → args[j]? = some v → Value.okWide Tryd.prog W .any base t v := hval0
  have hW' := hW
  obtain ⟨p, q, hA0, hV, rfl, hfz, hnd⟩ := hW
  have hA : DataW.TrodAll enc Tryd.prog W 0 (fun _ => true) true Tryd.f3.params.toList args.toList ds p := hA0
  rw [Tryd.params3] at hA hval
  obtain ⟨v0, vs0, d0, ds0, p0, q0, hargs, rfl, rfl, h0, r0⟩ := trodAll_cons hA
  obtain ⟨v1, vs1, d1, ds1, p1, q1, rfl, rfl, rfl, h1, r1⟩ := trodAll_cons r0
  obtain ⟨rfl, rfl, rfl⟩ := trodAll_nil r1
  obtain rfl : args = #[v0, v1] := by cases args; simp_all
  obtain ⟨rfl, rfl⟩ := trodVars_none hV
  have k0 := h0
  have lt0 : ∀ x ∈ p0, x.block < W.heap.size := by obtain ⟨m, hm⟩ := k0; exact DataW.trod_lt m _ _ _ hm
  obtain ⟨cs0, rfl, _⟩ := okWide_struct Tryd.underlying25 (hval 0 25 v0 rfl rfl)
  obtain ⟨m0, hm0⟩ := h0
  obtain ⟨a0_0, a0_1, a0_2, a0_3, a0_4, hcs0, w0_0, w0_1, w0_2, w0_3, w0_4⟩ := flat25 m0 _ _ hm0
  obtain rfl : cs0 = #[.int .i64 a0_0, .int .u64 a0_1, .int .u64 a0_2, .int .u64 a0_3, .int .u64 a0_4] := by cases cs0; simp only [Value.cells] at hcs0; subst hcs0; rfl
  obtain ⟨a1, rfl, rfl, rfl, w1⟩ := open_int Tryd.underlying3 (hval 1 3 v1 rfl rfl) h1
  clear hA0 hval0
  refine (attestorlaw08_ChannelDraws.calls _ a0_0 a0_1 a0_2 a0_3 a0_4 a1 true W (gl_of_laid hL) (draws_true a0_0 a0_1 a0_2 a0_3 a0_4 a1 (wf_u64 w0_1).1 (wf_u64 w0_2).1 (wf_u64 w0_3).1 (wf_u64 w0_4).1).choose_spec).mono fun e W' ⟨he, bel⟩ => ?_
  subst he
  exact ⟨_, rfl, _, _, _, [], _, [], hW', trodAll_mk1 (shut_bool Tryd.underlying4 _), (trodAll_cons_mk (Below.trod laidOut (by kernel_rfl) (of_decide_eq_true (by kernel_rfl)) k0 bel lt0) (trodAll_cons_mk (shut_int Tryd.underlying3 w1) trodAll_mk0)), rfl, bel.frame _, fun h => by cases h⟩
theorem channelDraws_row : Rows.ChannelDrawsSaid :=
  OpenClaim.holds_of_wide 3 Tryd.f3 rfl rfl rfl rfl rfl rfl rfl ⟨rfl, rfl, rfl, rfl, rfl⟩ rfl rfl rfl rfl rfl (by kernel_rfl) Tryd.func3 (by kernel_rfl)
    (of_decide_eq_true (by kernel_rfl)) (by unfold Func.isWrapper; first | (rw [if_pos (by decide +kernel)]; kernel_rfl) | (rw [if_neg (by decide +kernel)]; exact ⟨rfl, rfl⟩))
    (fun os started H enc _ => channelDraws_lifted os started H enc)
theorem channelDraws_card : Rows.ChannelDrawsCardSaid :=
  Claim7.holds_tied_plain_at .later [] [.widerDeep] true Rows.channelDrawsCard.stood.harness false
    channelDraws_row (fun _ h => by cases h) (by kernel_rfl) (fun _ h => by cases h) channelDraws_row_tie rfl ⟨rfl, rfl⟩ (by kernel_rfl) rfl
    (fun f fn hf hfn => by
      obtain rfl : f = 3 := Option.some.inj ((show Tryd.prog.funcNamed "attestor/attestorlaw08.ChannelDraws" = some 3 by kernel_rfl).symm.trans hf) |>.symm
      obtain rfl : fn = Tryd.f3 := (Option.some.inj (Tryd.func3.symm.trans hfn)).symm
      exact ⟨by kernel_rfl, fun j t ht => by
        rw [Tryd.params3] at ht
        have hm : t ∈ [25, 3] := by simpa using Array.mem_of_getElem? ht
        have hall : ([25, 3].all fun u => !Tryd.prog.wantsStandIn u) = true := by kernel_rfl
        exact (show Tryd.prog.wantsStandIn t = false by simpa using List.all_eq_true.1 hall t hm)⟩)
    (by kernel_rfl)
end Go.Proofs.YtkailiemikjfbaaDoor.Q
namespace Go.Proofs.YtkailiemikjfbaaDoor
/-- Under a short name, for the claim. -/
theorem channelDraws_holds : Rows.ChannelDrawsCardSaid := Q.channelDraws_card
end Go.Proofs.YtkailiemikjfbaaDoor
#print axioms Go.Proofs.YtkailiemikjfbaaDoor.channelDraws_holds
end
