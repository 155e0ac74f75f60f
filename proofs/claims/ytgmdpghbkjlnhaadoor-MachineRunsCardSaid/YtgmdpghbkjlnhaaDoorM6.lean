/- Several texts in one, in build order. What they prove, each by its own first remark:
How what is read as an argument is told to the walks: a kind of the words for each type, and that its numbers are of their kinds.
From the card's condition on the variable 'uses' to the fact that the contracts ask; how a program (a slice of instructions) is read.
From what the argument's numbers are known to be to what the plain laws ask. -/
import Derived.ChangeArms
import Derived.Deep.Slices
import Derived.KernelRfl
import Derived.OpenShut
import Derived.ProofKit
import Derived.SizedLaws
import Derived.Test.YtgmdpghbkjlnhaaDoorM2
import Derived.Test.YtgmdpghbkjlnhaaDoorRows
import Derived.Test.YtgmdpghbkjlnhaaDoorM1
import Derived.LaidMore
import Derived.Lib.SmallJoins
import Derived.Stop.Joined
import Derived.Test.YtgmdpghbkjlnhaaDoorM5
section
namespace Go.Proofs.YtgmdpghbkjlnhaaDoor.Opn
open Go.RowKit Go.Deep Go.Proofs.YtgmdpghbkjlnhaaDoorW.PrintWords
variable {H : Type} {enc : TypeId × Value → H} {P : Program} {W : World}

theorem add_add_ (a : Addr) (x y : Nat) : (a.add x).add y = a.add (x + y) := by
  unfold Addr.add
  by_cases hx : x = 0 <;> by_cases hy : y = 0 <;> simp [hx, hy, Nat.add_assoc]
/-- Whatever is read at type t is of the kind d; 'wf': what is known of it besides. -/
def Opn {α : Type} (enc : TypeId × Value → H) (P : Program) (W : World) (t : TypeId) (d : Kd α) (wf : α → Prop) : Prop :=
  ∀ fuel cs x, DataW.trod enc P W 0 (fun _ => true) true fuel t cs = some x → ∃ y, d.K W y cs ∧ wf y
theorem Opn.int {k : IntKind} {t : TypeId} (ht : P.underlying t = some (.int k)) : Opn enc P W t (Kd.int k) (fun y => (Lit.int k y).wf = true) := by
  intro fuel cs x h
  obtain ⟨n, rfl, _, hn⟩ := DataW.trod_int ht h
  exact ⟨n, rfl, hn⟩
theorem Opn.imp {α : Type} {t : TypeId} {d : Kd α} {wf wf' : α → Prop} (h : Opn enc P W t d wf) (hw : ∀ y, wf y → wf' y) : Opn enc P W t d wf' := by
  intro fuel cs x hx
  obtain ⟨y, hy, hz⟩ := h fuel cs x hx
  exact ⟨y, hy, hw y hz⟩
theorem Opn.slice {α : Type} {t e : TypeId} {d : Kd α} {wf : α → Prop} (ht : P.underlying t = some (.slice e)) (hs : P.cellsOf e = d.sz) (he : Opn enc P W e d wf) :
    Opn enc P W t (Kd.slice e d) (fun l => ∀ y ∈ l, wf y) := by
  intro fuel cs x h
  rcases open_slice ht h with ⟨rfl, _⟩ | ⟨a, len, cap, m, n, D, Pl, rfl, _, hl, hm, hmm, _, hx⟩
  · exact ⟨[], ⟨none, 0, rfl, Nat.le_refl _, Kd.C_nil d W⟩, fun y hy => by cases hy⟩
  · have hlm : len ≤ m := by rw [hmm]; split <;> omega
    have each : ∀ i : Fin len, ∃ y : α, ∃ c, W.cells? 0 (a.add (i.1 * d.sz)) d.sz = some c ∧ d.K W y c ∧ wf y := by
      intro i
      obtain ⟨c, hc, ht⟩ := hx i.1 (by omega)
      obtain ⟨y, hy, hz⟩ := he _ _ _ ht
      exact ⟨y, c, by rw [← hs]; exact hc, hy, hz⟩
    obtain ⟨f, hf⟩ := Classical.axiomOfChoice each
    have hlen : (List.ofFn f).length = len := List.length_ofFn
    refine ⟨List.ofFn f, ⟨some a, cap, by rw [hlen], by omega, ?_⟩, ?_⟩
    · rw [hlen]
      refine ⟨hlen, by unfold maxLen at hm; omega, fun _ => ⟨a, rfl, fun j p hp => ?_⟩⟩
      have hj : j < len := by have := (List.getElem?_eq_some_iff.1 hp).1; omega
      obtain ⟨c, hc, hk, _⟩ := hf ⟨j, hj⟩
      have hpj : p = f ⟨j, hj⟩ := by
        rw [List.getElem?_eq_getElem (by omega)] at hp
        rw [← Option.some.inj hp]
        exact List.getElem_ofFn ..
      subst hpj
      refine ⟨c, d.K_len hk, hk, fun i u hu => ?_⟩
      have hi : i < d.sz := by have := (List.getElem?_eq_some_iff.1 hu).1; rw [d.K_len hk] at this; exact this
      have hcc := (World.cells?_some hc).2.2 i hi
      rw [hu] at hcc
      rw [← hcc]
      rw [add_add_]
    · intro y hy
      obtain ⟨i, hi, rfl⟩ := List.mem_iff_getElem.1 hy
      rw [List.getElem_ofFn]
      exact (hf _).choose_spec.2.2
end Go.Proofs.YtgmdpghbkjlnhaaDoor.Opn
namespace Go.Proofs.YtgmdpghbkjlnhaaDoor.Q
open Go.RowKit Go.ChangeShapes Go.WideShapes
open Go.Proofs.YtgmdpghbkjlnhaaDoorW.PrintWords Go.Proofs.YtgmdpghbkjlnhaaDoorW.PrintLast Go.Proofs.YtgmdpghbkjlnhaaDoorW.PrintMore
open Go.Proofs.YtgmdpghbkjlnhaaDoor.Opn
set_option linter.unusedVariables false
set_option linter.unusedSimpArgs false

theorem own : ownKnob Tryd.prog.godebug = Option.none := by kernel_rfl
theorem laidOut : laidOutB Tryd.prog = true := by kernel_rfl
theorem cells45 : Tryd.prog.cellsOf 45 = 1 := by kernel_rfl
theorem cells5 : Tryd.prog.cellsOf 5 = 1 := by kernel_rfl
theorem cells47 : Tryd.prog.cellsOf 47 = 4 := by kernel_rfl
theorem flat47 {H : Type} {enc : TypeId × Value → H} {W : World} : ∀ fuel cs x, DataW.trod enc Tryd.prog W 0 (fun _ => true) true fuel 47 cs = some x → ∃ (a0 : Int) (a1 : Int) (a2 : Int) (a3 : Int), cs = [.int .u8 a0, .int .u8 a1, .int .u8 a2, .int .u8 a3] ∧ (Lit.int .u8 a0).wf = true ∧ (Lit.int .u8 a1).wf = true ∧ (Lit.int .u8 a2).wf = true ∧ (Lit.int .u8 a3).wf = true := by
  intro fuel cs x h
  obtain ⟨xs, n, rfl, _, hl, hn, hf⟩ := DataW.trod_struct Tryd.underlying47 h
  rw [cells47] at hl
  match cs, hl with
  | [q0, q1, q2, q3], _ =>
    have hx : xs.length = 4 := hn
    have e0 : DataW.trod enc Tryd.prog W 0 (fun _ => true) true n 45 (([q0, q1, q2, q3].drop 0).take (Tryd.prog.cellsOf 45)) = xs[0]? := hf 0 _ rfl
    rw [cells45, List.getElem?_eq_getElem (by omega)] at e0
    have e1 : DataW.trod enc Tryd.prog W 0 (fun _ => true) true n 5 (([q0, q1, q2, q3].drop 1).take (Tryd.prog.cellsOf 5)) = xs[1]? := hf 1 _ rfl
    rw [cells5, List.getElem?_eq_getElem (by omega)] at e1
    have e2 : DataW.trod enc Tryd.prog W 0 (fun _ => true) true n 5 (([q0, q1, q2, q3].drop 2).take (Tryd.prog.cellsOf 5)) = xs[2]? := hf 2 _ rfl
    rw [cells5, List.getElem?_eq_getElem (by omega)] at e2
    have e3 : DataW.trod enc Tryd.prog W 0 (fun _ => true) true n 5 (([q0, q1, q2, q3].drop 3).take (Tryd.prog.cellsOf 5)) = xs[3]? := hf 3 _ rfl
    rw [cells5, List.getElem?_eq_getElem (by omega)] at e3
    obtain ⟨a0, r0, _, w0⟩ := DataW.trod_int Tryd.underlying45 e0
    simp only [List.drop_succ_cons, List.drop_zero, List.take_succ_cons, List.take_zero, List.cons.injEq, and_true] at r0
    obtain rfl := r0
    obtain ⟨a1, r1, _, w1⟩ := DataW.trod_int Tryd.underlying5 e1
    simp only [List.drop_succ_cons, List.drop_zero, List.take_succ_cons, List.take_zero, List.cons.injEq, and_true] at r1
    obtain rfl := r1
    obtain ⟨a2, r2, _, w2⟩ := DataW.trod_int Tryd.underlying5 e2
    simp only [List.drop_succ_cons, List.drop_zero, List.take_succ_cons, List.take_zero, List.cons.injEq, and_true] at r2
    obtain rfl := r2
    obtain ⟨a3, r3, _, w3⟩ := DataW.trod_int Tryd.underlying5 e3
    simp only [List.drop_succ_cons, List.drop_zero, List.take_succ_cons, List.take_zero, List.cons.injEq, and_true] at r3
    obtain rfl := r3
    exact ⟨a0, a1, a2, a3, rfl, w0, w1, w2, w3⟩
def wf47 (x : S47) : Prop := ((Lit.int .u8 x.f0).wf = true) ∧ ((Lit.int .u8 x.f1).wf = true) ∧ ((Lit.int .u8 x.f2).wf = true) ∧ ((Lit.int .u8 x.f3).wf = true)
theorem opn47 {H : Type} {enc : TypeId × Value → H} {W : World} : Opn enc Tryd.prog W 47 k47 wf47 := by
  intro fuel cs x h
  obtain ⟨a0, a1, a2, a3, rfl, w0, w1, w2, w3⟩ := flat47 fuel cs x h
  exact ⟨(⟨a0, a1, a2, a3⟩ : S47), k47_mk W _ , ⟨w0, w1, w2, w3⟩⟩
theorem opn22 {H : Type} {enc : TypeId × Value → H} {W : World} : Opn enc Tryd.prog W 22 (Kd.slice 47 k47) (fun x => ∀ y ∈ x, wf47 y) := Opn.slice Tryd.underlying22 cells47 opn47
theorem cells23 : Tryd.prog.cellsOf 23 = 4 := by kernel_rfl
theorem flat23 {H : Type} {enc : TypeId × Value → H} {W : World} : ∀ fuel cs x, DataW.trod enc Tryd.prog W 0 (fun _ => true) true fuel 23 cs = some x → ∃ (a0 : Int) (a1 : Int) (a2 : Int) (a3 : Int), cs = [.int .u8 a0, .int .u8 a1, .int .u8 a2, .int .u8 a3] ∧ (Lit.int .u8 a0).wf = true ∧ (Lit.int .u8 a1).wf = true ∧ (Lit.int .u8 a2).wf = true ∧ (Lit.int .u8 a3).wf = true := by
  intro fuel cs x h
  obtain ⟨xs, n, rfl, _, hl, hn, hf⟩ := DataW.trod_array Tryd.underlying23 h
  rw [cells23] at hl
  match cs, hl with
  | [q0, q1, q2, q3], _ =>
    have hx : xs.length = 4 := hn
    have e0 : DataW.trod enc Tryd.prog W 0 (fun _ => true) true n 5 (([q0, q1, q2, q3].drop 0).take (Tryd.prog.cellsOf 5)) = xs[0]? := by have h_ := hf 0 (by decide); simpa only [cells5, Nat.mul_one, Nat.zero_mul, Nat.reduceMul] using h_
    rw [cells5, List.getElem?_eq_getElem (by omega)] at e0
    have e1 : DataW.trod enc Tryd.prog W 0 (fun _ => true) true n 5 (([q0, q1, q2, q3].drop 1).take (Tryd.prog.cellsOf 5)) = xs[1]? := by have h_ := hf 1 (by decide); simpa only [cells5, Nat.mul_one, Nat.zero_mul, Nat.reduceMul] using h_
    rw [cells5, List.getElem?_eq_getElem (by omega)] at e1
    have e2 : DataW.trod enc Tryd.prog W 0 (fun _ => true) true n 5 (([q0, q1, q2, q3].drop 2).take (Tryd.prog.cellsOf 5)) = xs[2]? := by have h_ := hf 2 (by decide); simpa only [cells5, Nat.mul_one, Nat.zero_mul, Nat.reduceMul] using h_
    rw [cells5, List.getElem?_eq_getElem (by omega)] at e2
    have e3 : DataW.trod enc Tryd.prog W 0 (fun _ => true) true n 5 (([q0, q1, q2, q3].drop 3).take (Tryd.prog.cellsOf 5)) = xs[3]? := by have h_ := hf 3 (by decide); simpa only [cells5, Nat.mul_one, Nat.zero_mul, Nat.reduceMul] using h_
    rw [cells5, List.getElem?_eq_getElem (by omega)] at e3
    obtain ⟨a0, r0, _, w0⟩ := DataW.trod_int Tryd.underlying5 e0
    simp only [List.drop_succ_cons, List.drop_zero, List.take_succ_cons, List.take_zero, List.cons.injEq, and_true] at r0
    obtain rfl := r0
    obtain ⟨a1, r1, _, w1⟩ := DataW.trod_int Tryd.underlying5 e1
    simp only [List.drop_succ_cons, List.drop_zero, List.take_succ_cons, List.take_zero, List.cons.injEq, and_true] at r1
    obtain rfl := r1
    obtain ⟨a2, r2, _, w2⟩ := DataW.trod_int Tryd.underlying5 e2
    simp only [List.drop_succ_cons, List.drop_zero, List.take_succ_cons, List.take_zero, List.cons.injEq, and_true] at r2
    obtain rfl := r2
    obtain ⟨a3, r3, _, w3⟩ := DataW.trod_int Tryd.underlying5 e3
    simp only [List.drop_succ_cons, List.drop_zero, List.take_succ_cons, List.take_zero, List.cons.injEq, and_true] at r3
    obtain rfl := r3
    exact ⟨a0, a1, a2, a3, rfl, w0, w1, w2, w3⟩
def wf23 (x : S23) : Prop := ((Lit.int .u8 x.f0).wf = true) ∧ ((Lit.int .u8 x.f1).wf = true) ∧ ((Lit.int .u8 x.f2).wf = true) ∧ ((Lit.int .u8 x.f3).wf = true)
theorem opn23 {H : Type} {enc : TypeId × Value → H} {W : World} : Opn enc Tryd.prog W 23 k23 wf23 := by
  intro fuel cs x h
  obtain ⟨a0, a1, a2, a3, rfl, w0, w1, w2, w3⟩ := flat23 fuel cs x h
  exact ⟨(⟨a0, a1, a2, a3⟩ : S23), k23_mk W _ , ⟨w0, w1, w2, w3⟩⟩
theorem cells3 : Tryd.prog.cellsOf 3 = 1 := by kernel_rfl
theorem cells24 : Tryd.prog.cellsOf 24 = 16 := by kernel_rfl
theorem flat24 {H : Type} {enc : TypeId × Value → H} {W : World} : ∀ fuel cs x, DataW.trod enc Tryd.prog W 0 (fun _ => true) true fuel 24 cs = some x → ∃ (a0 : Int) (a1 : Int) (a2 : Int) (a3 : Int) (a4 : Int) (a5 : Int) (a6 : Int) (a7 : Int) (a8 : Int) (a9 : Int) (a10 : Int) (a11 : Int) (a12 : Int) (a13 : Int) (a14 : Int) (a15 : Int), cs = [.int .u8 a0, .int .u8 a1, .int .u8 a2, .int .u8 a3, .int .u8 a4, .int .u8 a5, .int .u8 a6, .int .u8 a7, .int .u8 a8, .int .u8 a9, .int .u8 a10, .int .u8 a11, .int .u8 a12, .int .u8 a13, .int .u8 a14, .int .u8 a15] ∧ (Lit.int .u8 a0).wf = true ∧ (Lit.int .u8 a1).wf = true ∧ (Lit.int .u8 a2).wf = true ∧ (Lit.int .u8 a3).wf = true ∧ (Lit.int .u8 a4).wf = true ∧ (Lit.int .u8 a5).wf = true ∧ (Lit.int .u8 a6).wf = true ∧ (Lit.int .u8 a7).wf = true ∧ (Lit.int .u8 a8).wf = true ∧ (Lit.int .u8 a9).wf = true ∧ (Lit.int .u8 a10).wf = true ∧ (Lit.int .u8 a11).wf = true ∧ (Lit.int .u8 a12).wf = true ∧ (Lit.int .u8 a13).wf = true ∧ (Lit.int .u8 a14).wf = true ∧ (Lit.int .u8 a15).wf = true := by
  intro fuel cs x h
  obtain ⟨xs, n, rfl, _, hl, hn, hf⟩ := DataW.trod_array Tryd.underlying24 h
  rw [cells24] at hl
  match cs, hl with
  | [q0, q1, q2, q3, q4, q5, q6, q7, q8, q9, q10, q11, q12, q13, q14, q15], _ =>
    have hx : xs.length = 16 := hn
    have e0 : DataW.trod enc Tryd.prog W 0 (fun _ => true) true n 5 (([q0, q1, q2, q3, q4, q5, q6, q7, q8, q9, q10, q11, q12, q13, q14, q15].drop 0).take (Tryd.prog.cellsOf 5)) = xs[0]? := by have h_ := hf 0 (by decide); simpa only [cells5, Nat.mul_one, Nat.zero_mul, Nat.reduceMul] using h_
    rw [cells5, List.getElem?_eq_getElem (by omega)] at e0
    have e1 : DataW.trod enc Tryd.prog W 0 (fun _ => true) true n 5 (([q0, q1, q2, q3, q4, q5, q6, q7, q8, q9, q10, q11, q12, q13, q14, q15].drop 1).take (Tryd.prog.cellsOf 5)) = xs[1]? := by have h_ := hf 1 (by decide); simpa only [cells5, Nat.mul_one, Nat.zero_mul, Nat.reduceMul] using h_
    rw [cells5, List.getElem?_eq_getElem (by omega)] at e1
    have e2 : DataW.trod enc Tryd.prog W 0 (fun _ => true) true n 5 (([q0, q1, q2, q3, q4, q5, q6, q7, q8, q9, q10, q11, q12, q13, q14, q15].drop 2).take (Tryd.prog.cellsOf 5)) = xs[2]? := by have h_ := hf 2 (by decide); simpa only [cells5, Nat.mul_one, Nat.zero_mul, Nat.reduceMul] using h_
    rw [cells5, List.getElem?_eq_getElem (by omega)] at e2
    have e3 : DataW.trod enc Tryd.prog W 0 (fun _ => true) true n 5 (([q0, q1, q2, q3, q4, q5, q6, q7, q8, q9, q10, q11, q12, q13, q14, q15].drop 3).take (Tryd.prog.cellsOf 5)) = xs[3]? := by have h_ := hf 3 (by decide); simpa only [cells5, Nat.mul_one, Nat.zero_mul, Nat.reduceMul] using h_
    rw [cells5, List.getElem?_eq_getElem (by omega)] at e3
    have e4 : DataW.trod enc Tryd.prog W 0 (fun _ => true) true n 5 (([q0, q1, q2, q3, q4, q5, q6, q7, q8, q9, q10, q11, q12, q13, q14, q15].drop 4).take (Tryd.prog.cellsOf 5)) = xs[4]? := by have h_ := hf 4 (by decide); simpa only [cells5, Nat.mul_one, Nat.zero_mul, Nat.reduceMul] using h_
    rw [cells5, List.getElem?_eq_getElem (by omega)] at e4
    have e5 : DataW.trod enc Tryd.prog W 0 (fun _ => true) true n 5 (([q0, q1, q2, q3, q4, q5, q6, q7, q8, q9, q10, q11, q12, q13, q14, q15].drop 5).take (Tryd.prog.cellsOf 5)) = xs[5]? := by have h_ := hf 5 (by decide); simpa only [cells5, Nat.mul_one, Nat.zero_mul, Nat.reduceMul] using h_
    rw [cells5, List.getElem?_eq_getElem (by omega)] at e5
    have e6 : DataW.trod enc Tryd.prog W 0 (fun _ => true) true n 5 (([q0, q1, q2, q3, q4, q5, q6, q7, q8, q9, q10, q11, q12, q13, q14, q15].drop 6).take (Tryd.prog.cellsOf 5)) = xs[6]? := by have h_ := hf 6 (by decide); simpa only [cells5, Nat.mul_one, Nat.zero_mul, Nat.reduceMul] using h_
    rw [cells5, List.getElem?_eq_getElem (by omega)] at e6
    have e7 : DataW.trod enc Tryd.prog W 0 (fun _ => true) true n 5 (([q0, q1, q2, q3, q4, q5, q6, q7, q8, q9, q10, q11, q12, q13, q14, q15].drop 7).take (Tryd.prog.cellsOf 5)) = xs[7]? := by have h_ := hf 7 (by decide); simpa only [cells5, Nat.mul_one, Nat.zero_mul, Nat.reduceMul] using h_
    rw [cells5, List.getElem?_eq_getElem (by omega)] at e7
    have e8 : DataW.trod enc Tryd.prog W 0 (fun _ => true) true n 5 (([q0, q1, q2, q3, q4, q5, q6, q7, q8, q9, q10, q11, q12, q13, q14, q15].drop 8).take (Tryd.prog.cellsOf 5)) = xs[8]? := by have h_ := hf 8 (by decide); simpa only [cells5, Nat.mul_one, Nat.zero_mul, Nat.reduceMul] using h_
    rw [cells5, List.getElem?_eq_getElem (by omega)] at e8
    have e9 : DataW.trod enc Tryd.prog W 0 (fun _ => true) true n 5 (([q0, q1, q2, q3, q4, q5, q6, q7, q8, q9, q10, q11, q12, q13, q14, q15].drop 9).take (Tryd.prog.cellsOf 5)) = xs[9]? := by have h_ := hf 9 (by decide); simpa only [cells5, Nat.mul_one, Nat.zero_mul, Nat.reduceMul] using h_
    rw [cells5, List.getElem?_eq_getElem (by omega)] at e9
    have e10 : DataW.trod enc Tryd.prog W 0 (fun _ => true) true n 5 (([q0, q1, q2, q3, q4, q5, q6, q7, q8, q9, q10, q11, q12, q13, q14, q15].drop 10).take (Tryd.prog.cellsOf 5)) = xs[10]? := by have h_ := hf 10 (by decide); simpa only [cells5, Nat.mul_one, Nat.zero_mul, Nat.reduceMul] using h_
    rw [cells5, List.getElem?_eq_getElem (by omega)] at e10
    have e11 : DataW.trod enc Tryd.prog W 0 (fun _ => true) true n 5 (([q0, q1, q2, q3, q4, q5, q6, q7, q8, q9, q10, q11, q12, q13, q14, q15].drop 11).take (Tryd.prog.cellsOf 5)) = xs[11]? := by have h_ := hf 11 (by decide); simpa only [cells5, Nat.mul_one, Nat.zero_mul, Nat.reduceMul] using h_
    rw [cells5, List.getElem?_eq_getElem (by omega)] at e11
    have e12 : DataW.trod enc Tryd.prog W 0 (fun _ => true) true n 5 (([q0, q1, q2, q3, q4, q5, q6, q7, q8, q9, q10, q11, q12, q13, q14, q15].drop 12).take (Tryd.prog.cellsOf 5)) = xs[12]? := by have h_ := hf 12 (by decide); simpa only [cells5, Nat.mul_one, Nat.zero_mul, Nat.reduceMul] using h_
    rw [cells5, List.getElem?_eq_getElem (by omega)] at e12
    have e13 : DataW.trod enc Tryd.prog W 0 (fun _ => true) true n 5 (([q0, q1, q2, q3, q4, q5, q6, q7, q8, q9, q10, q11, q12, q13, q14, q15].drop 13).take (Tryd.prog.cellsOf 5)) = xs[13]? := by have h_ := hf 13 (by decide); simpa only [cells5, Nat.mul_one, Nat.zero_mul, Nat.reduceMul] using h_
    rw [cells5, List.getElem?_eq_getElem (by omega)] at e13
    have e14 : DataW.trod enc Tryd.prog W 0 (fun _ => true) true n 5 (([q0, q1, q2, q3, q4, q5, q6, q7, q8, q9, q10, q11, q12, q13, q14, q15].drop 14).take (Tryd.prog.cellsOf 5)) = xs[14]? := by have h_ := hf 14 (by decide); simpa only [cells5, Nat.mul_one, Nat.zero_mul, Nat.reduceMul] using h_
    rw [cells5, List.getElem?_eq_getElem (by omega)] at e14
    have e15 : DataW.trod enc Tryd.prog W 0 (fun _ => true) true n 5 (([q0, q1, q2, q3, q4, q5, q6, q7, q8, q9, q10, q11, q12, q13, q14, q15].drop 15).take (Tryd.prog.cellsOf 5)) = xs[15]? := by have h_ := hf 15 (by decide); simpa only [cells5, Nat.mul_one, Nat.zero_mul, Nat.reduceMul] using h_
    rw [cells5, List.getElem?_eq_getElem (by omega)] at e15
    obtain ⟨a0, r0, _, w0⟩ := DataW.trod_int Tryd.underlying5 e0
    simp only [List.drop_succ_cons, List.drop_zero, List.take_succ_cons, List.take_zero, List.cons.injEq, and_true] at r0
    obtain rfl := r0
    obtain ⟨a1, r1, _, w1⟩ := DataW.trod_int Tryd.underlying5 e1
    simp only [List.drop_succ_cons, List.drop_zero, List.take_succ_cons, List.take_zero, List.cons.injEq, and_true] at r1
    obtain rfl := r1
    obtain ⟨a2, r2, _, w2⟩ := DataW.trod_int Tryd.underlying5 e2
    simp only [List.drop_succ_cons, List.drop_zero, List.take_succ_cons, List.take_zero, List.cons.injEq, and_true] at r2
    obtain rfl := r2
    obtain ⟨a3, r3, _, w3⟩ := DataW.trod_int Tryd.underlying5 e3
    simp only [List.drop_succ_cons, List.drop_zero, List.take_succ_cons, List.take_zero, List.cons.injEq, and_true] at r3
    obtain rfl := r3
    obtain ⟨a4, r4, _, w4⟩ := DataW.trod_int Tryd.underlying5 e4
    simp only [List.drop_succ_cons, List.drop_zero, List.take_succ_cons, List.take_zero, List.cons.injEq, and_true] at r4
    obtain rfl := r4
    obtain ⟨a5, r5, _, w5⟩ := DataW.trod_int Tryd.underlying5 e5
    simp only [List.drop_succ_cons, List.drop_zero, List.take_succ_cons, List.take_zero, List.cons.injEq, and_true] at r5
    obtain rfl := r5
    obtain ⟨a6, r6, _, w6⟩ := DataW.trod_int Tryd.underlying5 e6
    simp only [List.drop_succ_cons, List.drop_zero, List.take_succ_cons, List.take_zero, List.cons.injEq, and_true] at r6
    obtain rfl := r6
    obtain ⟨a7, r7, _, w7⟩ := DataW.trod_int Tryd.underlying5 e7
    simp only [List.drop_succ_cons, List.drop_zero, List.take_succ_cons, List.take_zero, List.cons.injEq, and_true] at r7
    obtain rfl := r7
    obtain ⟨a8, r8, _, w8⟩ := DataW.trod_int Tryd.underlying5 e8
    simp only [List.drop_succ_cons, List.drop_zero, List.take_succ_cons, List.take_zero, List.cons.injEq, and_true] at r8
    obtain rfl := r8
    obtain ⟨a9, r9, _, w9⟩ := DataW.trod_int Tryd.underlying5 e9
    simp only [List.drop_succ_cons, List.drop_zero, List.take_succ_cons, List.take_zero, List.cons.injEq, and_true] at r9
    obtain rfl := r9
    obtain ⟨a10, r10, _, w10⟩ := DataW.trod_int Tryd.underlying5 e10
    simp only [List.drop_succ_cons, List.drop_zero, List.take_succ_cons, List.take_zero, List.cons.injEq, and_true] at r10
    obtain rfl := r10
    obtain ⟨a11, r11, _, w11⟩ := DataW.trod_int Tryd.underlying5 e11
    simp only [List.drop_succ_cons, List.drop_zero, List.take_succ_cons, List.take_zero, List.cons.injEq, and_true] at r11
    obtain rfl := r11
    obtain ⟨a12, r12, _, w12⟩ := DataW.trod_int Tryd.underlying5 e12
    simp only [List.drop_succ_cons, List.drop_zero, List.take_succ_cons, List.take_zero, List.cons.injEq, and_true] at r12
    obtain rfl := r12
    obtain ⟨a13, r13, _, w13⟩ := DataW.trod_int Tryd.underlying5 e13
    simp only [List.drop_succ_cons, List.drop_zero, List.take_succ_cons, List.take_zero, List.cons.injEq, and_true] at r13
    obtain rfl := r13
    obtain ⟨a14, r14, _, w14⟩ := DataW.trod_int Tryd.underlying5 e14
    simp only [List.drop_succ_cons, List.drop_zero, List.take_succ_cons, List.take_zero, List.cons.injEq, and_true] at r14
    obtain rfl := r14
    obtain ⟨a15, r15, _, w15⟩ := DataW.trod_int Tryd.underlying5 e15
    simp only [List.drop_succ_cons, List.drop_zero, List.take_succ_cons, List.take_zero, List.cons.injEq, and_true] at r15
    obtain rfl := r15
    exact ⟨a0, a1, a2, a3, a4, a5, a6, a7, a8, a9, a10, a11, a12, a13, a14, a15, rfl, w0, w1, w2, w3, w4, w5, w6, w7, w8, w9, w10, w11, w12, w13, w14, w15⟩
theorem cells26 : Tryd.prog.cellsOf 26 = 21 := by kernel_rfl
theorem flat26 {H : Type} {enc : TypeId × Value → H} {W : World} : ∀ fuel cs x, DataW.trod enc Tryd.prog W 0 (fun _ => true) true fuel 26 cs = some x → ∃ (a0 : Int) (a1 : Int) (a2 : Int) (a3 : Int) (a4 : Int) (a5 : Int) (a6 : Int) (a7 : Int) (a8 : Int) (a9 : Int) (a10 : Int) (a11 : Int) (a12 : Int) (a13 : Int) (a14 : Int) (a15 : Int) (a16 : Int) (a17 : Int) (a18 : Int) (a19 : Int) (a20 : Int), cs = [.int .i64 a0, .int .u8 a1, .int .u8 a2, .int .u8 a3, .int .u8 a4, .int .u8 a5, .int .u8 a6, .int .u8 a7, .int .u8 a8, .int .u8 a9, .int .u8 a10, .int .u8 a11, .int .u8 a12, .int .u8 a13, .int .u8 a14, .int .u8 a15, .int .u8 a16, .int .u8 a17, .int .u8 a18, .int .u8 a19, .int .u8 a20] ∧ (Lit.int .i64 a0).wf = true ∧ (Lit.int .u8 a1).wf = true ∧ (Lit.int .u8 a2).wf = true ∧ (Lit.int .u8 a3).wf = true ∧ (Lit.int .u8 a4).wf = true ∧ (Lit.int .u8 a5).wf = true ∧ (Lit.int .u8 a6).wf = true ∧ (Lit.int .u8 a7).wf = true ∧ (Lit.int .u8 a8).wf = true ∧ (Lit.int .u8 a9).wf = true ∧ (Lit.int .u8 a10).wf = true ∧ (Lit.int .u8 a11).wf = true ∧ (Lit.int .u8 a12).wf = true ∧ (Lit.int .u8 a13).wf = true ∧ (Lit.int .u8 a14).wf = true ∧ (Lit.int .u8 a15).wf = true ∧ (Lit.int .u8 a16).wf = true ∧ (Lit.int .u8 a17).wf = true ∧ (Lit.int .u8 a18).wf = true ∧ (Lit.int .u8 a19).wf = true ∧ (Lit.int .u8 a20).wf = true := by
  intro fuel cs x h
  obtain ⟨xs, n, rfl, _, hl, hn, hf⟩ := DataW.trod_struct Tryd.underlying26 h
  rw [cells26] at hl
  match cs, hl with
  | [q0, q1, q2, q3, q4, q5, q6, q7, q8, q9, q10, q11, q12, q13, q14, q15, q16, q17, q18, q19, q20], _ =>
    have hx : xs.length = 3 := hn
    have e0 : DataW.trod enc Tryd.prog W 0 (fun _ => true) true n 3 (([q0, q1, q2, q3, q4, q5, q6, q7, q8, q9, q10, q11, q12, q13, q14, q15, q16, q17, q18, q19, q20].drop 0).take (Tryd.prog.cellsOf 3)) = xs[0]? := hf 0 _ rfl
    rw [cells3, List.getElem?_eq_getElem (by omega)] at e0
    have e1 : DataW.trod enc Tryd.prog W 0 (fun _ => true) true n 23 (([q0, q1, q2, q3, q4, q5, q6, q7, q8, q9, q10, q11, q12, q13, q14, q15, q16, q17, q18, q19, q20].drop 1).take (Tryd.prog.cellsOf 23)) = xs[1]? := hf 1 _ rfl
    rw [cells23, List.getElem?_eq_getElem (by omega)] at e1
    have e2 : DataW.trod enc Tryd.prog W 0 (fun _ => true) true n 24 (([q0, q1, q2, q3, q4, q5, q6, q7, q8, q9, q10, q11, q12, q13, q14, q15, q16, q17, q18, q19, q20].drop 5).take (Tryd.prog.cellsOf 24)) = xs[2]? := hf 2 _ rfl
    rw [cells24, List.getElem?_eq_getElem (by omega)] at e2
    obtain ⟨a0, r0, _, w0⟩ := DataW.trod_int Tryd.underlying3 e0
    simp only [List.drop_succ_cons, List.drop_zero, List.take_succ_cons, List.take_zero, List.cons.injEq, and_true] at r0
    obtain rfl := r0
    obtain ⟨a1, a2, a3, a4, r1, w1, w2, w3, w4⟩ := flat23 _ _ _ e1
    simp only [List.drop_succ_cons, List.drop_zero, List.take_succ_cons, List.take_zero, List.cons.injEq, and_true] at r1
    obtain ⟨rfl, rfl, rfl, rfl⟩ := r1
    obtain ⟨a5, a6, a7, a8, a9, a10, a11, a12, a13, a14, a15, a16, a17, a18, a19, a20, r2, w5, w6, w7, w8, w9, w10, w11, w12, w13, w14, w15, w16, w17, w18, w19, w20⟩ := flat24 _ _ _ e2
    simp only [List.drop_succ_cons, List.drop_zero, List.take_succ_cons, List.take_zero, List.cons.injEq, and_true] at r2
    obtain ⟨rfl, rfl, rfl, rfl, rfl, rfl, rfl, rfl, rfl, rfl, rfl, rfl, rfl, rfl, rfl, rfl⟩ := r2
    exact ⟨a0, a1, a2, a3, a4, a5, a6, a7, a8, a9, a10, a11, a12, a13, a14, a15, a16, a17, a18, a19, a20, rfl, w0, w1, w2, w3, w4, w5, w6, w7, w8, w9, w10, w11, w12, w13, w14, w15, w16, w17, w18, w19, w20⟩
def wf24 (x : S24) : Prop := ((Lit.int .u8 x.f0).wf = true) ∧ ((Lit.int .u8 x.f1).wf = true) ∧ ((Lit.int .u8 x.f2).wf = true) ∧ ((Lit.int .u8 x.f3).wf = true) ∧ ((Lit.int .u8 x.f4).wf = true) ∧ ((Lit.int .u8 x.f5).wf = true) ∧ ((Lit.int .u8 x.f6).wf = true) ∧ ((Lit.int .u8 x.f7).wf = true) ∧ ((Lit.int .u8 x.f8).wf = true) ∧ ((Lit.int .u8 x.f9).wf = true) ∧ ((Lit.int .u8 x.f10).wf = true) ∧ ((Lit.int .u8 x.f11).wf = true) ∧ ((Lit.int .u8 x.f12).wf = true) ∧ ((Lit.int .u8 x.f13).wf = true) ∧ ((Lit.int .u8 x.f14).wf = true) ∧ ((Lit.int .u8 x.f15).wf = true)
def wf26 (x : S26) : Prop := ((Lit.int .i64 x.f0).wf = true) ∧ (wf23 x.f1) ∧ (wf24 x.f2)
theorem opn26 {H : Type} {enc : TypeId × Value → H} {W : World} : Opn enc Tryd.prog W 26 k26 wf26 := by
  intro fuel cs x h
  obtain ⟨a0, a1, a2, a3, a4, a5, a6, a7, a8, a9, a10, a11, a12, a13, a14, a15, a16, a17, a18, a19, a20, rfl, w0, w1, w2, w3, w4, w5, w6, w7, w8, w9, w10, w11, w12, w13, w14, w15, w16, w17, w18, w19, w20⟩ := flat26 fuel cs x h
  exact ⟨(⟨a0, (⟨a1, a2, a3, a4⟩ : S23), (⟨a5, a6, a7, a8, a9, a10, a11, a12, a13, a14, a15, a16, a17, a18, a19, a20⟩ : S24)⟩ : S26), k26_mk W _ , ⟨w0, ⟨w1, w2, w3, w4⟩, ⟨w5, w6, w7, w8, w9, w10, w11, w12, w13, w14, w15, w16, w17, w18, w19, w20⟩⟩⟩
end Go.Proofs.YtgmdpghbkjlnhaaDoor.Q
end
section
namespace Go.Proofs.YtgmdpghbkjlnhaaDoor.Q
open Go.ChangeShapes Go.WideShapes Go.ChangeAt Go.WideMaps Go.WideElems Go.RowKit
open Go.Proofs.YtgmdpghbkjlnhaaDoorW.PrintWords Go.Proofs.YtgmdpghbkjlnhaaDoorW.PrintLast Go.Proofs.YtgmdpghbkjlnhaaDoorW.PrintMore
open Go.Proofs.YtgmdpghbkjlnhaaDoor.Opn
set_option linter.unusedVariables false

theorem gUses : Tryd.prog.globalNamed "attestor/isa.uses" = some 0 := by kernel_rfl
theorem tUses : (Tryd.prog.globals[0]?).map (·.type) = some 61 := by kernel_rfl
abbrev laid1 : List (String × DataW Unit) := [("attestor/isa.uses", Rows.laid_attestor_isa_uses)]
theorem cellsB : Tryd.prog.cellsOf 5 = 1 := by kernel_rfl
/-- The condition gives the fact. -/
theorem gl_of_laid {W : World} (h : laidMetH Tryd.prog laid1 W) : GL W := by
  rw [MakeChecks.laidMetH_plain _ _ _ (by kernel_rfl)] at h
  obtain ⟨ps, ⟨g0, t0, cs0, f0, p0, q0, hg0, ht0, hv0, hd0, _, _⟩, _, _⟩ := h
  obtain rfl := Option.some.inj (gUses.symm.trans hg0)
  obtain rfl := Option.some.inj (tUses.symm.trans ht0)
  obtain ⟨xs, m1, rfl, hx1, hlen, hn, hel⟩ := DataW.trod_array Tryd.underlying61 hd0
  simp only [Prod.mk.injEq, Rows.laid_attestor_isa_uses, DataW.agg.injEq] at hx1
  refine ⟨fun j hj => ?_⟩
  have hj1 := hel j hj
  rw [List.getElem?_eq_getElem (by omega : j < xs.length)] at hj1
  obtain ⟨k, e1, e2, _⟩ := DataW.trod_int Tryd.underlying5 hj1
  have hv := World.var?_cell hg0 hv0 j
  have hk : k = usesL.getD j 0 := by
    have : (xs.map (·.1))[j]? = some (.lit (.int .u8 k)) := by rw [List.getElem?_map, List.getElem?_eq_getElem (by omega : j < xs.length), Option.map_some, e2]
    rw [← hx1.1] at this
    rcases (show j = 0 ∨ j = 1 ∨ j = 2 ∨ j = 3 ∨ j = 4 ∨ j = 5 ∨ j = 6 ∨ j = 7 ∨ j = 8 by omega) with rfl | rfl | rfl | rfl | rfl | rfl | rfl | rfl | rfl <;> simpa [usesL] using this.symm
  rw [hv, ← hk]
  rw [cellsB, Nat.mul_one] at e1
  have : (cs0.toList.drop j)[0]? = some (.int .u8 k) := by
    have h2 : ((cs0.toList.drop j).take 1)[0]? = some (.int .u8 k) := by rw [e1]; rfl
    rwa [List.getElem?_take, if_pos (by omega)] at h2
  rw [List.getElem?_drop, Nat.add_zero] at this
  simpa using this
/-- The door's own heap meets the condition. -/
theorem door_met (os : Os) (args : Array Value) : laidMetH Tryd.prog laid1 ((World.doorLaid Tryd.prog 400 os).forCall (fun _ _ => 0) ⟨#[], args, []⟩).memory :=
  laidMetH_of_parts3 (fuel := 8) (laidMet_of_run' 8 (by kernel_rfl) (by kernel_rfl)) (by kernel_rfl) (by kernel_rfl)

theorem u8_bounds {x : Int} (h : (Lit.int .u8 x).wf = true) : 0 ≤ x ∧ x ≤ 255 := by
  simp [Lit.wf, IntKind.min, IntKind.max, IntKind.signed, IntKind.bits] at h
  omega
theorem wf_i64 {x : Int} (h : (Lit.int .i64 x).wf = true) : -9223372036854775808 ≤ x ∧ x ≤ 9223372036854775807 := by
  simp [Lit.wf, IntKind.min, IntKind.max, IntKind.signed, IntKind.bits] at h
  omega
end Go.Proofs.YtgmdpghbkjlnhaaDoor.Q
end
section
namespace Go.Proofs.YtgmdpghbkjlnhaaDoor.Q
open Go.RowKit Go.Proofs.YtgmdpghbkjlnhaaDoorW.PrintWords Go.Proofs.YtgmdpghbkjlnhaaDoor.Opn
theorem wfI_of {i : S47} (h : wf47 i) : wfI i := ⟨u8_bounds h.1, u8_bounds h.2.1, u8_bounds h.2.2.1, u8_bounds h.2.2.2⟩
theorem okS_mk {a0 a1 a2 a3 a4 a5 a6 a7 a8 a9 a10 a11 a12 a13 a14 a15 a16 a17 a18 a19 a20 : Int} (w1 : (Lit.int .u8 a1).wf = true) (w2 : (Lit.int .u8 a2).wf = true) (w3 : (Lit.int .u8 a3).wf = true) (w4 : (Lit.int .u8 a4).wf = true) (w5 : (Lit.int .u8 a5).wf = true) (w6 : (Lit.int .u8 a6).wf = true) (w7 : (Lit.int .u8 a7).wf = true) (w8 : (Lit.int .u8 a8).wf = true) (w9 : (Lit.int .u8 a9).wf = true) (w10 : (Lit.int .u8 a10).wf = true) (w11 : (Lit.int .u8 a11).wf = true) (w12 : (Lit.int .u8 a12).wf = true) (w13 : (Lit.int .u8 a13).wf = true) (w14 : (Lit.int .u8 a14).wf = true) (w15 : (Lit.int .u8 a15).wf = true) (w16 : (Lit.int .u8 a16).wf = true) (w17 : (Lit.int .u8 a17).wf = true) (w18 : (Lit.int .u8 a18).wf = true) (w19 : (Lit.int .u8 a19).wf = true) (w20 : (Lit.int .u8 a20).wf = true) : okS ⟨a0, a1, a2, a3, a4, a5, a6, a7, a8, a9, a10, a11, a12, a13, a14, a15, a16, a17, a18, a19, a20⟩ := by
  intro v hv
  simp only [List.mem_cons, List.not_mem_nil, or_false] at hv
  rcases hv with rfl | rfl | rfl | rfl | rfl | rfl | rfl | rfl | rfl | rfl | rfl | rfl | rfl | rfl | rfl | rfl | rfl | rfl | rfl | rfl
  all_goals exact u8_bounds (by assumption)
end Go.Proofs.YtgmdpghbkjlnhaaDoor.Q
end
