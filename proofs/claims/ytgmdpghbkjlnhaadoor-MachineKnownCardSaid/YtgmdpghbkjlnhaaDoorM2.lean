/- Several texts in one, in build order. What they prove, each by its own first remark:
Written by our own copy of a printing program (a twelfth state) out of the translation. Not trusted: Lean checks it.
What the listed variable 'uses' holds, as a fact on a world that stays while only new memory is made.
How what is read as an argument is told to the walks: a kind of the words for each type, and that its numbers are of their kinds.
From the card's condition on the variable 'uses' to the fact that the contracts ask; how a program (a slice of instructions) is read.
The contract of isa.fits, which reads the variable 'uses'.
Of PIsa what this claim needs.
A cell of an array of whole numbers at a variable place.
Of PMach what this claim needs.
Of LMore what this claim needs.
Short names for what stands often in the printed texts (slim.py puts them there).
'==' of arrays as one Bool.
A record of many cells stored whole: one step, and the world behind it has a letter. -/
import Derived.Test.YtgmdpghbkjlnhaaDoorProg
import Derived.Below
import Derived.Deep.Draws
import Derived.Deep.AppendLies
import Derived.Maps.AppendAt
import Derived.OwnWalk
import Derived.Laws.BytesArg
import Derived.Laws.MakeOwn
import Derived.Laws.OwnMore
import Derived.Deep.OwnRows
import Derived.Tactics
import Derived.Lib.ConvBytes
import Derived.Laws.Slices
import Derived.WalkKit
import Derived.KernelRfl
import Derived.RowKit3
import Derived.Deep.LoopGhost
import Derived.Deep.QuietTactic
import Derived.BigQuiet
import Derived.WideLaws
import Derived.Deep.DeepCutAuto
import Derived.Deep.CutBlock
import Derived.Deep.RegionHeld3
import Derived.Laws.Rows
import Derived.Lib.AppendStr
import Derived.ArgAppend
import Derived.Laws.IdiomCopy
import Derived.OrdersHeld
import Derived.Laws.BitsLemmas
import Derived.RowKit
import Derived.Test.YtgmdpghbkjlnhaaDoorM1
import Derived.ChangeArms
import Derived.Deep.Slices
import Derived.OpenShut
import Derived.ProofKit
import Derived.SizedLaws
import Derived.Test.YtgmdpghbkjlnhaaDoorRows
import Derived.LaidMore
import Derived.Lib.SmallJoins
import Derived.Stop.Joined
import Derived.ChangeKeysEq
import Derived.Laws.CopyOwn
import Derived.Laws.Tables
import Derived.Laws.Cells
section
namespace Go.Proofs.YtgmdpghbkjlnhaaDoor.Q
open Go.RowKit Go.Proofs.YtgmdpghbkjlnhaaDoorW.PrintWords Go.Proofs.YtgmdpghbkjlnhaaDoorW.PrintLast Go.Proofs.YtgmdpghbkjlnhaaDoorW.PrintMore
attribute [local go_sem] max2_int min2_int max_two min_two max_three min_three max_four min_four   -- for this text's walks alone
set_option linter.unusedVariables false
set_option linter.unusedSimpArgs false



def errW : Option Int → Value
  | none => .nilIface
  | some c => .iface 0 (.int .i64 c)
theorem errW_none : errW none = .nilIface := rfl
theorem errW_some (c : Int) : errW (some c) = .iface 0 (.int .i64 c) := rfl

theorem info3 : (Tryd.prog.info? 3).map (fun i => (i.zero, i.size, i.bytes)) = some (some (.int .i64 0), 1, 8) := by kernel_rfl
theorem info26 : (Tryd.prog.info? 26).map (fun i => (i.zero, i.size, i.bytes)) = some (some (.agg #[(.int .i64 0), (.int .u8 0), (.int .u8 0), (.int .u8 0), (.int .u8 0), (.int .u8 0), (.int .u8 0), (.int .u8 0), (.int .u8 0), (.int .u8 0), (.int .u8 0), (.int .u8 0), (.int .u8 0), (.int .u8 0), (.int .u8 0), (.int .u8 0), (.int .u8 0), (.int .u8 0), (.int .u8 0), (.int .u8 0), (.int .u8 0)]), 21, 32) := by kernel_rfl
theorem info47 : (Tryd.prog.info? 47).map (fun i => (i.zero, i.size, i.bytes)) = some (some (.agg #[(.int .u8 0), (.int .u8 0), (.int .u8 0), (.int .u8 0)]), 4, 4) := by kernel_rfl
/-- A function value: its number; nil below 0. -/
def fnV : Int → Value
  | .ofNat n => .func (.func n) #[] #[]
  | .negSucc _ => .nilFunc
def kfn : Kd Int := Kd.scalar fnV (fun x => by cases x <;> rfl)
theorem heap_fn : Kd.Heap kfn := ⟨fun _ h => h⟩
theorem run_store_fnV (P : Program) (w : World) (a : Addr) (m : Mode) (x : Int) : (store a (fnV x) m).run P w = stored P w a (fnV x) m := run_store P w a _ m (by cases x <;> rfl)
theorem run_store_fnc (P : Program) (w : World) (a : Addr) (m : Mode) (fn : Fn) (first captured : Array Value) : (store a (.func fn first captured) m).run P w = stored P w a (.func fn first captured) m := run_store P w a _ m rfl
theorem run_store_nfn (P : Program) (w : World) (a : Addr) (m : Mode) : (store a .nilFunc m).run P w = stored P w a .nilFunc m := run_store P w a _ m rfl
/-- A call of a function value. -/
theorem goesF_ {P : Program} {ops : Array Oper} {Q : Exit → Act → World → Prop} {rest : List Oper} {oi : Oper} {a : Act} {w : World} (N : Option Tmp) (hd : oi.dst = N) (hg : oi.guard = none) {f : FuncId} {fn : Func} {t : Tmp} {ar : Array Operand} {ts : Array TypeId} (hf : P.funcs[f]? = some fn) (hname : (fn.name == "runtime.NumGoroutine") = false) (hb : fn.body.isSome = true) (args : Array Value)
    (hop : oi.op = .call { callee := .value (.tmp t), args := ar, argTypes := ts }) (hfn : a.eval (.tmp t) = .func (.func f) #[] #[]) (hargs : ar.map a.eval = args)
    (h : Calls P f args w fun e w' => ∃ v, e = .returned v ∧ wpList P ops Q rest (a.put N v) w') : wpList P ops Q (oi :: rest) a w := by
  refine wpList_plain hg fun K hK => ?_
  have he := enters_ hf hname hb args w
  have hrun : (execOp a.eval oi).run P w = .ok (.enter f args) w := by
    unfold execOp
    simp [hop, resolve, Deferred.ofValue, invoke, hfn, hargs, he]
  unfold Oper.wp
  rw [hrun, Oper.upon_enter]
  refine h.mono fun e w'' hh => ?_
  obtain ⟨v, rfl, hk⟩ := hh
  subst hd
  exact hK _ _ hk
/-- A call of a function value in a region that draws. -/
theorem goesG_ {P : Program} {ops : Array Oper} {Q : Exit → Act → World → Prop} {oi : Oper} {N : Option Tmp} {a : Act} {w : World} {K : Act → World → Prop} {f : FuncId} {fn : Func} {t : Tmp} {ar : Array Operand} {ts : Array TypeId} (hf : P.funcs[f]? = some fn) (hname : (fn.name == "runtime.NumGoroutine") = false) (hb : fn.body.isSome = true) (args : Array Value)
    (hw : Region.wanted oi (yielded ops a.tmps) = true) (hN : oi.dst = N) (hop : oi.op = .call { callee := .value (.tmp t), args := ar, argTypes := ts }) (hfn : a.eval (.tmp t) = .func (.func f) #[] #[]) (hargs : ar.map a.eval = args)
    (h : Calls P f args w fun e w' => ∃ v, e = .returned v ∧ K (a.put N v) w') : if Region.wanted oi (yielded ops a.tmps) = true then Oper.wp P oi a w K Q else K (a.put N undef) w := by
  refine call_ f args hw hN ?_ h
  have he := enters_ hf hname hb args w
  unfold execOp
  simp [hop, resolve, Deferred.ofValue, invoke, hfn, hargs, he]

-- the values' own types
/-! #### struct type 47 -/
structure S47 where
  f0 : Int
  f1 : Int
  f2 : Int
  f3 : Int
def z47 : S47 := ⟨(0 : Int), (0 : Int), (0 : Int), (0 : Int)⟩
def k47 : Kd S47 := Kd.iso (Kd.pair (Kd.int .u8) (Kd.pair (Kd.int .u8) (Kd.pair (Kd.int .u8) (Kd.int .u8)))) (fun x : S47 => (x.f0, x.f1, x.f2, x.f3))
theorem k47_open {w : World} {x : S47} {cs : List Value} (h : k47.K w x cs) : cs = [.int .u8 x.f0, .int .u8 x.f1, .int .u8 x.f2, .int .u8 x.f3] := by
  obtain ⟨_, _, rfl, rfl, ⟨_, _, rfl, rfl, ⟨_, _, rfl, rfl, rfl⟩⟩⟩ := h
  exact rfl
theorem k47_openM {w : World} {base : Nat} {ok : Nat → Prop} {x : S47} {cs : List Value} (h : k47.M w base ok x cs) : cs = [.int .u8 x.f0, .int .u8 x.f1, .int .u8 x.f2, .int .u8 x.f3] := by
  obtain ⟨_, _, rfl, rfl, ⟨_, _, rfl, rfl, ⟨_, _, rfl, rfl, rfl⟩⟩⟩ := h
  exact rfl
theorem k47_mk (w : World) (x : S47)  : k47.K w x [.int .u8 x.f0, .int .u8 x.f1, .int .u8 x.f2, .int .u8 x.f3] := ⟨[.int .u8 x.f0], [.int .u8 x.f1, .int .u8 x.f2, .int .u8 x.f3], rfl, rfl, ⟨[.int .u8 x.f1], [.int .u8 x.f2, .int .u8 x.f3], rfl, rfl, ⟨[.int .u8 x.f2], [.int .u8 x.f3], rfl, rfl, rfl⟩⟩⟩
theorem k47_mkM (w : World) (base : Nat) (ok : Nat → Prop) (x : S47)  : k47.M w base ok x [.int .u8 x.f0, .int .u8 x.f1, .int .u8 x.f2, .int .u8 x.f3] := ⟨[.int .u8 x.f0], [.int .u8 x.f1, .int .u8 x.f2, .int .u8 x.f3], rfl, rfl, ⟨[.int .u8 x.f1], [.int .u8 x.f2, .int .u8 x.f3], rfl, rfl, ⟨[.int .u8 x.f2], [.int .u8 x.f3], rfl, rfl, rfl⟩⟩⟩
def rd_T47 (xs : List S47) (i : Int) : S47 := xs.getD i.toNat z47
theorem at_T47 {w : World} {A : Option Addr} {n : Nat} {xs : List S47} (h : Kd.C k47 w A n xs) (i : Int) (h0 : 0 ≤ i) (h1 : i < n) : ∃ ad , A = some ad ∧ w.cell? (ad.add (i.toNat * 4)) = some (.int .u8 (rd_T47 xs i).f0) ∧ w.cell? ⟨(ad.add (i.toNat * 4)).block, (ad.add (i.toNat * 4)).off + 1, none⟩ = some (.int .u8 (rd_T47 xs i).f1) ∧ w.cell? ⟨(ad.add (i.toNat * 4)).block, (ad.add (i.toNat * 4)).off + 2, none⟩ = some (.int .u8 (rd_T47 xs i).f2) ∧ w.cell? ⟨(ad.add (i.toNat * 4)).block, (ad.add (i.toNat * 4)).off + 3, none⟩ = some (.int .u8 (rd_T47 xs i).f3) := by
  obtain ⟨ad, c, e, _, hK, hc0⟩ := Kd.C_get h z47 i h0 h1
  have hc : ∀ j u, c[j]? = some u → w.cell? (ad.add (i.toNat * 4 + j)) = some u := hc0
  obtain rfl := k47_open hK
  exact ⟨ad, e, hc 0 _ rfl, by rw [← add_field _ _ 1 (by omega)]; exact hc 1 _ rfl, by rw [← add_field _ _ 2 (by omega)]; exact hc 2 _ rfl, by rw [← add_field _ _ 3 (by omega)]; exact hc 3 _ rfl⟩

/-! #### struct type 23 -/
structure S23 where
  f0 : Int
  f1 : Int
  f2 : Int
  f3 : Int
def z23 : S23 := ⟨(0 : Int), (0 : Int), (0 : Int), (0 : Int)⟩
def k23 : Kd S23 := Kd.iso (Kd.pair (Kd.int .u8) (Kd.pair (Kd.int .u8) (Kd.pair (Kd.int .u8) (Kd.int .u8)))) (fun x : S23 => (x.f0, x.f1, x.f2, x.f3))
theorem k23_open {w : World} {x : S23} {cs : List Value} (h : k23.K w x cs) : cs = [.int .u8 x.f0, .int .u8 x.f1, .int .u8 x.f2, .int .u8 x.f3] := by
  obtain ⟨_, _, rfl, rfl, ⟨_, _, rfl, rfl, ⟨_, _, rfl, rfl, rfl⟩⟩⟩ := h
  exact rfl
theorem k23_openM {w : World} {base : Nat} {ok : Nat → Prop} {x : S23} {cs : List Value} (h : k23.M w base ok x cs) : cs = [.int .u8 x.f0, .int .u8 x.f1, .int .u8 x.f2, .int .u8 x.f3] := by
  obtain ⟨_, _, rfl, rfl, ⟨_, _, rfl, rfl, ⟨_, _, rfl, rfl, rfl⟩⟩⟩ := h
  exact rfl
theorem k23_mk (w : World) (x : S23)  : k23.K w x [.int .u8 x.f0, .int .u8 x.f1, .int .u8 x.f2, .int .u8 x.f3] := ⟨[.int .u8 x.f0], [.int .u8 x.f1, .int .u8 x.f2, .int .u8 x.f3], rfl, rfl, ⟨[.int .u8 x.f1], [.int .u8 x.f2, .int .u8 x.f3], rfl, rfl, ⟨[.int .u8 x.f2], [.int .u8 x.f3], rfl, rfl, rfl⟩⟩⟩
theorem k23_mkM (w : World) (base : Nat) (ok : Nat → Prop) (x : S23)  : k23.M w base ok x [.int .u8 x.f0, .int .u8 x.f1, .int .u8 x.f2, .int .u8 x.f3] := ⟨[.int .u8 x.f0], [.int .u8 x.f1, .int .u8 x.f2, .int .u8 x.f3], rfl, rfl, ⟨[.int .u8 x.f1], [.int .u8 x.f2, .int .u8 x.f3], rfl, rfl, ⟨[.int .u8 x.f2], [.int .u8 x.f3], rfl, rfl, rfl⟩⟩⟩
def rd_T23 (xs : List S23) (i : Int) : S23 := xs.getD i.toNat z23
theorem at_T23 {w : World} {A : Option Addr} {n : Nat} {xs : List S23} (h : Kd.C k23 w A n xs) (i : Int) (h0 : 0 ≤ i) (h1 : i < n) : ∃ ad , A = some ad ∧ w.cell? (ad.add (i.toNat * 4)) = some (.int .u8 (rd_T23 xs i).f0) ∧ w.cell? ⟨(ad.add (i.toNat * 4)).block, (ad.add (i.toNat * 4)).off + 1, none⟩ = some (.int .u8 (rd_T23 xs i).f1) ∧ w.cell? ⟨(ad.add (i.toNat * 4)).block, (ad.add (i.toNat * 4)).off + 2, none⟩ = some (.int .u8 (rd_T23 xs i).f2) ∧ w.cell? ⟨(ad.add (i.toNat * 4)).block, (ad.add (i.toNat * 4)).off + 3, none⟩ = some (.int .u8 (rd_T23 xs i).f3) := by
  obtain ⟨ad, c, e, _, hK, hc0⟩ := Kd.C_get h z23 i h0 h1
  have hc : ∀ j u, c[j]? = some u → w.cell? (ad.add (i.toNat * 4 + j)) = some u := hc0
  obtain rfl := k23_open hK
  exact ⟨ad, e, hc 0 _ rfl, by rw [← add_field _ _ 1 (by omega)]; exact hc 1 _ rfl, by rw [← add_field _ _ 2 (by omega)]; exact hc 2 _ rfl, by rw [← add_field _ _ 3 (by omega)]; exact hc 3 _ rfl⟩

/-! #### struct type 24 -/
structure S24 where
  f0 : Int
  f1 : Int
  f2 : Int
  f3 : Int
  f4 : Int
  f5 : Int
  f6 : Int
  f7 : Int
  f8 : Int
  f9 : Int
  f10 : Int
  f11 : Int
  f12 : Int
  f13 : Int
  f14 : Int
  f15 : Int
def z24 : S24 := ⟨(0 : Int), (0 : Int), (0 : Int), (0 : Int), (0 : Int), (0 : Int), (0 : Int), (0 : Int), (0 : Int), (0 : Int), (0 : Int), (0 : Int), (0 : Int), (0 : Int), (0 : Int), (0 : Int)⟩
def k24 : Kd S24 := Kd.iso (Kd.pair (Kd.int .u8) (Kd.pair (Kd.int .u8) (Kd.pair (Kd.int .u8) (Kd.pair (Kd.int .u8) (Kd.pair (Kd.int .u8) (Kd.pair (Kd.int .u8) (Kd.pair (Kd.int .u8) (Kd.pair (Kd.int .u8) (Kd.pair (Kd.int .u8) (Kd.pair (Kd.int .u8) (Kd.pair (Kd.int .u8) (Kd.pair (Kd.int .u8) (Kd.pair (Kd.int .u8) (Kd.pair (Kd.int .u8) (Kd.pair (Kd.int .u8) (Kd.int .u8)))))))))))))))) (fun x : S24 => (x.f0, x.f1, x.f2, x.f3, x.f4, x.f5, x.f6, x.f7, x.f8, x.f9, x.f10, x.f11, x.f12, x.f13, x.f14, x.f15))
theorem k24_open {w : World} {x : S24} {cs : List Value} (h : k24.K w x cs) : cs = [.int .u8 x.f0, .int .u8 x.f1, .int .u8 x.f2, .int .u8 x.f3, .int .u8 x.f4, .int .u8 x.f5, .int .u8 x.f6, .int .u8 x.f7, .int .u8 x.f8, .int .u8 x.f9, .int .u8 x.f10, .int .u8 x.f11, .int .u8 x.f12, .int .u8 x.f13, .int .u8 x.f14, .int .u8 x.f15] := by
  obtain ⟨_, _, rfl, rfl, ⟨_, _, rfl, rfl, ⟨_, _, rfl, rfl, ⟨_, _, rfl, rfl, ⟨_, _, rfl, rfl, ⟨_, _, rfl, rfl, ⟨_, _, rfl, rfl, ⟨_, _, rfl, rfl, ⟨_, _, rfl, rfl, ⟨_, _, rfl, rfl, ⟨_, _, rfl, rfl, ⟨_, _, rfl, rfl, ⟨_, _, rfl, rfl, ⟨_, _, rfl, rfl, ⟨_, _, rfl, rfl, rfl⟩⟩⟩⟩⟩⟩⟩⟩⟩⟩⟩⟩⟩⟩⟩ := h
  exact rfl
theorem k24_openM {w : World} {base : Nat} {ok : Nat → Prop} {x : S24} {cs : List Value} (h : k24.M w base ok x cs) : cs = [.int .u8 x.f0, .int .u8 x.f1, .int .u8 x.f2, .int .u8 x.f3, .int .u8 x.f4, .int .u8 x.f5, .int .u8 x.f6, .int .u8 x.f7, .int .u8 x.f8, .int .u8 x.f9, .int .u8 x.f10, .int .u8 x.f11, .int .u8 x.f12, .int .u8 x.f13, .int .u8 x.f14, .int .u8 x.f15] := by
  obtain ⟨_, _, rfl, rfl, ⟨_, _, rfl, rfl, ⟨_, _, rfl, rfl, ⟨_, _, rfl, rfl, ⟨_, _, rfl, rfl, ⟨_, _, rfl, rfl, ⟨_, _, rfl, rfl, ⟨_, _, rfl, rfl, ⟨_, _, rfl, rfl, ⟨_, _, rfl, rfl, ⟨_, _, rfl, rfl, ⟨_, _, rfl, rfl, ⟨_, _, rfl, rfl, ⟨_, _, rfl, rfl, ⟨_, _, rfl, rfl, rfl⟩⟩⟩⟩⟩⟩⟩⟩⟩⟩⟩⟩⟩⟩⟩ := h
  exact rfl
theorem k24_mk (w : World) (x : S24)  : k24.K w x [.int .u8 x.f0, .int .u8 x.f1, .int .u8 x.f2, .int .u8 x.f3, .int .u8 x.f4, .int .u8 x.f5, .int .u8 x.f6, .int .u8 x.f7, .int .u8 x.f8, .int .u8 x.f9, .int .u8 x.f10, .int .u8 x.f11, .int .u8 x.f12, .int .u8 x.f13, .int .u8 x.f14, .int .u8 x.f15] := ⟨[.int .u8 x.f0], [.int .u8 x.f1, .int .u8 x.f2, .int .u8 x.f3, .int .u8 x.f4, .int .u8 x.f5, .int .u8 x.f6, .int .u8 x.f7, .int .u8 x.f8, .int .u8 x.f9, .int .u8 x.f10, .int .u8 x.f11, .int .u8 x.f12, .int .u8 x.f13, .int .u8 x.f14, .int .u8 x.f15], rfl, rfl, ⟨[.int .u8 x.f1], [.int .u8 x.f2, .int .u8 x.f3, .int .u8 x.f4, .int .u8 x.f5, .int .u8 x.f6, .int .u8 x.f7, .int .u8 x.f8, .int .u8 x.f9, .int .u8 x.f10, .int .u8 x.f11, .int .u8 x.f12, .int .u8 x.f13, .int .u8 x.f14, .int .u8 x.f15], rfl, rfl, ⟨[.int .u8 x.f2], [.int .u8 x.f3, .int .u8 x.f4, .int .u8 x.f5, .int .u8 x.f6, .int .u8 x.f7, .int .u8 x.f8, .int .u8 x.f9, .int .u8 x.f10, .int .u8 x.f11, .int .u8 x.f12, .int .u8 x.f13, .int .u8 x.f14, .int .u8 x.f15], rfl, rfl, ⟨[.int .u8 x.f3], [.int .u8 x.f4, .int .u8 x.f5, .int .u8 x.f6, .int .u8 x.f7, .int .u8 x.f8, .int .u8 x.f9, .int .u8 x.f10, .int .u8 x.f11, .int .u8 x.f12, .int .u8 x.f13, .int .u8 x.f14, .int .u8 x.f15], rfl, rfl, ⟨[.int .u8 x.f4], [.int .u8 x.f5, .int .u8 x.f6, .int .u8 x.f7, .int .u8 x.f8, .int .u8 x.f9, .int .u8 x.f10, .int .u8 x.f11, .int .u8 x.f12, .int .u8 x.f13, .int .u8 x.f14, .int .u8 x.f15], rfl, rfl, ⟨[.int .u8 x.f5], [.int .u8 x.f6, .int .u8 x.f7, .int .u8 x.f8, .int .u8 x.f9, .int .u8 x.f10, .int .u8 x.f11, .int .u8 x.f12, .int .u8 x.f13, .int .u8 x.f14, .int .u8 x.f15], rfl, rfl, ⟨[.int .u8 x.f6], [.int .u8 x.f7, .int .u8 x.f8, .int .u8 x.f9, .int .u8 x.f10, .int .u8 x.f11, .int .u8 x.f12, .int .u8 x.f13, .int .u8 x.f14, .int .u8 x.f15], rfl, rfl, ⟨[.int .u8 x.f7], [.int .u8 x.f8, .int .u8 x.f9, .int .u8 x.f10, .int .u8 x.f11, .int .u8 x.f12, .int .u8 x.f13, .int .u8 x.f14, .int .u8 x.f15], rfl, rfl, ⟨[.int .u8 x.f8], [.int .u8 x.f9, .int .u8 x.f10, .int .u8 x.f11, .int .u8 x.f12, .int .u8 x.f13, .int .u8 x.f14, .int .u8 x.f15], rfl, rfl, ⟨[.int .u8 x.f9], [.int .u8 x.f10, .int .u8 x.f11, .int .u8 x.f12, .int .u8 x.f13, .int .u8 x.f14, .int .u8 x.f15], rfl, rfl, ⟨[.int .u8 x.f10], [.int .u8 x.f11, .int .u8 x.f12, .int .u8 x.f13, .int .u8 x.f14, .int .u8 x.f15], rfl, rfl, ⟨[.int .u8 x.f11], [.int .u8 x.f12, .int .u8 x.f13, .int .u8 x.f14, .int .u8 x.f15], rfl, rfl, ⟨[.int .u8 x.f12], [.int .u8 x.f13, .int .u8 x.f14, .int .u8 x.f15], rfl, rfl, ⟨[.int .u8 x.f13], [.int .u8 x.f14, .int .u8 x.f15], rfl, rfl, ⟨[.int .u8 x.f14], [.int .u8 x.f15], rfl, rfl, rfl⟩⟩⟩⟩⟩⟩⟩⟩⟩⟩⟩⟩⟩⟩⟩
theorem k24_mkM (w : World) (base : Nat) (ok : Nat → Prop) (x : S24)  : k24.M w base ok x [.int .u8 x.f0, .int .u8 x.f1, .int .u8 x.f2, .int .u8 x.f3, .int .u8 x.f4, .int .u8 x.f5, .int .u8 x.f6, .int .u8 x.f7, .int .u8 x.f8, .int .u8 x.f9, .int .u8 x.f10, .int .u8 x.f11, .int .u8 x.f12, .int .u8 x.f13, .int .u8 x.f14, .int .u8 x.f15] := ⟨[.int .u8 x.f0], [.int .u8 x.f1, .int .u8 x.f2, .int .u8 x.f3, .int .u8 x.f4, .int .u8 x.f5, .int .u8 x.f6, .int .u8 x.f7, .int .u8 x.f8, .int .u8 x.f9, .int .u8 x.f10, .int .u8 x.f11, .int .u8 x.f12, .int .u8 x.f13, .int .u8 x.f14, .int .u8 x.f15], rfl, rfl, ⟨[.int .u8 x.f1], [.int .u8 x.f2, .int .u8 x.f3, .int .u8 x.f4, .int .u8 x.f5, .int .u8 x.f6, .int .u8 x.f7, .int .u8 x.f8, .int .u8 x.f9, .int .u8 x.f10, .int .u8 x.f11, .int .u8 x.f12, .int .u8 x.f13, .int .u8 x.f14, .int .u8 x.f15], rfl, rfl, ⟨[.int .u8 x.f2], [.int .u8 x.f3, .int .u8 x.f4, .int .u8 x.f5, .int .u8 x.f6, .int .u8 x.f7, .int .u8 x.f8, .int .u8 x.f9, .int .u8 x.f10, .int .u8 x.f11, .int .u8 x.f12, .int .u8 x.f13, .int .u8 x.f14, .int .u8 x.f15], rfl, rfl, ⟨[.int .u8 x.f3], [.int .u8 x.f4, .int .u8 x.f5, .int .u8 x.f6, .int .u8 x.f7, .int .u8 x.f8, .int .u8 x.f9, .int .u8 x.f10, .int .u8 x.f11, .int .u8 x.f12, .int .u8 x.f13, .int .u8 x.f14, .int .u8 x.f15], rfl, rfl, ⟨[.int .u8 x.f4], [.int .u8 x.f5, .int .u8 x.f6, .int .u8 x.f7, .int .u8 x.f8, .int .u8 x.f9, .int .u8 x.f10, .int .u8 x.f11, .int .u8 x.f12, .int .u8 x.f13, .int .u8 x.f14, .int .u8 x.f15], rfl, rfl, ⟨[.int .u8 x.f5], [.int .u8 x.f6, .int .u8 x.f7, .int .u8 x.f8, .int .u8 x.f9, .int .u8 x.f10, .int .u8 x.f11, .int .u8 x.f12, .int .u8 x.f13, .int .u8 x.f14, .int .u8 x.f15], rfl, rfl, ⟨[.int .u8 x.f6], [.int .u8 x.f7, .int .u8 x.f8, .int .u8 x.f9, .int .u8 x.f10, .int .u8 x.f11, .int .u8 x.f12, .int .u8 x.f13, .int .u8 x.f14, .int .u8 x.f15], rfl, rfl, ⟨[.int .u8 x.f7], [.int .u8 x.f8, .int .u8 x.f9, .int .u8 x.f10, .int .u8 x.f11, .int .u8 x.f12, .int .u8 x.f13, .int .u8 x.f14, .int .u8 x.f15], rfl, rfl, ⟨[.int .u8 x.f8], [.int .u8 x.f9, .int .u8 x.f10, .int .u8 x.f11, .int .u8 x.f12, .int .u8 x.f13, .int .u8 x.f14, .int .u8 x.f15], rfl, rfl, ⟨[.int .u8 x.f9], [.int .u8 x.f10, .int .u8 x.f11, .int .u8 x.f12, .int .u8 x.f13, .int .u8 x.f14, .int .u8 x.f15], rfl, rfl, ⟨[.int .u8 x.f10], [.int .u8 x.f11, .int .u8 x.f12, .int .u8 x.f13, .int .u8 x.f14, .int .u8 x.f15], rfl, rfl, ⟨[.int .u8 x.f11], [.int .u8 x.f12, .int .u8 x.f13, .int .u8 x.f14, .int .u8 x.f15], rfl, rfl, ⟨[.int .u8 x.f12], [.int .u8 x.f13, .int .u8 x.f14, .int .u8 x.f15], rfl, rfl, ⟨[.int .u8 x.f13], [.int .u8 x.f14, .int .u8 x.f15], rfl, rfl, ⟨[.int .u8 x.f14], [.int .u8 x.f15], rfl, rfl, rfl⟩⟩⟩⟩⟩⟩⟩⟩⟩⟩⟩⟩⟩⟩⟩
def rd_T24 (xs : List S24) (i : Int) : S24 := xs.getD i.toNat z24
theorem at_T24 {w : World} {A : Option Addr} {n : Nat} {xs : List S24} (h : Kd.C k24 w A n xs) (i : Int) (h0 : 0 ≤ i) (h1 : i < n) : ∃ ad , A = some ad ∧ w.cell? (ad.add (i.toNat * 16)) = some (.int .u8 (rd_T24 xs i).f0) ∧ w.cell? ⟨(ad.add (i.toNat * 16)).block, (ad.add (i.toNat * 16)).off + 1, none⟩ = some (.int .u8 (rd_T24 xs i).f1) ∧ w.cell? ⟨(ad.add (i.toNat * 16)).block, (ad.add (i.toNat * 16)).off + 2, none⟩ = some (.int .u8 (rd_T24 xs i).f2) ∧ w.cell? ⟨(ad.add (i.toNat * 16)).block, (ad.add (i.toNat * 16)).off + 3, none⟩ = some (.int .u8 (rd_T24 xs i).f3) ∧ w.cell? ⟨(ad.add (i.toNat * 16)).block, (ad.add (i.toNat * 16)).off + 4, none⟩ = some (.int .u8 (rd_T24 xs i).f4) ∧ w.cell? ⟨(ad.add (i.toNat * 16)).block, (ad.add (i.toNat * 16)).off + 5, none⟩ = some (.int .u8 (rd_T24 xs i).f5) ∧ w.cell? ⟨(ad.add (i.toNat * 16)).block, (ad.add (i.toNat * 16)).off + 6, none⟩ = some (.int .u8 (rd_T24 xs i).f6) ∧ w.cell? ⟨(ad.add (i.toNat * 16)).block, (ad.add (i.toNat * 16)).off + 7, none⟩ = some (.int .u8 (rd_T24 xs i).f7) ∧ w.cell? ⟨(ad.add (i.toNat * 16)).block, (ad.add (i.toNat * 16)).off + 8, none⟩ = some (.int .u8 (rd_T24 xs i).f8) ∧ w.cell? ⟨(ad.add (i.toNat * 16)).block, (ad.add (i.toNat * 16)).off + 9, none⟩ = some (.int .u8 (rd_T24 xs i).f9) ∧ w.cell? ⟨(ad.add (i.toNat * 16)).block, (ad.add (i.toNat * 16)).off + 10, none⟩ = some (.int .u8 (rd_T24 xs i).f10) ∧ w.cell? ⟨(ad.add (i.toNat * 16)).block, (ad.add (i.toNat * 16)).off + 11, none⟩ = some (.int .u8 (rd_T24 xs i).f11) ∧ w.cell? ⟨(ad.add (i.toNat * 16)).block, (ad.add (i.toNat * 16)).off + 12, none⟩ = some (.int .u8 (rd_T24 xs i).f12) ∧ w.cell? ⟨(ad.add (i.toNat * 16)).block, (ad.add (i.toNat * 16)).off + 13, none⟩ = some (.int .u8 (rd_T24 xs i).f13) ∧ w.cell? ⟨(ad.add (i.toNat * 16)).block, (ad.add (i.toNat * 16)).off + 14, none⟩ = some (.int .u8 (rd_T24 xs i).f14) ∧ w.cell? ⟨(ad.add (i.toNat * 16)).block, (ad.add (i.toNat * 16)).off + 15, none⟩ = some (.int .u8 (rd_T24 xs i).f15) := by
  obtain ⟨ad, c, e, _, hK, hc0⟩ := Kd.C_get h z24 i h0 h1
  have hc : ∀ j u, c[j]? = some u → w.cell? (ad.add (i.toNat * 16 + j)) = some u := hc0
  obtain rfl := k24_open hK
  exact ⟨ad, e, hc 0 _ rfl, by rw [← add_field _ _ 1 (by omega)]; exact hc 1 _ rfl, by rw [← add_field _ _ 2 (by omega)]; exact hc 2 _ rfl, by rw [← add_field _ _ 3 (by omega)]; exact hc 3 _ rfl, by rw [← add_field _ _ 4 (by omega)]; exact hc 4 _ rfl, by rw [← add_field _ _ 5 (by omega)]; exact hc 5 _ rfl, by rw [← add_field _ _ 6 (by omega)]; exact hc 6 _ rfl, by rw [← add_field _ _ 7 (by omega)]; exact hc 7 _ rfl, by rw [← add_field _ _ 8 (by omega)]; exact hc 8 _ rfl, by rw [← add_field _ _ 9 (by omega)]; exact hc 9 _ rfl, by rw [← add_field _ _ 10 (by omega)]; exact hc 10 _ rfl, by rw [← add_field _ _ 11 (by omega)]; exact hc 11 _ rfl, by rw [← add_field _ _ 12 (by omega)]; exact hc 12 _ rfl, by rw [← add_field _ _ 13 (by omega)]; exact hc 13 _ rfl, by rw [← add_field _ _ 14 (by omega)]; exact hc 14 _ rfl, by rw [← add_field _ _ 15 (by omega)]; exact hc 15 _ rfl⟩

/-! #### struct type 26 -/
structure S26 where
  f0 : Int
  f1 : S23
  f2 : S24
def z26 : S26 := ⟨(0 : Int), z23, z24⟩
def k26 : Kd S26 := Kd.iso (Kd.pair (Kd.int .i64) (Kd.pair k23 k24)) (fun x : S26 => (x.f0, x.f1, x.f2))
theorem k26_open {w : World} {x : S26} {cs : List Value} (h : k26.K w x cs) : cs = [.int .i64 x.f0, .int .u8 x.f1.f0, .int .u8 x.f1.f1, .int .u8 x.f1.f2, .int .u8 x.f1.f3, .int .u8 x.f2.f0, .int .u8 x.f2.f1, .int .u8 x.f2.f2, .int .u8 x.f2.f3, .int .u8 x.f2.f4, .int .u8 x.f2.f5, .int .u8 x.f2.f6, .int .u8 x.f2.f7, .int .u8 x.f2.f8, .int .u8 x.f2.f9, .int .u8 x.f2.f10, .int .u8 x.f2.f11, .int .u8 x.f2.f12, .int .u8 x.f2.f13, .int .u8 x.f2.f14, .int .u8 x.f2.f15] := by
  obtain ⟨_, _, rfl, rfl, ⟨_, _, rfl, s1, s5⟩⟩ := h
  obtain rfl := k23_open s1
  obtain rfl := k24_open s5
  exact rfl
theorem k26_openM {w : World} {base : Nat} {ok : Nat → Prop} {x : S26} {cs : List Value} (h : k26.M w base ok x cs) : cs = [.int .i64 x.f0, .int .u8 x.f1.f0, .int .u8 x.f1.f1, .int .u8 x.f1.f2, .int .u8 x.f1.f3, .int .u8 x.f2.f0, .int .u8 x.f2.f1, .int .u8 x.f2.f2, .int .u8 x.f2.f3, .int .u8 x.f2.f4, .int .u8 x.f2.f5, .int .u8 x.f2.f6, .int .u8 x.f2.f7, .int .u8 x.f2.f8, .int .u8 x.f2.f9, .int .u8 x.f2.f10, .int .u8 x.f2.f11, .int .u8 x.f2.f12, .int .u8 x.f2.f13, .int .u8 x.f2.f14, .int .u8 x.f2.f15] := by
  obtain ⟨_, _, rfl, rfl, ⟨_, _, rfl, s1, s5⟩⟩ := h
  obtain rfl := k23_openM s1
  obtain rfl := k24_openM s5
  exact rfl
theorem k26_mk (w : World) (x : S26)  : k26.K w x [.int .i64 x.f0, .int .u8 x.f1.f0, .int .u8 x.f1.f1, .int .u8 x.f1.f2, .int .u8 x.f1.f3, .int .u8 x.f2.f0, .int .u8 x.f2.f1, .int .u8 x.f2.f2, .int .u8 x.f2.f3, .int .u8 x.f2.f4, .int .u8 x.f2.f5, .int .u8 x.f2.f6, .int .u8 x.f2.f7, .int .u8 x.f2.f8, .int .u8 x.f2.f9, .int .u8 x.f2.f10, .int .u8 x.f2.f11, .int .u8 x.f2.f12, .int .u8 x.f2.f13, .int .u8 x.f2.f14, .int .u8 x.f2.f15] := ⟨[.int .i64 x.f0], [.int .u8 x.f1.f0, .int .u8 x.f1.f1, .int .u8 x.f1.f2, .int .u8 x.f1.f3, .int .u8 x.f2.f0, .int .u8 x.f2.f1, .int .u8 x.f2.f2, .int .u8 x.f2.f3, .int .u8 x.f2.f4, .int .u8 x.f2.f5, .int .u8 x.f2.f6, .int .u8 x.f2.f7, .int .u8 x.f2.f8, .int .u8 x.f2.f9, .int .u8 x.f2.f10, .int .u8 x.f2.f11, .int .u8 x.f2.f12, .int .u8 x.f2.f13, .int .u8 x.f2.f14, .int .u8 x.f2.f15], rfl, rfl, ⟨[.int .u8 x.f1.f0, .int .u8 x.f1.f1, .int .u8 x.f1.f2, .int .u8 x.f1.f3], [.int .u8 x.f2.f0, .int .u8 x.f2.f1, .int .u8 x.f2.f2, .int .u8 x.f2.f3, .int .u8 x.f2.f4, .int .u8 x.f2.f5, .int .u8 x.f2.f6, .int .u8 x.f2.f7, .int .u8 x.f2.f8, .int .u8 x.f2.f9, .int .u8 x.f2.f10, .int .u8 x.f2.f11, .int .u8 x.f2.f12, .int .u8 x.f2.f13, .int .u8 x.f2.f14, .int .u8 x.f2.f15], rfl, (k23_mk w x.f1 ), (k24_mk w x.f2 )⟩⟩
theorem k26_mkM (w : World) (base : Nat) (ok : Nat → Prop) (x : S26)  : k26.M w base ok x [.int .i64 x.f0, .int .u8 x.f1.f0, .int .u8 x.f1.f1, .int .u8 x.f1.f2, .int .u8 x.f1.f3, .int .u8 x.f2.f0, .int .u8 x.f2.f1, .int .u8 x.f2.f2, .int .u8 x.f2.f3, .int .u8 x.f2.f4, .int .u8 x.f2.f5, .int .u8 x.f2.f6, .int .u8 x.f2.f7, .int .u8 x.f2.f8, .int .u8 x.f2.f9, .int .u8 x.f2.f10, .int .u8 x.f2.f11, .int .u8 x.f2.f12, .int .u8 x.f2.f13, .int .u8 x.f2.f14, .int .u8 x.f2.f15] := ⟨[.int .i64 x.f0], [.int .u8 x.f1.f0, .int .u8 x.f1.f1, .int .u8 x.f1.f2, .int .u8 x.f1.f3, .int .u8 x.f2.f0, .int .u8 x.f2.f1, .int .u8 x.f2.f2, .int .u8 x.f2.f3, .int .u8 x.f2.f4, .int .u8 x.f2.f5, .int .u8 x.f2.f6, .int .u8 x.f2.f7, .int .u8 x.f2.f8, .int .u8 x.f2.f9, .int .u8 x.f2.f10, .int .u8 x.f2.f11, .int .u8 x.f2.f12, .int .u8 x.f2.f13, .int .u8 x.f2.f14, .int .u8 x.f2.f15], rfl, rfl, ⟨[.int .u8 x.f1.f0, .int .u8 x.f1.f1, .int .u8 x.f1.f2, .int .u8 x.f1.f3], [.int .u8 x.f2.f0, .int .u8 x.f2.f1, .int .u8 x.f2.f2, .int .u8 x.f2.f3, .int .u8 x.f2.f4, .int .u8 x.f2.f5, .int .u8 x.f2.f6, .int .u8 x.f2.f7, .int .u8 x.f2.f8, .int .u8 x.f2.f9, .int .u8 x.f2.f10, .int .u8 x.f2.f11, .int .u8 x.f2.f12, .int .u8 x.f2.f13, .int .u8 x.f2.f14, .int .u8 x.f2.f15], rfl, (k23_mkM w base ok x.f1 ), (k24_mkM w base ok x.f2 )⟩⟩
def rd_T26 (xs : List S26) (i : Int) : S26 := xs.getD i.toNat z26
theorem at_T26 {w : World} {A : Option Addr} {n : Nat} {xs : List S26} (h : Kd.C k26 w A n xs) (i : Int) (h0 : 0 ≤ i) (h1 : i < n) : ∃ ad , A = some ad ∧ w.cell? (ad.add (i.toNat * 21)) = some (.int .i64 (rd_T26 xs i).f0) ∧ w.cell? ⟨(ad.add (i.toNat * 21)).block, (ad.add (i.toNat * 21)).off + 1, none⟩ = some (.int .u8 (rd_T26 xs i).f1.f0) ∧ w.cell? ⟨(ad.add (i.toNat * 21)).block, (ad.add (i.toNat * 21)).off + 2, none⟩ = some (.int .u8 (rd_T26 xs i).f1.f1) ∧ w.cell? ⟨(ad.add (i.toNat * 21)).block, (ad.add (i.toNat * 21)).off + 3, none⟩ = some (.int .u8 (rd_T26 xs i).f1.f2) ∧ w.cell? ⟨(ad.add (i.toNat * 21)).block, (ad.add (i.toNat * 21)).off + 4, none⟩ = some (.int .u8 (rd_T26 xs i).f1.f3) ∧ w.cell? ⟨(ad.add (i.toNat * 21)).block, (ad.add (i.toNat * 21)).off + 5, none⟩ = some (.int .u8 (rd_T26 xs i).f2.f0) ∧ w.cell? ⟨(ad.add (i.toNat * 21)).block, (ad.add (i.toNat * 21)).off + 6, none⟩ = some (.int .u8 (rd_T26 xs i).f2.f1) ∧ w.cell? ⟨(ad.add (i.toNat * 21)).block, (ad.add (i.toNat * 21)).off + 7, none⟩ = some (.int .u8 (rd_T26 xs i).f2.f2) ∧ w.cell? ⟨(ad.add (i.toNat * 21)).block, (ad.add (i.toNat * 21)).off + 8, none⟩ = some (.int .u8 (rd_T26 xs i).f2.f3) ∧ w.cell? ⟨(ad.add (i.toNat * 21)).block, (ad.add (i.toNat * 21)).off + 9, none⟩ = some (.int .u8 (rd_T26 xs i).f2.f4) ∧ w.cell? ⟨(ad.add (i.toNat * 21)).block, (ad.add (i.toNat * 21)).off + 10, none⟩ = some (.int .u8 (rd_T26 xs i).f2.f5) ∧ w.cell? ⟨(ad.add (i.toNat * 21)).block, (ad.add (i.toNat * 21)).off + 11, none⟩ = some (.int .u8 (rd_T26 xs i).f2.f6) ∧ w.cell? ⟨(ad.add (i.toNat * 21)).block, (ad.add (i.toNat * 21)).off + 12, none⟩ = some (.int .u8 (rd_T26 xs i).f2.f7) ∧ w.cell? ⟨(ad.add (i.toNat * 21)).block, (ad.add (i.toNat * 21)).off + 13, none⟩ = some (.int .u8 (rd_T26 xs i).f2.f8) ∧ w.cell? ⟨(ad.add (i.toNat * 21)).block, (ad.add (i.toNat * 21)).off + 14, none⟩ = some (.int .u8 (rd_T26 xs i).f2.f9) ∧ w.cell? ⟨(ad.add (i.toNat * 21)).block, (ad.add (i.toNat * 21)).off + 15, none⟩ = some (.int .u8 (rd_T26 xs i).f2.f10) ∧ w.cell? ⟨(ad.add (i.toNat * 21)).block, (ad.add (i.toNat * 21)).off + 16, none⟩ = some (.int .u8 (rd_T26 xs i).f2.f11) ∧ w.cell? ⟨(ad.add (i.toNat * 21)).block, (ad.add (i.toNat * 21)).off + 17, none⟩ = some (.int .u8 (rd_T26 xs i).f2.f12) ∧ w.cell? ⟨(ad.add (i.toNat * 21)).block, (ad.add (i.toNat * 21)).off + 18, none⟩ = some (.int .u8 (rd_T26 xs i).f2.f13) ∧ w.cell? ⟨(ad.add (i.toNat * 21)).block, (ad.add (i.toNat * 21)).off + 19, none⟩ = some (.int .u8 (rd_T26 xs i).f2.f14) ∧ w.cell? ⟨(ad.add (i.toNat * 21)).block, (ad.add (i.toNat * 21)).off + 20, none⟩ = some (.int .u8 (rd_T26 xs i).f2.f15) := by
  obtain ⟨ad, c, e, _, hK, hc0⟩ := Kd.C_get h z26 i h0 h1
  have hc : ∀ j u, c[j]? = some u → w.cell? (ad.add (i.toNat * 21 + j)) = some u := hc0
  obtain rfl := k26_open hK
  exact ⟨ad, e, hc 0 _ rfl, by rw [← add_field _ _ 1 (by omega)]; exact hc 1 _ rfl, by rw [← add_field _ _ 2 (by omega)]; exact hc 2 _ rfl, by rw [← add_field _ _ 3 (by omega)]; exact hc 3 _ rfl, by rw [← add_field _ _ 4 (by omega)]; exact hc 4 _ rfl, by rw [← add_field _ _ 5 (by omega)]; exact hc 5 _ rfl, by rw [← add_field _ _ 6 (by omega)]; exact hc 6 _ rfl, by rw [← add_field _ _ 7 (by omega)]; exact hc 7 _ rfl, by rw [← add_field _ _ 8 (by omega)]; exact hc 8 _ rfl, by rw [← add_field _ _ 9 (by omega)]; exact hc 9 _ rfl, by rw [← add_field _ _ 10 (by omega)]; exact hc 10 _ rfl, by rw [← add_field _ _ 11 (by omega)]; exact hc 11 _ rfl, by rw [← add_field _ _ 12 (by omega)]; exact hc 12 _ rfl, by rw [← add_field _ _ 13 (by omega)]; exact hc 13 _ rfl, by rw [← add_field _ _ 14 (by omega)]; exact hc 14 _ rfl, by rw [← add_field _ _ 15 (by omega)]; exact hc 15 _ rfl, by rw [← add_field _ _ 16 (by omega)]; exact hc 16 _ rfl, by rw [← add_field _ _ 17 (by omega)]; exact hc 17 _ rfl, by rw [← add_field _ _ 18 (by omega)]; exact hc 18 _ rfl, by rw [← add_field _ _ 19 (by omega)]; exact hc 19 _ rfl, by rw [← add_field _ _ 20 (by omega)]; exact hc 20 _ rfl⟩

end Go.Proofs.YtgmdpghbkjlnhaaDoor.Q
end
section
namespace Go.Proofs.YtgmdpghbkjlnhaaDoor.Q
open Go.RowKit Go.Proofs.YtgmdpghbkjlnhaaDoorW.PrintWords Go.Proofs.YtgmdpghbkjlnhaaDoorW.PrintLast Go.Proofs.YtgmdpghbkjlnhaaDoorW.PrintMore

def usesL : List Int := [0, 5, 3, 3, 3, 3, 3, 3, 5]
/-- The cells of the variable 'uses' (block 0). -/
structure GL (w : World) : Prop where
  cells : ∀ j, j < 9 → w.cell? ⟨0, j, none⟩ = some (.int .u8 (usesL.getD j 0))
theorem GL.below {w w1 : World} (h : GL w) (hb : Below w.heap.size w w1) : GL w1 := ⟨fun j hj => pw_cell_below hb (h.cells j hj)⟩
theorem GL.alloc {w : World} (h : GL w) (o : Obj) : GL (w.alloc o) := h.below (below_alloc (Below.refl _ _) o)
theorem GL.drewN {w : World} (h : GL w) (n : Nat) : GL (w.drewN n) := h.below (pw_below_drewN (Below.refl _ _) n)
theorem GL.drew {w : World} (h : GL w) : GL w.drew := h.below (below_drew (Below.refl _ _))
end Go.Proofs.YtgmdpghbkjlnhaaDoor.Q
end
section
namespace Go.Proofs.YtgmdpghbkjlnhaaDoor.Opn
open Go.RowKit Go.Deep Go.Proofs.YtgmdpghbkjlnhaaDoorW.PrintWords
variable {H : Type} {enc : TypeId × Value → H} {P : Program} {W : World}

theorem add_add_ (a : Addr) (x y : Nat) : (a.add x).add y = a.add (x + y) := by
  unfold Addr.add
  by_cases hx : x = 0 <;> by_cases hy : y = 0 <;> simp [hx, hy, Nat.add_assoc]
/-- Whatever is read at type t is of the kind d; 'wf': what is known of it besides. -/
def Opn {α : Type} (enc : TypeId × Value → H) (P : Program) (W : World) (t : TypeId) (d : Kd α) (wf : α → Prop) : Prop :=
  ∀ fuel cs x, DataW.trod enc P W 0 (fun _ => true) true fuel t cs = some x → ∃ y, d.K W y cs ∧ wf y
theorem Opn.int {k : IntKind} {t : TypeId} (ht : P.underlying t = some (.int k)) : Opn enc P W t (Kd.int k) (fun y => (Lit.int k y).wf = true) := by
  intro fuel cs x h
  obtain ⟨n, rfl, _, hn⟩ := DataW.trod_int ht h
  exact ⟨n, rfl, hn⟩
theorem Opn.imp {α : Type} {t : TypeId} {d : Kd α} {wf wf' : α → Prop} (h : Opn enc P W t d wf) (hw : ∀ y, wf y → wf' y) : Opn enc P W t d wf' := by
  intro fuel cs x hx
  obtain ⟨y, hy, hz⟩ := h fuel cs x hx
  exact ⟨y, hy, hw y hz⟩
theorem Opn.slice {α : Type} {t e : TypeId} {d : Kd α} {wf : α → Prop} (ht : P.underlying t = some (.slice e)) (hs : P.cellsOf e = d.sz) (he : Opn enc P W e d wf) :
    Opn enc P W t (Kd.slice e d) (fun l => ∀ y ∈ l, wf y) := by
  intro fuel cs x h
  rcases open_slice ht h with ⟨rfl, _⟩ | ⟨a, len, cap, m, n, D, Pl, rfl, _, hl, hm, hmm, _, hx⟩
  · exact ⟨[], ⟨none, 0, rfl, Nat.le_refl _, Kd.C_nil d W⟩, fun y hy => by cases hy⟩
  · have hlm : len ≤ m := by rw [hmm]; split <;> omega
    have each : ∀ i : Fin len, ∃ y : α, ∃ c, W.cells? 0 (a.add (i.1 * d.sz)) d.sz = some c ∧ d.K W y c ∧ wf y := by
      intro i
      obtain ⟨c, hc, ht⟩ := hx i.1 (by omega)
      obtain ⟨y, hy, hz⟩ := he _ _ _ ht
      exact ⟨y, c, by rw [← hs]; exact hc, hy, hz⟩
    obtain ⟨f, hf⟩ := Classical.axiomOfChoice each
    have hlen : (List.ofFn f).length = len := List.length_ofFn
    refine ⟨List.ofFn f, ⟨some a, cap, by rw [hlen], by omega, ?_⟩, ?_⟩
    · rw [hlen]
      refine ⟨hlen, by unfold maxLen at hm; omega, fun _ => ⟨a, rfl, fun j p hp => ?_⟩⟩
      have hj : j < len := by have := (List.getElem?_eq_some_iff.1 hp).1; omega
      obtain ⟨c, hc, hk, _⟩ := hf ⟨j, hj⟩
      have hpj : p = f ⟨j, hj⟩ := by
        rw [List.getElem?_eq_getElem (by omega)] at hp
        rw [← Option.some.inj hp]
        exact List.getElem_ofFn ..
      subst hpj
      refine ⟨c, d.K_len hk, hk, fun i u hu => ?_⟩
      have hi : i < d.sz := by have := (List.getElem?_eq_some_iff.1 hu).1; rw [d.K_len hk] at this; exact this
      have hcc := (World.cells?_some hc).2.2 i hi
      rw [hu] at hcc
      rw [← hcc]
      rw [add_add_]
    · intro y hy
      obtain ⟨i, hi, rfl⟩ := List.mem_iff_getElem.1 hy
      rw [List.getElem_ofFn]
      exact (hf _).choose_spec.2.2
end Go.Proofs.YtgmdpghbkjlnhaaDoor.Opn
namespace Go.Proofs.YtgmdpghbkjlnhaaDoor.Q
open Go.RowKit Go.ChangeShapes Go.WideShapes
open Go.Proofs.YtgmdpghbkjlnhaaDoorW.PrintWords Go.Proofs.YtgmdpghbkjlnhaaDoorW.PrintLast Go.Proofs.YtgmdpghbkjlnhaaDoorW.PrintMore
open Go.Proofs.YtgmdpghbkjlnhaaDoor.Opn
set_option linter.unusedVariables false
set_option linter.unusedSimpArgs false

theorem own : ownKnob Tryd.prog.godebug = Option.none := by kernel_rfl
theorem laidOut : laidOutB Tryd.prog = true := by kernel_rfl
theorem cells45 : Tryd.prog.cellsOf 45 = 1 := by kernel_rfl
theorem cells5 : Tryd.prog.cellsOf 5 = 1 := by kernel_rfl
theorem cells47 : Tryd.prog.cellsOf 47 = 4 := by kernel_rfl
theorem flat47 {H : Type} {enc : TypeId × Value → H} {W : World} : ∀ fuel cs x, DataW.trod enc Tryd.prog W 0 (fun _ => true) true fuel 47 cs = some x → ∃ (a0 : Int) (a1 : Int) (a2 : Int) (a3 : Int), cs = [.int .u8 a0, .int .u8 a1, .int .u8 a2, .int .u8 a3] ∧ (Lit.int .u8 a0).wf = true ∧ (Lit.int .u8 a1).wf = true ∧ (Lit.int .u8 a2).wf = true ∧ (Lit.int .u8 a3).wf = true := by
  intro fuel cs x h
  obtain ⟨xs, n, rfl, _, hl, hn, hf⟩ := DataW.trod_struct Tryd.underlying47 h
  rw [cells47] at hl
  match cs, hl with
  | [q0, q1, q2, q3], _ =>
    have hx : xs.length = 4 := hn
    have e0 : DataW.trod enc Tryd.prog W 0 (fun _ => true) true n 45 (([q0, q1, q2, q3].drop 0).take (Tryd.prog.cellsOf 45)) = xs[0]? := hf 0 _ rfl
    rw [cells45, List.getElem?_eq_getElem (by omega)] at e0
    have e1 : DataW.trod enc Tryd.prog W 0 (fun _ => true) true n 5 (([q0, q1, q2, q3].drop 1).take (Tryd.prog.cellsOf 5)) = xs[1]? := hf 1 _ rfl
    rw [cells5, List.getElem?_eq_getElem (by omega)] at e1
    have e2 : DataW.trod enc Tryd.prog W 0 (fun _ => true) true n 5 (([q0, q1, q2, q3].drop 2).take (Tryd.prog.cellsOf 5)) = xs[2]? := hf 2 _ rfl
    rw [cells5, List.getElem?_eq_getElem (by omega)] at e2
    have e3 : DataW.trod enc Tryd.prog W 0 (fun _ => true) true n 5 (([q0, q1, q2, q3].drop 3).take (Tryd.prog.cellsOf 5)) = xs[3]? := hf 3 _ rfl
    rw [cells5, List.getElem?_eq_getElem (by omega)] at e3
    obtain ⟨a0, r0, _, w0⟩ := DataW.trod_int Tryd.underlying45 e0
    simp only [List.drop_succ_cons, List.drop_zero, List.take_succ_cons, List.take_zero, List.cons.injEq, and_true] at r0
    obtain rfl := r0
    obtain ⟨a1, r1, _, w1⟩ := DataW.trod_int Tryd.underlying5 e1
    simp only [List.drop_succ_cons, List.drop_zero, List.take_succ_cons, List.take_zero, List.cons.injEq, and_true] at r1
    obtain rfl := r1
    obtain ⟨a2, r2, _, w2⟩ := DataW.trod_int Tryd.underlying5 e2
    simp only [List.drop_succ_cons, List.drop_zero, List.take_succ_cons, List.take_zero, List.cons.injEq, and_true] at r2
    obtain rfl := r2
    obtain ⟨a3, r3, _, w3⟩ := DataW.trod_int Tryd.underlying5 e3
    simp only [List.drop_succ_cons, List.drop_zero, List.take_succ_cons, List.take_zero, List.cons.injEq, and_true] at r3
    obtain rfl := r3
    exact ⟨a0, a1, a2, a3, rfl, w0, w1, w2, w3⟩
def wf47 (x : S47) : Prop := ((Lit.int .u8 x.f0).wf = true) ∧ ((Lit.int .u8 x.f1).wf = true) ∧ ((Lit.int .u8 x.f2).wf = true) ∧ ((Lit.int .u8 x.f3).wf = true)
theorem opn47 {H : Type} {enc : TypeId × Value → H} {W : World} : Opn enc Tryd.prog W 47 k47 wf47 := by
  intro fuel cs x h
  obtain ⟨a0, a1, a2, a3, rfl, w0, w1, w2, w3⟩ := flat47 fuel cs x h
  exact ⟨(⟨a0, a1, a2, a3⟩ : S47), k47_mk W _ , ⟨w0, w1, w2, w3⟩⟩
theorem opn22 {H : Type} {enc : TypeId × Value → H} {W : World} : Opn enc Tryd.prog W 22 (Kd.slice 47 k47) (fun x => ∀ y ∈ x, wf47 y) := Opn.slice Tryd.underlying22 cells47 opn47
theorem cells23 : Tryd.prog.cellsOf 23 = 4 := by kernel_rfl
theorem flat23 {H : Type} {enc : TypeId × Value → H} {W : World} : ∀ fuel cs x, DataW.trod enc Tryd.prog W 0 (fun _ => true) true fuel 23 cs = some x → ∃ (a0 : Int) (a1 : Int) (a2 : Int) (a3 : Int), cs = [.int .u8 a0, .int .u8 a1, .int .u8 a2, .int .u8 a3] ∧ (Lit.int .u8 a0).wf = true ∧ (Lit.int .u8 a1).wf = true ∧ (Lit.int .u8 a2).wf = true ∧ (Lit.int .u8 a3).wf = true := by
  intro fuel cs x h
  obtain ⟨xs, n, rfl, _, hl, hn, hf⟩ := DataW.trod_array Tryd.underlying23 h
  rw [cells23] at hl
  match cs, hl with
  | [q0, q1, q2, q3], _ =>
    have hx : xs.length = 4 := hn
    have e0 : DataW.trod enc Tryd.prog W 0 (fun _ => true) true n 5 (([q0, q1, q2, q3].drop 0).take (Tryd.prog.cellsOf 5)) = xs[0]? := by have h_ := hf 0 (by decide); simpa only [cells5, Nat.mul_one, Nat.zero_mul, Nat.reduceMul] using h_
    rw [cells5, List.getElem?_eq_getElem (by omega)] at e0
    have e1 : DataW.trod enc Tryd.prog W 0 (fun _ => true) true n 5 (([q0, q1, q2, q3].drop 1).take (Tryd.prog.cellsOf 5)) = xs[1]? := by have h_ := hf 1 (by decide); simpa only [cells5, Nat.mul_one, Nat.zero_mul, Nat.reduceMul] using h_
    rw [cells5, List.getElem?_eq_getElem (by omega)] at e1
    have e2 : DataW.trod enc Tryd.prog W 0 (fun _ => true) true n 5 (([q0, q1, q2, q3].drop 2).take (Tryd.prog.cellsOf 5)) = xs[2]? := by have h_ := hf 2 (by decide); simpa only [cells5, Nat.mul_one, Nat.zero_mul, Nat.reduceMul] using h_
    rw [cells5, List.getElem?_eq_getElem (by omega)] at e2
    have e3 : DataW.trod enc Tryd.prog W 0 (fun _ => true) true n 5 (([q0, q1, q2, q3].drop 3).take (Tryd.prog.cellsOf 5)) = xs[3]? := by have h_ := hf 3 (by decide); simpa only [cells5, Nat.mul_one, Nat.zero_mul, Nat.reduceMul] using h_
    rw [cells5, List.getElem?_eq_getElem (by omega)] at e3
    obtain ⟨a0, r0, _, w0⟩ := DataW.trod_int Tryd.underlying5 e0
    simp only [List.drop_succ_cons, List.drop_zero, List.take_succ_cons, List.take_zero, List.cons.injEq, and_true] at r0
    obtain rfl := r0
    obtain ⟨a1, r1, _, w1⟩ := DataW.trod_int Tryd.underlying5 e1
    simp only [List.drop_succ_cons, List.drop_zero, List.take_succ_cons, List.take_zero, List.cons.injEq, and_true] at r1
    obtain rfl := r1
    obtain ⟨a2, r2, _, w2⟩ := DataW.trod_int Tryd.underlying5 e2
    simp only [List.drop_succ_cons, List.drop_zero, List.take_succ_cons, List.take_zero, List.cons.injEq, and_true] at r2
    obtain rfl := r2
    obtain ⟨a3, r3, _, w3⟩ := DataW.trod_int Tryd.underlying5 e3
    simp only [List.drop_succ_cons, List.drop_zero, List.take_succ_cons, List.take_zero, List.cons.injEq, and_true] at r3
    obtain rfl := r3
    exact ⟨a0, a1, a2, a3, rfl, w0, w1, w2, w3⟩
def wf23 (x : S23) : Prop := ((Lit.int .u8 x.f0).wf = true) ∧ ((Lit.int .u8 x.f1).wf = true) ∧ ((Lit.int .u8 x.f2).wf = true) ∧ ((Lit.int .u8 x.f3).wf = true)
theorem opn23 {H : Type} {enc : TypeId × Value → H} {W : World} : Opn enc Tryd.prog W 23 k23 wf23 := by
  intro fuel cs x h
  obtain ⟨a0, a1, a2, a3, rfl, w0, w1, w2, w3⟩ := flat23 fuel cs x h
  exact ⟨(⟨a0, a1, a2, a3⟩ : S23), k23_mk W _ , ⟨w0, w1, w2, w3⟩⟩
theorem cells3 : Tryd.prog.cellsOf 3 = 1 := by kernel_rfl
theorem cells24 : Tryd.prog.cellsOf 24 = 16 := by kernel_rfl
theorem flat24 {H : Type} {enc : TypeId × Value → H} {W : World} : ∀ fuel cs x, DataW.trod enc Tryd.prog W 0 (fun _ => true) true fuel 24 cs = some x → ∃ (a0 : Int) (a1 : Int) (a2 : Int) (a3 : Int) (a4 : Int) (a5 : Int) (a6 : Int) (a7 : Int) (a8 : Int) (a9 : Int) (a10 : Int) (a11 : Int) (a12 : Int) (a13 : Int) (a14 : Int) (a15 : Int), cs = [.int .u8 a0, .int .u8 a1, .int .u8 a2, .int .u8 a3, .int .u8 a4, .int .u8 a5, .int .u8 a6, .int .u8 a7, .int .u8 a8, .int .u8 a9, .int .u8 a10, .int .u8 a11, .int .u8 a12, .int .u8 a13, .int .u8 a14, .int .u8 a15] ∧ (Lit.int .u8 a0).wf = true ∧ (Lit.int .u8 a1).wf = true ∧ (Lit.int .u8 a2).wf = true ∧ (Lit.int .u8 a3).wf = true ∧ (Lit.int .u8 a4).wf = true ∧ (Lit.int .u8 a5).wf = true ∧ (Lit.int .u8 a6).wf = true ∧ (Lit.int .u8 a7).wf = true ∧ (Lit.int .u8 a8).wf = true ∧ (Lit.int .u8 a9).wf = true ∧ (Lit.int .u8 a10).wf = true ∧ (Lit.int .u8 a11).wf = true ∧ (Lit.int .u8 a12).wf = true ∧ (Lit.int .u8 a13).wf = true ∧ (Lit.int .u8 a14).wf = true ∧ (Lit.int .u8 a15).wf = true := by
  intro fuel cs x h
  obtain ⟨xs, n, rfl, _, hl, hn, hf⟩ := DataW.trod_array Tryd.underlying24 h
  rw [cells24] at hl
  match cs, hl with
  | [q0, q1, q2, q3, q4, q5, q6, q7, q8, q9, q10, q11, q12, q13, q14, q15], _ =>
    have hx : xs.length = 16 := hn
    have e0 : DataW.trod enc Tryd.prog W 0 (fun _ => true) true n 5 (([q0, q1, q2, q3, q4, q5, q6, q7, q8, q9, q10, q11, q12, q13, q14, q15].drop 0).take (Tryd.prog.cellsOf 5)) = xs[0]? := by have h_ := hf 0 (by decide); simpa only [cells5, Nat.mul_one, Nat.zero_mul, Nat.reduceMul] using h_
    rw [cells5, List.getElem?_eq_getElem (by omega)] at e0
    have e1 : DataW.trod enc Tryd.prog W 0 (fun _ => true) true n 5 (([q0, q1, q2, q3, q4, q5, q6, q7, q8, q9, q10, q11, q12, q13, q14, q15].drop 1).take (Tryd.prog.cellsOf 5)) = xs[1]? := by have h_ := hf 1 (by decide); simpa only [cells5, Nat.mul_one, Nat.zero_mul, Nat.reduceMul] using h_
    rw [cells5, List.getElem?_eq_getElem (by omega)] at e1
    have e2 : DataW.trod enc Tryd.prog W 0 (fun _ => true) true n 5 (([q0, q1, q2, q3, q4, q5, q6, q7, q8, q9, q10, q11, q12, q13, q14, q15].drop 2).take (Tryd.prog.cellsOf 5)) = xs[2]? := by have h_ := hf 2 (by decide); simpa only [cells5, Nat.mul_one, Nat.zero_mul, Nat.reduceMul] using h_
    rw [cells5, List.getElem?_eq_getElem (by omega)] at e2
    have e3 : DataW.trod enc Tryd.prog W 0 (fun _ => true) true n 5 (([q0, q1, q2, q3, q4, q5, q6, q7, q8, q9, q10, q11, q12, q13, q14, q15].drop 3).take (Tryd.prog.cellsOf 5)) = xs[3]? := by have h_ := hf 3 (by decide); simpa only [cells5, Nat.mul_one, Nat.zero_mul, Nat.reduceMul] using h_
    rw [cells5, List.getElem?_eq_getElem (by omega)] at e3
    have e4 : DataW.trod enc Tryd.prog W 0 (fun _ => true) true n 5 (([q0, q1, q2, q3, q4, q5, q6, q7, q8, q9, q10, q11, q12, q13, q14, q15].drop 4).take (Tryd.prog.cellsOf 5)) = xs[4]? := by have h_ := hf 4 (by decide); simpa only [cells5, Nat.mul_one, Nat.zero_mul, Nat.reduceMul] using h_
    rw [cells5, List.getElem?_eq_getElem (by omega)] at e4
    have e5 : DataW.trod enc Tryd.prog W 0 (fun _ => true) true n 5 (([q0, q1, q2, q3, q4, q5, q6, q7, q8, q9, q10, q11, q12, q13, q14, q15].drop 5).take (Tryd.prog.cellsOf 5)) = xs[5]? := by have h_ := hf 5 (by decide); simpa only [cells5, Nat.mul_one, Nat.zero_mul, Nat.reduceMul] using h_
    rw [cells5, List.getElem?_eq_getElem (by omega)] at e5
    have e6 : DataW.trod enc Tryd.prog W 0 (fun _ => true) true n 5 (([q0, q1, q2, q3, q4, q5, q6, q7, q8, q9, q10, q11, q12, q13, q14, q15].drop 6).take (Tryd.prog.cellsOf 5)) = xs[6]? := by have h_ := hf 6 (by decide); simpa only [cells5, Nat.mul_one, Nat.zero_mul, Nat.reduceMul] using h_
    rw [cells5, List.getElem?_eq_getElem (by omega)] at e6
    have e7 : DataW.trod enc Tryd.prog W 0 (fun _ => true) true n 5 (([q0, q1, q2, q3, q4, q5, q6, q7, q8, q9, q10, q11, q12, q13, q14, q15].drop 7).take (Tryd.prog.cellsOf 5)) = xs[7]? := by have h_ := hf 7 (by decide); simpa only [cells5, Nat.mul_one, Nat.zero_mul, Nat.reduceMul] using h_
    rw [cells5, List.getElem?_eq_getElem (by omega)] at e7
    have e8 : DataW.trod enc Tryd.prog W 0 (fun _ => true) true n 5 (([q0, q1, q2, q3, q4, q5, q6, q7, q8, q9, q10, q11, q12, q13, q14, q15].drop 8).take (Tryd.prog.cellsOf 5)) = xs[8]? := by have h_ := hf 8 (by decide); simpa only [cells5, Nat.mul_one, Nat.zero_mul, Nat.reduceMul] using h_
    rw [cells5, List.getElem?_eq_getElem (by omega)] at e8
    have e9 : DataW.trod enc Tryd.prog W 0 (fun _ => true) true n 5 (([q0, q1, q2, q3, q4, q5, q6, q7, q8, q9, q10, q11, q12, q13, q14, q15].drop 9).take (Tryd.prog.cellsOf 5)) = xs[9]? := by have h_ := hf 9 (by decide); simpa only [cells5, Nat.mul_one, Nat.zero_mul, Nat.reduceMul] using h_
    rw [cells5, List.getElem?_eq_getElem (by omega)] at e9
    have e10 : DataW.trod enc Tryd.prog W 0 (fun _ => true) true n 5 (([q0, q1, q2, q3, q4, q5, q6, q7, q8, q9, q10, q11, q12, q13, q14, q15].drop 10).take (Tryd.prog.cellsOf 5)) = xs[10]? := by have h_ := hf 10 (by decide); simpa only [cells5, Nat.mul_one, Nat.zero_mul, Nat.reduceMul] using h_
    rw [cells5, List.getElem?_eq_getElem (by omega)] at e10
    have e11 : DataW.trod enc Tryd.prog W 0 (fun _ => true) true n 5 (([q0, q1, q2, q3, q4, q5, q6, q7, q8, q9, q10, q11, q12, q13, q14, q15].drop 11).take (Tryd.prog.cellsOf 5)) = xs[11]? := by have h_ := hf 11 (by decide); simpa only [cells5, Nat.mul_one, Nat.zero_mul, Nat.reduceMul] using h_
    rw [cells5, List.getElem?_eq_getElem (by omega)] at e11
    have e12 : DataW.trod enc Tryd.prog W 0 (fun _ => true) true n 5 (([q0, q1, q2, q3, q4, q5, q6, q7, q8, q9, q10, q11, q12, q13, q14, q15].drop 12).take (Tryd.prog.cellsOf 5)) = xs[12]? := by have h_ := hf 12 (by decide); simpa only [cells5, Nat.mul_one, Nat.zero_mul, Nat.reduceMul] using h_
    rw [cells5, List.getElem?_eq_getElem (by omega)] at e12
    have e13 : DataW.trod enc Tryd.prog W 0 (fun _ => true) true n 5 (([q0, q1, q2, q3, q4, q5, q6, q7, q8, q9, q10, q11, q12, q13, q14, q15].drop 13).take (Tryd.prog.cellsOf 5)) = xs[13]? := by have h_ := hf 13 (by decide); simpa only [cells5, Nat.mul_one, Nat.zero_mul, Nat.reduceMul] using h_
    rw [cells5, List.getElem?_eq_getElem (by omega)] at e13
    have e14 : DataW.trod enc Tryd.prog W 0 (fun _ => true) true n 5 (([q0, q1, q2, q3, q4, q5, q6, q7, q8, q9, q10, q11, q12, q13, q14, q15].drop 14).take (Tryd.prog.cellsOf 5)) = xs[14]? := by have h_ := hf 14 (by decide); simpa only [cells5, Nat.mul_one, Nat.zero_mul, Nat.reduceMul] using h_
    rw [cells5, List.getElem?_eq_getElem (by omega)] at e14
    have e15 : DataW.trod enc Tryd.prog W 0 (fun _ => true) true n 5 (([q0, q1, q2, q3, q4, q5, q6, q7, q8, q9, q10, q11, q12, q13, q14, q15].drop 15).take (Tryd.prog.cellsOf 5)) = xs[15]? := by have h_ := hf 15 (by decide); simpa only [cells5, Nat.mul_one, Nat.zero_mul, Nat.reduceMul] using h_
    rw [cells5, List.getElem?_eq_getElem (by omega)] at e15
    obtain ⟨a0, r0, _, w0⟩ := DataW.trod_int Tryd.underlying5 e0
    simp only [List.drop_succ_cons, List.drop_zero, List.take_succ_cons, List.take_zero, List.cons.injEq, and_true] at r0
    obtain rfl := r0
    obtain ⟨a1, r1, _, w1⟩ := DataW.trod_int Tryd.underlying5 e1
    simp only [List.drop_succ_cons, List.drop_zero, List.take_succ_cons, List.take_zero, List.cons.injEq, and_true] at r1
    obtain rfl := r1
    obtain ⟨a2, r2, _, w2⟩ := DataW.trod_int Tryd.underlying5 e2
    simp only [List.drop_succ_cons, List.drop_zero, List.take_succ_cons, List.take_zero, List.cons.injEq, and_true] at r2
    obtain rfl := r2
    obtain ⟨a3, r3, _, w3⟩ := DataW.trod_int Tryd.underlying5 e3
    simp only [List.drop_succ_cons, List.drop_zero, List.take_succ_cons, List.take_zero, List.cons.injEq, and_true] at r3
    obtain rfl := r3
    obtain ⟨a4, r4, _, w4⟩ := DataW.trod_int Tryd.underlying5 e4
    simp only [List.drop_succ_cons, List.drop_zero, List.take_succ_cons, List.take_zero, List.cons.injEq, and_true] at r4
    obtain rfl := r4
    obtain ⟨a5, r5, _, w5⟩ := DataW.trod_int Tryd.underlying5 e5
    simp only [List.drop_succ_cons, List.drop_zero, List.take_succ_cons, List.take_zero, List.cons.injEq, and_true] at r5
    obtain rfl := r5
    obtain ⟨a6, r6, _, w6⟩ := DataW.trod_int Tryd.underlying5 e6
    simp only [List.drop_succ_cons, List.drop_zero, List.take_succ_cons, List.take_zero, List.cons.injEq, and_true] at r6
    obtain rfl := r6
    obtain ⟨a7, r7, _, w7⟩ := DataW.trod_int Tryd.underlying5 e7
    simp only [List.drop_succ_cons, List.drop_zero, List.take_succ_cons, List.take_zero, List.cons.injEq, and_true] at r7
    obtain rfl := r7
    obtain ⟨a8, r8, _, w8⟩ := DataW.trod_int Tryd.underlying5 e8
    simp only [List.drop_succ_cons, List.drop_zero, List.take_succ_cons, List.take_zero, List.cons.injEq, and_true] at r8
    obtain rfl := r8
    obtain ⟨a9, r9, _, w9⟩ := DataW.trod_int Tryd.underlying5 e9
    simp only [List.drop_succ_cons, List.drop_zero, List.take_succ_cons, List.take_zero, List.cons.injEq, and_true] at r9
    obtain rfl := r9
    obtain ⟨a10, r10, _, w10⟩ := DataW.trod_int Tryd.underlying5 e10
    simp only [List.drop_succ_cons, List.drop_zero, List.take_succ_cons, List.take_zero, List.cons.injEq, and_true] at r10
    obtain rfl := r10
    obtain ⟨a11, r11, _, w11⟩ := DataW.trod_int Tryd.underlying5 e11
    simp only [List.drop_succ_cons, List.drop_zero, List.take_succ_cons, List.take_zero, List.cons.injEq, and_true] at r11
    obtain rfl := r11
    obtain ⟨a12, r12, _, w12⟩ := DataW.trod_int Tryd.underlying5 e12
    simp only [List.drop_succ_cons, List.drop_zero, List.take_succ_cons, List.take_zero, List.cons.injEq, and_true] at r12
    obtain rfl := r12
    obtain ⟨a13, r13, _, w13⟩ := DataW.trod_int Tryd.underlying5 e13
    simp only [List.drop_succ_cons, List.drop_zero, List.take_succ_cons, List.take_zero, List.cons.injEq, and_true] at r13
    obtain rfl := r13
    obtain ⟨a14, r14, _, w14⟩ := DataW.trod_int Tryd.underlying5 e14
    simp only [List.drop_succ_cons, List.drop_zero, List.take_succ_cons, List.take_zero, List.cons.injEq, and_true] at r14
    obtain rfl := r14
    obtain ⟨a15, r15, _, w15⟩ := DataW.trod_int Tryd.underlying5 e15
    simp only [List.drop_succ_cons, List.drop_zero, List.take_succ_cons, List.take_zero, List.cons.injEq, and_true] at r15
    obtain rfl := r15
    exact ⟨a0, a1, a2, a3, a4, a5, a6, a7, a8, a9, a10, a11, a12, a13, a14, a15, rfl, w0, w1, w2, w3, w4, w5, w6, w7, w8, w9, w10, w11, w12, w13, w14, w15⟩
theorem cells26 : Tryd.prog.cellsOf 26 = 21 := by kernel_rfl
theorem flat26 {H : Type} {enc : TypeId × Value → H} {W : World} : ∀ fuel cs x, DataW.trod enc Tryd.prog W 0 (fun _ => true) true fuel 26 cs = some x → ∃ (a0 : Int) (a1 : Int) (a2 : Int) (a3 : Int) (a4 : Int) (a5 : Int) (a6 : Int) (a7 : Int) (a8 : Int) (a9 : Int) (a10 : Int) (a11 : Int) (a12 : Int) (a13 : Int) (a14 : Int) (a15 : Int) (a16 : Int) (a17 : Int) (a18 : Int) (a19 : Int) (a20 : Int), cs = [.int .i64 a0, .int .u8 a1, .int .u8 a2, .int .u8 a3, .int .u8 a4, .int .u8 a5, .int .u8 a6, .int .u8 a7, .int .u8 a8, .int .u8 a9, .int .u8 a10, .int .u8 a11, .int .u8 a12, .int .u8 a13, .int .u8 a14, .int .u8 a15, .int .u8 a16, .int .u8 a17, .int .u8 a18, .int .u8 a19, .int .u8 a20] ∧ (Lit.int .i64 a0).wf = true ∧ (Lit.int .u8 a1).wf = true ∧ (Lit.int .u8 a2).wf = true ∧ (Lit.int .u8 a3).wf = true ∧ (Lit.int .u8 a4).wf = true ∧ (Lit.int .u8 a5).wf = true ∧ (Lit.int .u8 a6).wf = true ∧ (Lit.int .u8 a7).wf = true ∧ (Lit.int .u8 a8).wf = true ∧ (Lit.int .u8 a9).wf = true ∧ (Lit.int .u8 a10).wf = true ∧ (Lit.int .u8 a11).wf = true ∧ (Lit.int .u8 a12).wf = true ∧ (Lit.int .u8 a13).wf = true ∧ (Lit.int .u8 a14).wf = true ∧ (Lit.int .u8 a15).wf = true ∧ (Lit.int .u8 a16).wf = true ∧ (Lit.int .u8 a17).wf = true ∧ (Lit.int .u8 a18).wf = true ∧ (Lit.int .u8 a19).wf = true ∧ (Lit.int .u8 a20).wf = true := by
  intro fuel cs x h
  obtain ⟨xs, n, rfl, _, hl, hn, hf⟩ := DataW.trod_struct Tryd.underlying26 h
  rw [cells26] at hl
  match cs, hl with
  | [q0, q1, q2, q3, q4, q5, q6, q7, q8, q9, q10, q11, q12, q13, q14, q15, q16, q17, q18, q19, q20], _ =>
    have hx : xs.length = 3 := hn
    have e0 : DataW.trod enc Tryd.prog W 0 (fun _ => true) true n 3 (([q0, q1, q2, q3, q4, q5, q6, q7, q8, q9, q10, q11, q12, q13, q14, q15, q16, q17, q18, q19, q20].drop 0).take (Tryd.prog.cellsOf 3)) = xs[0]? := hf 0 _ rfl
    rw [cells3, List.getElem?_eq_getElem (by omega)] at e0
    have e1 : DataW.trod enc Tryd.prog W 0 (fun _ => true) true n 23 (([q0, q1, q2, q3, q4, q5, q6, q7, q8, q9, q10, q11, q12, q13, q14, q15, q16, q17, q18, q19, q20].drop 1).take (Tryd.prog.cellsOf 23)) = xs[1]? := hf 1 _ rfl
    rw [cells23, List.getElem?_eq_getElem (by omega)] at e1
    have e2 : DataW.trod enc Tryd.prog W 0 (fun _ => true) true n 24 (([q0, q1, q2, q3, q4, q5, q6, q7, q8, q9, q10, q11, q12, q13, q14, q15, q16, q17, q18, q19, q20].drop 5).take (Tryd.prog.cellsOf 24)) = xs[2]? := hf 2 _ rfl
    rw [cells24, List.getElem?_eq_getElem (by omega)] at e2
    obtain ⟨a0, r0, _, w0⟩ := DataW.trod_int Tryd.underlying3 e0
    simp only [List.drop_succ_cons, List.drop_zero, List.take_succ_cons, List.take_zero, List.cons.injEq, and_true] at r0
    obtain rfl := r0
    obtain ⟨a1, a2, a3, a4, r1, w1, w2, w3, w4⟩ := flat23 _ _ _ e1
    simp only [List.drop_succ_cons, List.drop_zero, List.take_succ_cons, List.take_zero, List.cons.injEq, and_true] at r1
    obtain ⟨rfl, rfl, rfl, rfl⟩ := r1
    obtain ⟨a5, a6, a7, a8, a9, a10, a11, a12, a13, a14, a15, a16, a17, a18, a19, a20, r2, w5, w6, w7, w8, w9, w10, w11, w12, w13, w14, w15, w16, w17, w18, w19, w20⟩ := flat24 _ _ _ e2
    simp only [List.drop_succ_cons, List.drop_zero, List.take_succ_cons, List.take_zero, List.cons.injEq, and_true] at r2
    obtain ⟨rfl, rfl, rfl, rfl, rfl, rfl, rfl, rfl, rfl, rfl, rfl, rfl, rfl, rfl, rfl, rfl⟩ := r2
    exact ⟨a0, a1, a2, a3, a4, a5, a6, a7, a8, a9, a10, a11, a12, a13, a14, a15, a16, a17, a18, a19, a20, rfl, w0, w1, w2, w3, w4, w5, w6, w7, w8, w9, w10, w11, w12, w13, w14, w15, w16, w17, w18, w19, w20⟩
def wf24 (x : S24) : Prop := ((Lit.int .u8 x.f0).wf = true) ∧ ((Lit.int .u8 x.f1).wf = true) ∧ ((Lit.int .u8 x.f2).wf = true) ∧ ((Lit.int .u8 x.f3).wf = true) ∧ ((Lit.int .u8 x.f4).wf = true) ∧ ((Lit.int .u8 x.f5).wf = true) ∧ ((Lit.int .u8 x.f6).wf = true) ∧ ((Lit.int .u8 x.f7).wf = true) ∧ ((Lit.int .u8 x.f8).wf = true) ∧ ((Lit.int .u8 x.f9).wf = true) ∧ ((Lit.int .u8 x.f10).wf = true) ∧ ((Lit.int .u8 x.f11).wf = true) ∧ ((Lit.int .u8 x.f12).wf = true) ∧ ((Lit.int .u8 x.f13).wf = true) ∧ ((Lit.int .u8 x.f14).wf = true) ∧ ((Lit.int .u8 x.f15).wf = true)
def wf26 (x : S26) : Prop := ((Lit.int .i64 x.f0).wf = true) ∧ (wf23 x.f1) ∧ (wf24 x.f2)
theorem opn26 {H : Type} {enc : TypeId × Value → H} {W : World} : Opn enc Tryd.prog W 26 k26 wf26 := by
  intro fuel cs x h
  obtain ⟨a0, a1, a2, a3, a4, a5, a6, a7, a8, a9, a10, a11, a12, a13, a14, a15, a16, a17, a18, a19, a20, rfl, w0, w1, w2, w3, w4, w5, w6, w7, w8, w9, w10, w11, w12, w13, w14, w15, w16, w17, w18, w19, w20⟩ := flat26 fuel cs x h
  exact ⟨(⟨a0, (⟨a1, a2, a3, a4⟩ : S23), (⟨a5, a6, a7, a8, a9, a10, a11, a12, a13, a14, a15, a16, a17, a18, a19, a20⟩ : S24)⟩ : S26), k26_mk W _ , ⟨w0, ⟨w1, w2, w3, w4⟩, ⟨w5, w6, w7, w8, w9, w10, w11, w12, w13, w14, w15, w16, w17, w18, w19, w20⟩⟩⟩
end Go.Proofs.YtgmdpghbkjlnhaaDoor.Q
end
section
namespace Go.Proofs.YtgmdpghbkjlnhaaDoor.Q
open Go.ChangeShapes Go.WideShapes Go.ChangeAt Go.WideMaps Go.WideElems Go.RowKit
open Go.Proofs.YtgmdpghbkjlnhaaDoorW.PrintWords Go.Proofs.YtgmdpghbkjlnhaaDoorW.PrintLast Go.Proofs.YtgmdpghbkjlnhaaDoorW.PrintMore
open Go.Proofs.YtgmdpghbkjlnhaaDoor.Opn
set_option linter.unusedVariables false

theorem gUses : Tryd.prog.globalNamed "attestor/isa.uses" = some 0 := by kernel_rfl
theorem tUses : (Tryd.prog.globals[0]?).map (·.type) = some 61 := by kernel_rfl
abbrev laid1 : List (String × DataW Unit) := [("attestor/isa.uses", Rows.laid_attestor_isa_uses)]
theorem cellsB : Tryd.prog.cellsOf 5 = 1 := by kernel_rfl
/-- The condition gives the fact. -/
theorem gl_of_laid {W : World} (h : laidMetH Tryd.prog laid1 W) : GL W := by
  rw [MakeChecks.laidMetH_plain _ _ _ (by kernel_rfl)] at h
  obtain ⟨ps, ⟨g0, t0, cs0, f0, p0, q0, hg0, ht0, hv0, hd0, _, _⟩, _, _⟩ := h
  obtain rfl := Option.some.inj (gUses.symm.trans hg0)
  obtain rfl := Option.some.inj (tUses.symm.trans ht0)
  obtain ⟨xs, m1, rfl, hx1, hlen, hn, hel⟩ := DataW.trod_array Tryd.underlying61 hd0
  simp only [Prod.mk.injEq, Rows.laid_attestor_isa_uses, DataW.agg.injEq] at hx1
  refine ⟨fun j hj => ?_⟩
  have hj1 := hel j hj
  rw [List.getElem?_eq_getElem (by omega : j < xs.length)] at hj1
  obtain ⟨k, e1, e2, _⟩ := DataW.trod_int Tryd.underlying5 hj1
  have hv := World.var?_cell hg0 hv0 j
  have hk : k = usesL.getD j 0 := by
    have : (xs.map (·.1))[j]? = some (.lit (.int .u8 k)) := by rw [List.getElem?_map, List.getElem?_eq_getElem (by omega : j < xs.length), Option.map_some, e2]
    rw [← hx1.1] at this
    rcases (show j = 0 ∨ j = 1 ∨ j = 2 ∨ j = 3 ∨ j = 4 ∨ j = 5 ∨ j = 6 ∨ j = 7 ∨ j = 8 by omega) with rfl | rfl | rfl | rfl | rfl | rfl | rfl | rfl | rfl <;> simpa [usesL] using this.symm
  rw [hv, ← hk]
  rw [cellsB, Nat.mul_one] at e1
  have : (cs0.toList.drop j)[0]? = some (.int .u8 k) := by
    have h2 : ((cs0.toList.drop j).take 1)[0]? = some (.int .u8 k) := by rw [e1]; rfl
    rwa [List.getElem?_take, if_pos (by omega)] at h2
  rw [List.getElem?_drop, Nat.add_zero] at this
  simpa using this
/-- The door's own heap meets the condition. -/
theorem door_met (os : Os) (args : Array Value) : laidMetH Tryd.prog laid1 ((World.doorLaid Tryd.prog 400 os).forCall (fun _ _ => 0) ⟨#[], args, []⟩).memory :=
  laidMetH_of_parts3 (fuel := 8) (laidMet_of_run' 8 (by kernel_rfl) (by kernel_rfl)) (by kernel_rfl) (by kernel_rfl)

theorem u8_bounds {x : Int} (h : (Lit.int .u8 x).wf = true) : 0 ≤ x ∧ x ≤ 255 := by
  simp [Lit.wf, IntKind.min, IntKind.max, IntKind.signed, IntKind.bits] at h
  omega
theorem wf_i64 {x : Int} (h : (Lit.int .i64 x).wf = true) : -9223372036854775808 ≤ x ∧ x ≤ 9223372036854775807 := by
  simp [Lit.wf, IntKind.min, IntKind.max, IntKind.signed, IntKind.bits] at h
  omega
end Go.Proofs.YtgmdpghbkjlnhaaDoor.Q
end
section
namespace Go.Proofs.YtgmdpghbkjlnhaaDoor.Q
open Go.RowKit Go.Proofs.YtgmdpghbkjlnhaaDoorW.PrintWords Go.Proofs.YtgmdpghbkjlnhaaDoorW.PrintLast Go.Proofs.YtgmdpghbkjlnhaaDoorW.PrintMore
set_option linter.unusedVariables false
set_option linter.unusedSimpArgs false

def isa_fits.g (o a b m : Int) : Bool := (decide (o ≠ 0) || decide (a = 0)) && (decide (2 ≤ o ∧ o ≤ 7) || decide (b = 0)) && (decide (o = 1 ∨ o = 8) || decide (m = 0))
def isa_fits.f (o a b m : Int) : Option Bool :=
  if wrap64 o ≥ 9 then some false else if a > 3 then some false else if b > 3 then some false
  else if 0 ≤ o then if o < 9 then some (isa_fits.g o a b m) else none else none

set_option maxHeartbeats 8000000 in
set_option maxRecDepth 100000 in
theorem fits_tail (o a b m : Int) (w : World) (hrG : GL w) (c1 : wrap64 o < 9) (c2 : a ≤ 3) (c3 : b ≤ 3) (c4 : 0 ≤ o) (c5 : o < 9) (u : Int) (hu : usesL.getD o.toNat 0 = u) (r : Bool)
    (hr : ((decide (u % 2 = 1) || decide (a = 0)) && (decide (u / 2 % 2 = 1) || decide (b = 0)) && (decide (u / 4 % 2 = 1) || decide (m = 0))) = r) (hk : u = 0 ∨ u = 3 ∨ u = 5) :
    Calls Tryd.prog 34 #[.agg #[.int .u8 o, .int .u8 a, .int .u8 b, .int .u8 m]] w fun e w' => e = .returned (.bool r) ∧ Below w.heap.size w w' := by
  have huI := Tryd.underlying47
  have huU := Tryd.underlying61
  have hc0 : w.cell? ⟨0, o.toNat, none⟩ = some (.int .u8 u) := by have := hrG.cells o.toNat (by omega); rwa [hu] at this
  have hc : ∀ O, (w.alloc O).cell? ⟨0, o.toNat, none⟩ = some (.int .u8 u) := fun O => pw_cell_below (below_alloc (Below.refl _ _) O) hc0
  clear hrG hc0 hu
  have c1b : decide (wrap64 o < 9) = true := decide_eq_true c1
  have c1c : decide (9 ≤ wrap64 o) = false := decide_eq_false (by omega)
  have c2b : decide (3 < a) = false := decide_eq_false (by omega)
  have c3b : decide (3 < b) = false := decide_eq_false (by omega)
  have g0 : w.heap.size ≤ w.heap.size := Nat.le_refl _
  by_cases ha : a = 0
  all_goals by_cases hb : b = 0
  all_goals by_cases hm : m = 0
  all_goals rcases hk with rfl | rfl | rfl
  all_goals first | subst ha | (have ha1 : (a == 0) = false := by simpa using ha)
  all_goals first | subst hb | (have hb1 : (b == 0) = false := by simpa using hb)
  all_goals first | subst hm | (have hm1 : (m == 0) = false := by simpa using hm)
  all_goals
    have k1 : Go.bits .and .u8 0 1 = 0 := by decide +kernel
    have k2 : Go.bits .and .u8 3 1 = 1 := by decide +kernel
    have k3 : Go.bits .and .u8 5 1 = 1 := by decide +kernel
    have k4 : Go.bits .and .u8 0 2 = 0 := by decide +kernel
    have k5 : Go.bits .and .u8 3 2 = 2 := by decide +kernel
    have k6 : Go.bits .and .u8 5 2 = 0 := by decide +kernel
    have k7 : Go.bits .and .u8 0 4 = 0 := by decide +kernel
    have k8 : Go.bits .and .u8 3 4 = 0 := by decide +kernel
    have k9 : Go.bits .and .u8 5 4 = 4 := by decide +kernel
    have HR := Aside0.mk hr
    clear hr
    go_enter Tryd.func34, Tryd.ntmps34
    go_wp2
    go_ret
    exact ⟨by rw [← HR.out]; simp [*], (Below.refl _ _).alloc (Nat.le_refl _) _⟩

theorem fits_g (o a b m : Int) (c4 : 0 ≤ o) (c5 : o < 9) : ((decide (usesL.getD o.toNat 0 % 2 = 1) || decide (a = 0)) && (decide (usesL.getD o.toNat 0 / 2 % 2 = 1) || decide (b = 0)) && (decide (usesL.getD o.toNat 0 / 4 % 2 = 1) || decide (m = 0))) = isa_fits.g o a b m ∧ (usesL.getD o.toNat 0 = 0 ∨ usesL.getD o.toNat 0 = 3 ∨ usesL.getD o.toNat 0 = 5) := by
  unfold isa_fits.g
  rcases (show o = 0 ∨ o = 1 ∨ o = 2 ∨ o = 3 ∨ o = 4 ∨ o = 5 ∨ o = 6 ∨ o = 7 ∨ o = 8 by omega) with rfl | rfl | rfl | rfl | rfl | rfl | rfl | rfl | rfl <;> simp [usesL]

set_option maxHeartbeats 8000000 in
set_option maxRecDepth 100000 in
theorem isa_fits.calls (o a b m : Int) (r : Bool) (w : World) (hrG : GL w) (h : isa_fits.f o a b m = some r) :
    Calls Tryd.prog 34 #[.agg #[.int .u8 o, .int .u8 a, .int .u8 b, .int .u8 m]] w fun e w' => e = .returned (.bool r) ∧ Below w.heap.size w w' := by
  unfold isa_fits.f at h
  by_cases c1 : wrap64 o ≥ 9
  · rw [if_pos c1] at h
    obtain rfl := Option.some.inj h
    clear h
    have huI := Tryd.underlying47
    have c1b : decide (9 ≤ wrap64 o) = true := decide_eq_true c1
    clear c1
    go_enter Tryd.func34, Tryd.ntmps34
    go_wp2
    go_ret
    exact ⟨rfl, (Below.refl _ _).alloc (Nat.le_refl _) _⟩
  · rw [if_neg c1] at h
    by_cases c2 : a > 3
    · rw [if_pos c2] at h
      obtain rfl := Option.some.inj h
      clear h
      have huI := Tryd.underlying47
      have c1b : decide (9 ≤ wrap64 o) = false := decide_eq_false c1
      have c2b : decide (3 < a) = true := decide_eq_true c2
      clear c1 c2
      go_enter Tryd.func34, Tryd.ntmps34
      go_wp2
      go_ret
      exact ⟨rfl, (Below.refl _ _).alloc (Nat.le_refl _) _⟩
    · rw [if_neg c2] at h
      by_cases c3 : b > 3
      · rw [if_pos c3] at h
        obtain rfl := Option.some.inj h
        clear h
        have huI := Tryd.underlying47
        have c1b : decide (9 ≤ wrap64 o) = false := decide_eq_false c1
        have c2b : decide (3 < a) = false := decide_eq_false c2
        have c3b : decide (3 < b) = true := decide_eq_true c3
        clear c1 c2 c3
        go_enter Tryd.func34, Tryd.ntmps34
        go_wp2
        go_ret
        exact ⟨rfl, (Below.refl _ _).alloc (Nat.le_refl _) _⟩
      · rw [if_neg c3] at h
        by_cases c4 : 0 ≤ o
        · rw [if_pos c4] at h
          by_cases c5 : o < 9
          · rw [if_pos c5] at h
            obtain rfl := Option.some.inj h
            obtain ⟨h1, h2⟩ := fits_g o a b m c4 c5
            exact fits_tail o a b m w hrG (by omega) (by omega) (by omega) c4 c5 _ rfl _ h1 h2
          · rw [if_neg c5] at h
            exact absurd h (by simp)
        · rw [if_neg c4] at h
          exact absurd h (by simp)
end Go.Proofs.YtgmdpghbkjlnhaaDoor.Q
end
section
namespace Go.Proofs.YtgmdpghbkjlnhaaDoor.Q
open Go.RowKit Go.Proofs.YtgmdpghbkjlnhaaDoorW.PrintWords Go.Proofs.YtgmdpghbkjlnhaaDoorW.PrintLast Go.Proofs.YtgmdpghbkjlnhaaDoorW.PrintMore
set_option linter.unusedVariables false
set_option linter.unusedSimpArgs false
def enc1 (i : S47) : List Int := [i.f0 * 16 + i.f1 * 4 + i.f2, i.f3]
def encs (l : List S47) : List Int := l.flatMap enc1
def enc (l : List S47) : List Int := (l.length : Int) :: encs l
end Go.Proofs.YtgmdpghbkjlnhaaDoor.Q
end
section
namespace Go.Proofs.YtgmdpghbkjlnhaaDoor.Q
open Go.RowKit Go.Proofs.YtgmdpghbkjlnhaaDoorW.PrintWords Go.Proofs.YtgmdpghbkjlnhaaDoorW.PrintLast Go.Proofs.YtgmdpghbkjlnhaaDoorW.PrintMore
theorem sel_cell {w : World} {g : Nat} {t : TypeId} {k : IntKind} {cs : Array Value} {l : List Int} {x : Int} (h : w.heap[g]? = some (.cells cs t (0, 0))) (e : cs = (l.map (Value.int k)).toArray) (h0 : 0 ≤ x) (h1 : x < l.length) :
    w.cell? ⟨g, x.toNat, none⟩ = some (.int k (rd l x)) := by
  rw [blk_cell h, e]
  have hx : x.toNat < l.length := by omega
  simp [rd, hx]
/-- A cell of an array behind a store at the place x: this one is cell z. -/
def updv (o : Int) (z : Nat) (x v : Int) : Int := if x = (z : Int) then v else o
def updl : List Int → Nat → Int → Int → List Int
  | [], _, _, _ => []
  | o :: l, z, x, v => updv o z x v :: updl l (z + 1) x v
theorem updl_set : ∀ (l : List Int) (z : Nat) (x v : Int), (z : Int) ≤ x → updl l z x v = l.set (x.toNat - z) v
  | [], _, _, _, _ => rfl
  | o :: l, z, x, v, h => by
    by_cases e : x = (z : Int)
    · subst e
      have : ∀ (l : List Int) (y : Nat), z < y → updl l y (z : Int) v = l := by
        intro l
        induction l with
        | nil => intro y _; rfl
        | cons a l ih =>
          intro y hy
          show updv a y z v :: updl l (y + 1) z v = a :: l
          rw [ih _ (by omega)]
          unfold updv
          rw [if_neg (by omega)]
      show updv o z z v :: updl l (z + 1) z v = _
      rw [this l (z + 1) (by omega)]
      unfold updv
      rw [if_pos rfl]
      simp
    · show updv o z x v :: updl l (z + 1) x v = _
      rw [updl_set l (z + 1) x v (by omega)]
      unfold updv
      rw [if_neg e]
      have : x.toNat - z = (x.toNat - (z + 1)) + 1 := by omega
      rw [this]
      rfl
theorem sel_at {w : World} {g : Nat} {t : TypeId} {k : IntKind} {cs : Array Value} {pre post : List Value} {l : List Int} {x : Int} {o : Nat} (h : w.heap[g]? = some (.cells cs t (0, 0))) (e : cs = (pre ++ l.map (Value.int k) ++ post).toArray) (eo : o = pre.length + x.toNat) (h0 : 0 ≤ x) (h1 : x < l.length) :
    w.cell? ⟨g, o, none⟩ = some (.int k (rd l x)) := by
  rw [blk_cell h, e, eo]
  have hx : x.toNat < l.length := by omega
  simp [rd, hx, List.getElem?_append]
theorem sel_put {w : World} {g : Nat} {t : TypeId} {k : IntKind} {cs cs' : Array Value} {pre post : List Value} {l : List Int} {x v : Int} {o : Nat} (h : w.heap[g]? = some (.cells cs t (0, 0))) (e : cs = (pre ++ l.map (Value.int k) ++ post).toArray) (e' : cs' = (pre ++ (updl l 0 x v).map (Value.int k) ++ post).toArray) (eo : o = pre.length + x.toNat) (h0 : 0 ≤ x) (h1 : x < l.length) :
    (w.setCell ⟨g, o, none⟩ (.int k v)).heap[g]? = some (.cells cs' t (0, 0)) := by
  refine blk_put h o _ ?_
  rw [e, e', eo, updl_set l 0 x v (by simpa using h0)]
  have hx : x.toNat < l.length := by omega
  rw [List.setIfInBounds_toArray, List.append_assoc, List.set_append_right _ _ (by omega), List.append_assoc, Nat.add_sub_cancel_left, List.set_append_left _ _ (by simpa using hx), Nat.sub_zero, ← List.map_set]
end Go.Proofs.YtgmdpghbkjlnhaaDoor.Q
end
section
namespace Go.Proofs.YtgmdpghbkjlnhaaDoor.Q
open Go.RowKit Go.Proofs.YtgmdpghbkjlnhaaDoorW.PrintWords Go.Proofs.YtgmdpghbkjlnhaaDoorW.PrintLast Go.Proofs.YtgmdpghbkjlnhaaDoorW.PrintMore
set_option linter.unusedVariables false
set_option linter.unusedSimpArgs false
structure M where
  p0 : Int
  p1 : Int
  p2 : Int
  p3 : Int
  p4 : Int
  p5 : Int
  p6 : Int
  p7 : Int
  p8 : Int
  p9 : Int
  p10 : Int
  p11 : Int
  p12 : Int
  p13 : Int
  p14 : Int
  p15 : Int
  p16 : Int
  p17 : Int
  p18 : Int
  p19 : Int
  p20 : Int
def M.o (s : M) : Int × Int × Int × Int × Int × Int × Int × Int × Int × Int × Int × Int × Int × Int × Int × Int × Int × Int × Int × Int × Int := (s.p0, s.p1, s.p2, s.p3, s.p4, s.p5, s.p6, s.p7, s.p8, s.p9, s.p10, s.p11, s.p12, s.p13, s.p14, s.p15, s.p16, s.p17, s.p18, s.p19, s.p20)
def M.e (s : M) (e : Int) : Int × Int × Int × Int × Int × Int × Int × Int × Int × Int × Int × Int × Int × Int × Int × Int × Int × Int × Int × Int × Int × Int := (s.p0, s.p1, s.p2, s.p3, s.p4, s.p5, s.p6, s.p7, s.p8, s.p9, s.p10, s.p11, s.p12, s.p13, s.p14, s.p15, s.p16, s.p17, s.p18, s.p19, s.p20, e)
end Go.Proofs.YtgmdpghbkjlnhaaDoor.Q
end
section
namespace Go.Proofs.YtgmdpghbkjlnhaaDoor.Q
open Go.RowKit Go.Proofs.YtgmdpghbkjlnhaaDoorW.PrintWords Go.Proofs.YtgmdpghbkjlnhaaDoor.Opn
end Go.Proofs.YtgmdpghbkjlnhaaDoor.Q
end
section
namespace Go.Proofs.YtgmdpghbkjlnhaaDoor.Q
open Go.RowKit Go.Proofs.YtgmdpghbkjlnhaaDoorW.PrintWords Go.Proofs.YtgmdpghbkjlnhaaDoorW.PrintLast Go.Proofs.YtgmdpghbkjlnhaaDoorW.PrintMore
theorem bq_ {w : World} {a : Nat} {cs : Array Value} {t : TypeId} {v : Value} (h : Aside0 (w.heap[a]? = some (.cells cs t (0, 0)))) (j : Nat) (e : cs[j]? = some v := by rfl) : w.cell? ⟨a, j, none⟩ = some v := (blk_cell h.out j).trans e
theorem bf_ {w : World} {g : Nat} {t : TypeId} {cs : Array Value} {h' : Nat} (h : Aside0 (w.heap[g]? = some (.cells cs t (0, 0)))) (hn : Aside0 (g ≠ h')) (p : Addr) (v : Value) (e : p.block = h') : Aside0 ((w.setCell p v).heap[g]? = some (.cells cs t (0, 0))) := ⟨blk_far h.out (by rw [e]; exact hn.out) v⟩
theorem ra_ {w w1 : World} {n g : Nat} {t : TypeId} {cs : Array Value} (hq : w.drewN n = w1) (h : Aside0 (w.heap[g]? = some (.cells cs t (0, 0)))) : Aside0 (w1.heap[g]? = some (.cells cs t (0, 0))) := ⟨blk_at hq h.out⟩
theorem rb_ {w w1 w0 : World} {n s : Nat} (hq : w.drewN n = w1) (h : Aside0 (Below s w0 w)) : Aside0 (Below s w0 w1) := ⟨below_at hq h.out⟩
theorem sa_ {α : Type} (l : List α) (i : Nat) (a : α) : l.toArray.setIfInBounds i a = (l.set i a).toArray := List.setIfInBounds_toArray ..
theorem sb_ {α : Type} (x : α) (l : List α) (b : α) : (x :: l).set 0 b = b :: l := rfl
theorem sc_ {α : Type} (x : α) (l : List α) (n : Nat) (b : α) : (x :: l).set (n + 1) b = x :: l.set n b := rfl
theorem an_ {md : Region.Mode} {ops : Array Oper} {T : Bool × List (List Nat × List Nat)} {l l' : Array Bool} {i : Nat} (hT : Aside0 (rtab md ops = T)) (h : anyT T l.toList l'.toList i = true := by kernel_rfl) : anyB md ops l l' i = true := any_of hT.out h
theorem on_ {md : Region.Mode} {ops : Array Oper} {T : Bool × List (List Nat × List Nat)} {l l' : Array Bool} {i : Nat} (hT : Aside0 (rtab md ops = T)) (h : (readyT T.2 l.toList == [i] && l.toList.set i true == l'.toList) = true := by kernel_rfl) : readyB md ops l l' i = true := one_of hT.out h
theorem tk_ {md : Region.Mode} {ops : Array Oper} {T : Bool × List (List Nat × List Nat)} {l l' : Array Bool} {ds : List Nat} {i : Nat} {B : List Nat} (hT : Aside0 (rtab md ops = T)) (hB : Aside0 (waitsOk T.2 B = true)) (h : takeW T B ds l.toList l'.toList i = true := by kernel_rfl) : takeB md ops ds l l' i = true := take_ofW hT.out hB.out h
theorem w64_0 : wrap64 0 = 0 := by decide +kernel
theorem w64_1 : wrap64 1 = 1 := by decide +kernel
theorem w64_2 : wrap64 2 = 2 := by decide +kernel
theorem w64_3 : wrap64 3 = 3 := by decide +kernel
theorem w64_4 : wrap64 4 = 4 := by decide +kernel
theorem w64_5 : wrap64 5 = 5 := by decide +kernel
theorem w64_6 : wrap64 6 = 6 := by decide +kernel
theorem w64_7 : wrap64 7 = 7 := by decide +kernel
theorem tm4_0 : Int.tmod 0 4 = 0 := by decide
theorem tm4_1 : Int.tmod 1 4 = 1 := by decide
theorem tm4_2 : Int.tmod 2 4 = 2 := by decide
theorem tm4_3 : Int.tmod 3 4 = 3 := by decide
theorem tm4_4 : Int.tmod 4 4 = 0 := by decide
theorem tm4_5 : Int.tmod 5 4 = 1 := by decide
theorem tm4_6 : Int.tmod 6 4 = 2 := by decide
theorem tm4_7 : Int.tmod 7 4 = 3 := by decide
end Go.Proofs.YtgmdpghbkjlnhaaDoor.Q
end
section
namespace Go.Proofs.YtgmdpghbkjlnhaaDoor.Q
open Go.RowKit Go.Proofs.YtgmdpghbkjlnhaaDoorW.PrintWords Go.Proofs.YtgmdpghbkjlnhaaDoorW.PrintLast Go.Proofs.YtgmdpghbkjlnhaaDoorW.PrintMore
section
variable {P : Program} {d : Nat} {xs ys : Array Value} {e : TypeId} {c j : Nat} {js : List Nat} {a b : Value} {r s : Bool} {w : World}
theorem eqi_last (ha : (part e xs (j * c)).run P w = .ok a w) (hb : (part e ys (j * c)).run P w = .ok b w) (he : (Op.equalIn d e a b).run P w = .ok r w) : (Op.eqItems d e c xs ys [j]).run P w = .ok r w := by
  simp only [Op.eqItems, Sem.run_bind, ha, hb, he, Result.andThen_ok]
  cases r <;> simp
theorem eqi_cons (ha : (part e xs (j * c)).run P w = .ok a w) (hb : (part e ys (j * c)).run P w = .ok b w) (he : (Op.equalIn d e a b).run P w = .ok r w) (hr : (Op.eqItems d e c xs ys js).run P w = .ok s w) : (Op.eqItems d e c xs ys (j :: js)).run P w = .ok (r && s) w := by
  simp only [Op.eqItems, Sem.run_bind, ha, hb, he, Result.andThen_ok]
  cases r
  · simp
  · simpa using hr
theorem eqarr_of {t : TypeId} {n : Nat} {l : List Nat} (hu : P.underlying t = some (.array n e)) (hi : (P.info? e).isSome = true) (hc : P.cellsOf e = c) (hl : List.range n = l) (h : (Op.eqItems d e c xs ys l).run P w = .ok r w) : (Op.equalIn (d + 1) t (.agg xs) (.agg ys)).run P w = .ok r w := by
  obtain ⟨i, hi⟩ := Option.isSome_iff_exists.mp hi
  rw [Go.run_equalIn_array w d xs ys hu hi, hc, hl]
  exact h
end
end Go.Proofs.YtgmdpghbkjlnhaaDoor.Q
end
section
namespace Go.Proofs.YtgmdpghbkjlnhaaDoor.Q
open Go.RowKit Go.Proofs.YtgmdpghbkjlnhaaDoorW.PrintWords Go.Proofs.YtgmdpghbkjlnhaaDoorW.PrintLast Go.Proofs.YtgmdpghbkjlnhaaDoorW.PrintMore
attribute [local go_sem] max2_int min2_int max_two min_two max_three min_three max_four min_four run_store_fnV run_store_fnc run_store_nfn   -- for this text's walks alone
set_option linter.unusedVariables false
set_option linter.unusedSimpArgs false

theorem eqA23 (d : Nat) (w : World) (x0 y0 : Int) (x1 y1 : Int) (x2 y2 : Int) (x3 y3 : Int) :
    (Op.equalIn (d + 2) 23 (.agg #[.int .u8 x0, .int .u8 x1, .int .u8 x2, .int .u8 x3]) (.agg #[.int .u8 y0, .int .u8 y1, .int .u8 y2, .int .u8 y3])).run Tryd.prog w = .ok (x0 == y0 && (x1 == y1 && (x2 == y2 && (x3 == y3)))) w := by
  refine eqarr_of (c := 1) (l := [0, 1, 2, 3]) Tryd.underlying23 (by kernel_rfl) (by kernel_rfl) (by rfl) ?_
  refine eqi_cons (by go_simp; rfl) (by go_simp; rfl) (by go_simp) ?_
  refine eqi_cons (by go_simp; rfl) (by go_simp; rfl) (by go_simp) ?_
  refine eqi_cons (by go_simp; rfl) (by go_simp; rfl) (by go_simp) ?_
  exact eqi_last (by go_simp; rfl) (by go_simp; rfl) (by go_simp)
theorem eqA24 (d : Nat) (w : World) (x0 y0 : Int) (x1 y1 : Int) (x2 y2 : Int) (x3 y3 : Int) (x4 y4 : Int) (x5 y5 : Int) (x6 y6 : Int) (x7 y7 : Int) (x8 y8 : Int) (x9 y9 : Int) (x10 y10 : Int) (x11 y11 : Int) (x12 y12 : Int) (x13 y13 : Int) (x14 y14 : Int) (x15 y15 : Int) :
    (Op.equalIn (d + 2) 24 (.agg #[.int .u8 x0, .int .u8 x1, .int .u8 x2, .int .u8 x3, .int .u8 x4, .int .u8 x5, .int .u8 x6, .int .u8 x7, .int .u8 x8, .int .u8 x9, .int .u8 x10, .int .u8 x11, .int .u8 x12, .int .u8 x13, .int .u8 x14, .int .u8 x15]) (.agg #[.int .u8 y0, .int .u8 y1, .int .u8 y2, .int .u8 y3, .int .u8 y4, .int .u8 y5, .int .u8 y6, .int .u8 y7, .int .u8 y8, .int .u8 y9, .int .u8 y10, .int .u8 y11, .int .u8 y12, .int .u8 y13, .int .u8 y14, .int .u8 y15])).run Tryd.prog w = .ok (x0 == y0 && (x1 == y1 && (x2 == y2 && (x3 == y3 && (x4 == y4 && (x5 == y5 && (x6 == y6 && (x7 == y7 && (x8 == y8 && (x9 == y9 && (x10 == y10 && (x11 == y11 && (x12 == y12 && (x13 == y13 && (x14 == y14 && (x15 == y15)))))))))))))))) w := by
  refine eqarr_of (c := 1) (l := [0, 1, 2, 3, 4, 5, 6, 7, 8, 9, 10, 11, 12, 13, 14, 15]) Tryd.underlying24 (by kernel_rfl) (by kernel_rfl) (by rfl) ?_
  refine eqi_cons (by go_simp; rfl) (by go_simp; rfl) (by go_simp) ?_
  refine eqi_cons (by go_simp; rfl) (by go_simp; rfl) (by go_simp) ?_
  refine eqi_cons (by go_simp; rfl) (by go_simp; rfl) (by go_simp) ?_
  refine eqi_cons (by go_simp; rfl) (by go_simp; rfl) (by go_simp) ?_
  refine eqi_cons (by go_simp; rfl) (by go_simp; rfl) (by go_simp) ?_
  refine eqi_cons (by go_simp; rfl) (by go_simp; rfl) (by go_simp) ?_
  refine eqi_cons (by go_simp; rfl) (by go_simp; rfl) (by go_simp) ?_
  refine eqi_cons (by go_simp; rfl) (by go_simp; rfl) (by go_simp) ?_
  refine eqi_cons (by go_simp; rfl) (by go_simp; rfl) (by go_simp) ?_
  refine eqi_cons (by go_simp; rfl) (by go_simp; rfl) (by go_simp) ?_
  refine eqi_cons (by go_simp; rfl) (by go_simp; rfl) (by go_simp) ?_
  refine eqi_cons (by go_simp; rfl) (by go_simp; rfl) (by go_simp) ?_
  refine eqi_cons (by go_simp; rfl) (by go_simp; rfl) (by go_simp) ?_
  refine eqi_cons (by go_simp; rfl) (by go_simp; rfl) (by go_simp) ?_
  refine eqi_cons (by go_simp; rfl) (by go_simp; rfl) (by go_simp) ?_
  exact eqi_last (by go_simp; rfl) (by go_simp; rfl) (by go_simp)
theorem eqA26 (d : Nat) (w : World) (x0 y0 : Int) (x1 y1 : Int) (x2 y2 : Int) (x3 y3 : Int) (x4 y4 : Int) (x5 y5 : Int) (x6 y6 : Int) (x7 y7 : Int) (x8 y8 : Int) (x9 y9 : Int) (x10 y10 : Int) (x11 y11 : Int) (x12 y12 : Int) (x13 y13 : Int) (x14 y14 : Int) (x15 y15 : Int) (x16 y16 : Int) (x17 y17 : Int) (x18 y18 : Int) (x19 y19 : Int) (x20 y20 : Int) :
    (Op.equalIn (d + 3) 26 (.agg #[.int .i64 x0, .int .u8 x1, .int .u8 x2, .int .u8 x3, .int .u8 x4, .int .u8 x5, .int .u8 x6, .int .u8 x7, .int .u8 x8, .int .u8 x9, .int .u8 x10, .int .u8 x11, .int .u8 x12, .int .u8 x13, .int .u8 x14, .int .u8 x15, .int .u8 x16, .int .u8 x17, .int .u8 x18, .int .u8 x19, .int .u8 x20]) (.agg #[.int .i64 y0, .int .u8 y1, .int .u8 y2, .int .u8 y3, .int .u8 y4, .int .u8 y5, .int .u8 y6, .int .u8 y7, .int .u8 y8, .int .u8 y9, .int .u8 y10, .int .u8 y11, .int .u8 y12, .int .u8 y13, .int .u8 y14, .int .u8 y15, .int .u8 y16, .int .u8 y17, .int .u8 y18, .int .u8 y19, .int .u8 y20])).run Tryd.prog w = .ok (x0 == y0 && ((x1 == y1 && (x2 == y2 && (x3 == y3 && (x4 == y4)))) && ((x5 == y5 && (x6 == y6 && (x7 == y7 && (x8 == y8 && (x9 == y9 && (x10 == y10 && (x11 == y11 && (x12 == y12 && (x13 == y13 && (x14 == y14 && (x15 == y15 && (x16 == y16 && (x17 == y17 && (x18 == y18 && (x19 == y19 && (x20 == y20))))))))))))))))))) w := by
  refine eqA_of Tryd.underlying26 (by kernel_rfl) ?_
  refine eqf_cons (by rfl) (by go_simp; rfl) (by go_simp; rfl) (by go_simp) ?_
  refine eqf_cons (by rfl) (by go_simp) (by go_simp) (eqA23 (d + 0) w _ _ _ _ _ _ _ _) ?_
  exact eqf_last (by rfl) (by go_simp) (by go_simp) (eqA24 (d + 0) w _ _ _ _ _ _ _ _ _ _ _ _ _ _ _ _ _ _ _ _ _ _ _ _ _ _ _ _ _ _ _ _)
end Go.Proofs.YtgmdpghbkjlnhaaDoor.Q
end
section
namespace Go.Proofs.YtgmdpghbkjlnhaaDoor.Q
open Go.RowKit Go.Proofs.YtgmdpghbkjlnhaaDoorW.PrintWords Go.Proofs.YtgmdpghbkjlnhaaDoorW.PrintLast Go.Proofs.YtgmdpghbkjlnhaaDoorW.PrintMore
attribute [local go_sem] max2_int min2_int max_two min_two max_three min_three max_four min_four run_store_fnV run_store_fnc run_store_nfn   -- for this text's walks alone
set_option linter.unusedVariables false
set_option linter.unusedSimpArgs false

-- BY HAND: function 34 (isa_fits): Derived.Test.YtgmdpghbkjlnhaaDoorHFits

/-! ### isa_lands: function 35 -/
def isa_lands.f (a0_0 : Int) (a0_1 : Int) (a0_2 : Int) (a0_3 : Int) (a1 : Int) : Option (Bool) := if a0_0 = 8 then (some (decide ((wrap64 (a0_3)) ≤ a1))) else (some true)
set_option maxHeartbeats 8000000 in
set_option maxRecDepth 100000 in
theorem isa_lands.calls (a0_0 : Int) (a0_1 : Int) (a0_2 : Int) (a0_3 : Int) (a1 : Int) (r : Bool) (w : World) (h : isa_lands.f a0_0 a0_1 a0_2 a0_3 a1 = some r) :
    Calls Tryd.prog 35 #[.agg #[.int .u8 a0_0, .int .u8 a0_1, .int .u8 a0_2, .int .u8 a0_3], .int .i64 a1] w fun e w' => e = .returned (.bool r) ∧ Below w.heap.size w w' := by
  have hu47 := Tryd.underlying47
  have HB := Aside0.mk (Below.refl w.heap.size w)
  have H : (if a0_0 = 8 then (some (decide ((wrap64 (a0_3)) ≤ a1))) else (some true)) = some r := h
  clear h
  by_cases c3 : a0_0 = 8
  · rw [if_pos c3] at H
    have c3b0 : (a0_0 == 8) = true := beq_iff_eq.mpr c3
    have c3b1 : (a0_0 != 8) = false := bne_eq_false_iff_eq.mpr c3
    clear c3
    obtain rfl := Option.some.inj H
    go_enter Tryd.func35, Tryd.ntmps35
    go_wp2_with (first | ((with_reducible refine gate_dst (N := 2) rfl ?_); refine box_event ?hg (N := 2) ?hd (cs := #[.int .u8 a0_0, .int .u8 a0_1, .int .u8 a0_2, .int .u8 a0_3]) (t := 47) ?hr ?_; (case hd => rfl); (case hg => rfl); (case hr => first | (go_simp; done) | (go_simp; rfl)); intro gb108 hg w4 hbox hb; have n0_ := Aside0.mk (below_step (by repeat (first | (with_reducible first | exact HB.out | apply below_alloc | apply pw_below_drewN | apply below_drew1) | exact HB.out)) hb); have n1_ := Aside0.mk (hbox); have n2_ := Aside0.mk ((by rw [hg]; exact (below_size (by repeat (first | (with_reducible first | exact HB.out | apply below_alloc | apply pw_below_drewN | apply below_drew1) | exact HB.out))) : w.heap.size ≤ gb108)); have n3_ := Aside0.mk ((by rw [hg]; exact (below_size (by repeat (first | (with_reducible first | exact HB.out | apply below_alloc | apply pw_below_drewN | apply below_drew1) | exact HB.out))) : w.heap.size ≤ gb108)); clear HB; have HB := n0_; have BK108 := n1_; have GW108 := n2_; have GE108 := n3_; clear n0_ n1_ n2_ n3_; clear hb hbox hg; have hcz5_0 : w4.cell? ⟨gb108, 0, none⟩ = some (.int .u8 a0_0) := (blk_cell BK108.out 0).trans rfl; have hcz5_1 : w4.cell? ⟨gb108, 1, none⟩ = some (.int .u8 a0_1) := (blk_cell BK108.out 1).trans rfl; have hcz5_2 : w4.cell? ⟨gb108, 2, none⟩ = some (.int .u8 a0_2) := (blk_cell BK108.out 2).trans rfl; have hcz5_3 : w4.cell? ⟨gb108, 3, none⟩ = some (.int .u8 a0_3) := (blk_cell BK108.out 3).trans rfl; have hfz5_0 := blk_frozen BK108.out 0; have hfz5_1 := blk_frozen BK108.out 1; have hfz5_2 := blk_frozen BK108.out 2; have hfz5_3 := blk_frozen BK108.out 3))
    go_ret
    exact ⟨by first | rfl | (simp [errW_none, errW_some] <;> rfl) | (simp [*, errW_none, errW_some] <;> rfl), by repeat (first | (with_reducible first | exact HB.out | apply below_alloc | apply pw_below_drewN | apply below_drew1 | refine below_set ?_ GE108.out) | exact HB.out)⟩
  · rw [if_neg c3] at H
    have c3b0 : (a0_0 == 8) = false := beq_eq_false_iff_ne.mpr c3
    have c3b1 : (a0_0 != 8) = true := bne_iff_ne.mpr c3
    obtain rfl := Option.some.inj H
    go_enter Tryd.func35, Tryd.ntmps35
    go_wp2_with (first | ((with_reducible refine gate_dst (N := 2) rfl ?_); refine box_event ?hg (N := 2) ?hd (cs := #[.int .u8 a0_0, .int .u8 a0_1, .int .u8 a0_2, .int .u8 a0_3]) (t := 47) ?hr ?_; (case hd => rfl); (case hg => rfl); (case hr => first | (go_simp; done) | (go_simp; rfl)); intro gb108 hg w6 hbox hb; have n0_ := Aside0.mk (below_step (by repeat (first | (with_reducible first | exact HB.out | apply below_alloc | apply pw_below_drewN | apply below_drew1) | exact HB.out)) hb); have n1_ := Aside0.mk (hbox); have n2_ := Aside0.mk ((by rw [hg]; exact (below_size (by repeat (first | (with_reducible first | exact HB.out | apply below_alloc | apply pw_below_drewN | apply below_drew1) | exact HB.out))) : w.heap.size ≤ gb108)); have n3_ := Aside0.mk ((by rw [hg]; exact (below_size (by repeat (first | (with_reducible first | exact HB.out | apply below_alloc | apply pw_below_drewN | apply below_drew1) | exact HB.out))) : w.heap.size ≤ gb108)); clear HB; have HB := n0_; have BK108 := n1_; have GW108 := n2_; have GE108 := n3_; clear n0_ n1_ n2_ n3_; clear hb hbox hg; have hcz7_0 : w6.cell? ⟨gb108, 0, none⟩ = some (.int .u8 a0_0) := (blk_cell BK108.out 0).trans rfl; have hcz7_1 : w6.cell? ⟨gb108, 1, none⟩ = some (.int .u8 a0_1) := (blk_cell BK108.out 1).trans rfl; have hcz7_2 : w6.cell? ⟨gb108, 2, none⟩ = some (.int .u8 a0_2) := (blk_cell BK108.out 2).trans rfl; have hcz7_3 : w6.cell? ⟨gb108, 3, none⟩ = some (.int .u8 a0_3) := (blk_cell BK108.out 3).trans rfl; have hfz7_0 := blk_frozen BK108.out 0; have hfz7_1 := blk_frozen BK108.out 1; have hfz7_2 := blk_frozen BK108.out 2; have hfz7_3 := blk_frozen BK108.out 3))
    go_ret
    exact ⟨by first | rfl | (simp [errW_none, errW_some] <;> rfl) | (simp [*, errW_none, errW_some] <;> rfl), by repeat (first | (with_reducible first | exact HB.out | apply below_alloc | apply pw_below_drewN | apply below_drew1 | refine below_set ?_ GE108.out) | exact HB.out)⟩

end Go.Proofs.YtgmdpghbkjlnhaaDoor.Q
end
section
namespace Go.Proofs.YtgmdpghbkjlnhaaDoor.Q
open Go.RowKit Go.Proofs.YtgmdpghbkjlnhaaDoorW.PrintWords Go.Proofs.YtgmdpghbkjlnhaaDoorW.PrintLast Go.Proofs.YtgmdpghbkjlnhaaDoorW.PrintMore
attribute [local go_sem] max2_int min2_int max_two min_two max_three min_three max_four min_four run_store_fnV run_store_fnc run_store_nfn   -- for this text's walks alone
set_option linter.unusedVariables false
set_option linter.unusedSimpArgs false

/-! ### isa_Valid: function 25 -/
def isa_Valid.l0 : Nat → List (S47) → List (S47) → Int → Int → Option (Int)
  | 0, _, _, _, _ => none
  | k + 1, x0, x8, x9, x10 => if x10 < x9 then (if 0 ≤ x10 then (if x10 < (x8.length : Int) then ((isa_fits.f ((rd_T47 x8 x10).f0) ((rd_T47 x8 x10).f1) ((rd_T47 x8 x10).f2) ((rd_T47 x8 x10).f3)).bind fun t111 => (if t111 = true then ((isa_lands.f ((rd_T47 x8 x10).f0) ((rd_T47 x8 x10).f1) ((rd_T47 x8 x10).f2) ((rd_T47 x8 x10).f3) (x0.length : Int)).bind fun t112 => (if t112 = true then (isa_Valid.l0 k x0 x8 x9 (wrap64 (x10 + 1))) else (some 2))) else (some 1))) else (none)) else (none)) else (some 0)
def isa_Valid.f (k : Nat) (l0 : List (S47)) : Option (Int) := if (l0.length : Int) > 32 then (some 3) else (isa_Valid.l0 k l0 l0 (l0.length : Int) 0)
theorem isa_Valid.mono_l : ∀ k, (∀ y0 y1 y2 y3, LeO (isa_Valid.l0 k y0 y1 y2 y3) (isa_Valid.l0 (k + 1) y0 y1 y2 y3))
  | 0 => fun _ _ _ _ r h => by simp [isa_Valid.l0] at h
  | k + 1 => by
    have ih0 := isa_Valid.mono_l k
    · intro y0 y1 y2 y3
      unfold isa_Valid.l0
      repeat' first
      | (with_reducible exact ih0 _ _ _ _)
      | (with_reducible exact LeO.refl _)
      | (with_reducible exact LeO.none _)
      | (with_reducible refine LeO.ite ?_ ?_)
      | (with_reducible refine LeO.bind ?_ (fun _ => ?_))
      | exact ih0 _ _ _ _
      | exact LeO.none _
      | refine LeO.ite ?_ ?_
      | refine LeO.bind ?_ (fun _ => ?_)
theorem isa_Valid.mono : ∀ a0 k, LeO (isa_Valid.f k a0) (isa_Valid.f (k + 1) a0) := by
  intro a0 k
  have ih0 := isa_Valid.mono_l k
  unfold isa_Valid.f
  repeat' first
      | (with_reducible exact ih0 _ _ _ _)
      | (with_reducible exact LeO.refl _)
      | (with_reducible exact LeO.none _)
      | (with_reducible refine LeO.ite ?_ ?_)
      | (with_reducible refine LeO.bind ?_ (fun _ => ?_))
      | exact ih0 _ _ _ _
      | exact LeO.none _
      | refine LeO.ite ?_ ?_
      | refine LeO.bind ?_ (fun _ => ?_)
set_option maxHeartbeats 8000000 in
set_option maxRecDepth 100000 in
theorem isa_Valid.calls (k : Nat) (A0 : Option Addr) (c0 : Nat) (l0 : List (S47)) (r : Int) (w : World) (hr0 : Kd.C k47 w A0 l0.length l0) (hc0 : l0.length ≤ c0) (hrG : GL w) (h : isa_Valid.f k l0 = some r) :
    Calls Tryd.prog 25 #[.slice A0 l0.length c0] w fun e w' => e = .returned (.int .i64 r) ∧ Below w.heap.size w w' := by
  have hu47 := Tryd.underlying47
  have HRG := Aside0.mk hrG
  clear hrG
  have HR0 := Aside0.mk hr0
  have HC0 := Aside0.mk hc0
  clear hr0 hc0
  have HB := Aside0.mk (Below.refl w.heap.size w)
  have H : (if (l0.length : Int) > 32 then (some 3) else (isa_Valid.l0 k l0 l0 (l0.length : Int) 0)) = some r := h
  clear h
  by_cases c2 : (l0.length : Int) > 32
  · rw [if_pos c2] at H
    have c2b0 : decide (32 < (l0.length : Int)) = true := decide_eq_true c2
    have c2b1 : decide (32 < l0.length) = true := decide_eq_true (by omega)
    clear c2
    obtain rfl := Option.some.inj H
    go_enter Tryd.func25, Tryd.ntmps25
    go_wp2
    go_ret
    exact ⟨by first | rfl | (simp [errW_none, errW_some] <;> rfl) | (simp [*, errW_none, errW_some] <;> rfl), by repeat (first | (with_reducible first | exact HB.out | apply below_alloc | apply pw_below_drewN | apply below_drew1) | exact HB.out)⟩
  · rw [if_neg c2] at H
    have c2b0 : decide (32 < (l0.length : Int)) = false := decide_eq_false c2
    have c2b1 : decide (32 < l0.length) = false := decide_eq_false (by omega)
    clear c2
    have H' := Aside0.mk H
    clear H
    go_enter Tryd.func25, Tryd.ntmps25
    go_wp2
    go_loopg [10] k (fun kq v10 w' => ∃ (x10_1 : Int), v10 = .int .i64 x10_1 ∧ Aside0 (isa_Valid.l0 kq l0 l0 (l0.length : Int) x10_1 = some r) ∧ Aside0 (kq ≤ k) ∧ Aside0 (Below w.heap.size w w'))
    case atStart => exact ⟨(0), (by first | rfl | (simp; done) | (simp [*]; done) | (simp; rfl) | (simp; decide +kernel)), H', ⟨Nat.le_refl _⟩, ⟨by repeat (first | (with_reducible first | exact HB.out | apply below_alloc | apply pw_below_drewN | apply below_drew1) | exact HB.out)⟩⟩
    case round =>
      clear H'
      try clear c2
      try clear c2b0
      try clear c2b1
      try clear p2
      obtain ⟨x10_1, rfl, HA, HK1, HB⟩ := hrel
      cases gk with
      | zero => exact absurd HA.out (by simp [isa_Valid.l0])
      | succ k1 =>
        have H := HA.out
        clear HA
        simp only [isa_Valid.l0] at H
        by_cases c3 : x10_1 < (l0.length : Int)
        · rw [if_pos c3] at H
          have c3b0 : decide (x10_1 < (l0.length : Int)) = true := decide_eq_true c3
          clear c3
          by_cases c4 : 0 ≤ x10_1
          · rw [if_pos c4] at H
            have c4b0 : decide (0 ≤ x10_1) = true := decide_eq_true c4
            clear c4
            by_cases c5 : x10_1 < (l0.length : Int)
            · rw [if_pos c5] at H
              have c5b0 : decide (x10_1 < (l0.length : Int)) = true := decide_eq_true c5
              clear c5
              replace H := Option.bind_eq_some_iff.mp H
              obtain ⟨t111, A60, H⟩ := H
              replace H : (if t111 = true then ((isa_lands.f ((rd_T47 l0 x10_1).f0) ((rd_T47 l0 x10_1).f1) ((rd_T47 l0 x10_1).f2) ((rd_T47 l0 x10_1).f3) (l0.length : Int)).bind fun t112 => (if t112 = true then (isa_Valid.l0 k1 l0 l0 (l0.length : Int) (wrap64 (x10_1 + 1))) else (some 2))) else (some 1)) = some r := H
              have A6 := Aside0.mk A60
              clear A60
              by_cases c7 : t111 = true
              · subst c7
                have H1 : ((isa_lands.f ((rd_T47 l0 x10_1).f0) ((rd_T47 l0 x10_1).f1) ((rd_T47 l0 x10_1).f2) ((rd_T47 l0 x10_1).f3) (l0.length : Int)).bind fun t112 => (if t112 = true then (isa_Valid.l0 k1 l0 l0 (l0.length : Int) (wrap64 (x10_1 + 1))) else (some 2))) = some r := by rw [if_pos rfl] at H; exact H
                clear H
                have H := H1
                clear H1
                replace H := Option.bind_eq_some_iff.mp H
                obtain ⟨t112, A80, H⟩ := H
                replace H : (if t112 = true then (isa_Valid.l0 k1 l0 l0 (l0.length : Int) (wrap64 (x10_1 + 1))) else (some 2)) = some r := H
                have A8 := Aside0.mk A80
                clear A80
                by_cases c9 : t112 = true
                · subst c9
                  have H1 : (isa_Valid.l0 k1 l0 l0 (l0.length : Int) (wrap64 (x10_1 + 1))) = some r := by rw [if_pos rfl] at H; exact H
                  clear H
                  have H := H1
                  clear H1
                  have H' := Aside0.mk H
                  clear H
                  have p109 : 0 ≤ (x10_1 : Int) := of_decide_eq_true (by first | (with_reducible assumption) | assumption)
                  have q109 : x10_1 < (l0.length : Int) := of_decide_eq_true (by first | (with_reducible assumption) | assumption)
                  obtain ⟨ad109, e109, hx109_0, hx109_1, hx109_2, hx109_3⟩ := at_T47 HR0.out x10_1 p109 q109
                  cases e109
                  replace hx109_0 := (HB.out.cell (World.block_lt_of_cell? w _ hx109_0)).trans hx109_0
                  replace hx109_1 := (HB.out.cell (World.block_lt_of_cell? w _ hx109_1)).trans hx109_1
                  replace hx109_2 := (HB.out.cell (World.block_lt_of_cell? w _ hx109_2)).trans hx109_2
                  replace hx109_3 := (HB.out.cell (World.block_lt_of_cell? w _ hx109_3)).trans hx109_3
                  replace p109 := eq_true p109
                  replace q109 := eq_true q109
                  go_wp2_with (first | ((with_reducible refine gate_dst (N := 4) rfl ?_); refine box_event ?hg (N := 4) ?hd (cs := #[.int .u8 0, .int .u8 0, .int .u8 0, .int .u8 0]) (t := 47) ?hr ?_; (case hd => rfl); (case hg => rfl); (case hr => first | (go_simp; done) | (go_simp; rfl)); intro gb110 hg w10 hbox hb; have n0_ := Aside0.mk (below_step (by repeat (first | (with_reducible first | exact HB.out | apply below_alloc | apply pw_below_drewN | apply below_drew1) | exact HB.out)) hb); have n1_ := Aside0.mk (hbox); have n2_ := Aside0.mk ((by rw [hg]; exact (below_size (by repeat (first | (with_reducible first | exact HB.out | apply below_alloc | apply pw_below_drewN | apply below_drew1) | exact HB.out))) : w.heap.size ≤ gb110)); have n3_ := Aside0.mk ((by rw [hg]; exact (below_size (by repeat (first | (with_reducible first | exact HB.out | apply below_alloc | apply pw_below_drewN | apply below_drew1) | exact HB.out))) : w.heap.size ≤ gb110)); clear HB; have HB := n0_; have BK110 := n1_; have GW110 := n2_; have GE110 := n3_; clear n0_ n1_ n2_ n3_; clear hb hbox hg; have hcz11_0 : w10.cell? ⟨gb110, 0, none⟩ = some (.int .u8 0) := (blk_cell BK110.out 0).trans rfl; have hcz11_1 : w10.cell? ⟨gb110, 1, none⟩ = some (.int .u8 0) := (blk_cell BK110.out 1).trans rfl; have hcz11_2 : w10.cell? ⟨gb110, 2, none⟩ = some (.int .u8 0) := (blk_cell BK110.out 2).trans rfl; have hcz11_3 : w10.cell? ⟨gb110, 3, none⟩ = some (.int .u8 0) := (blk_cell BK110.out 3).trans rfl; have hfz11_0 := blk_frozen BK110.out 0; have hfz11_1 := blk_frozen BK110.out 1; have hfz11_2 := blk_frozen BK110.out 2; have hfz11_3 := blk_frozen BK110.out 3) | ((with_reducible refine gate_callee (f := 34) rfl ?_); refine goesL_ (some 16) rfl rfl Tryd.func34 (by kernel_rfl) rfl #[.agg #[.int .u8 ((rd_T47 l0 x10_1).f0), .int .u8 ((rd_T47 l0 x10_1).f1), .int .u8 ((rd_T47 l0 x10_1).f2), .int .u8 ((rd_T47 l0 x10_1).f3)]] rfl (by (try simp only [List.map_toArray, List.map_cons, List.map_nil]); first | done | rfl | (simp only [List.length_drop, List.length_take]; rfl) | (go_simp; done) | (go_simp; rw [Int.tmod_eq_emod_of_nonneg (by omega)]; omega)) ?_; (with_reducible refine (isa_fits.calls ((rd_T47 l0 x10_1).f0) ((rd_T47 l0 x10_1).f1) ((rd_T47 l0 x10_1).f2) ((rd_T47 l0 x10_1).f3) true _ ?side1 A6.out).mono ?_); (case side1 => exact GL.below HRG.out (by repeat (first | (with_reducible first | exact HB.out | apply below_alloc | apply pw_below_drewN | apply below_drew1 | refine below_set ?_ GE110.out) | exact HB.out))); rintro e w12 ⟨rfl, hb⟩; refine ⟨_, rfl, ?_⟩; have n0_ := Aside0.mk (blk_below (g := gb110) (o := .cells #[.int .u8 ((rd_T47 l0 x10_1).f0), .int .u8 ((rd_T47 l0 x10_1).f1), .int .u8 ((rd_T47 l0 x10_1).f2), .int .u8 ((rd_T47 l0 x10_1).f3)] 47 (0, 0)) (by (with_reducible repeat (first | refine blk_drewN ?_ _ | refine blk_drew ?_ | refine blk_alloc ?_ _)); refine blk_put (cs := #[.int .u8 ((rd_T47 l0 x10_1).f0), .int .u8 ((rd_T47 l0 x10_1).f1), .int .u8 ((rd_T47 l0 x10_1).f2), .int .u8 0]) ?_ 3 _ rfl; (with_reducible repeat (first | refine blk_drewN ?_ _ | refine blk_drew ?_ | refine blk_alloc ?_ _)); refine blk_put (cs := #[.int .u8 ((rd_T47 l0 x10_1).f0), .int .u8 ((rd_T47 l0 x10_1).f1), .int .u8 0, .int .u8 0]) ?_ 2 _ rfl; (with_reducible repeat (first | refine blk_drewN ?_ _ | refine blk_drew ?_ | refine blk_alloc ?_ _)); refine blk_put (cs := #[.int .u8 ((rd_T47 l0 x10_1).f0), .int .u8 0, .int .u8 0, .int .u8 0]) ?_ 1 _ rfl; (with_reducible repeat (first | refine blk_drewN ?_ _ | refine blk_drew ?_ | refine blk_alloc ?_ _)); refine blk_put (cs := #[.int .u8 0, .int .u8 0, .int .u8 0, .int .u8 0]) ?_ 0 _ rfl; (with_reducible repeat (first | refine blk_drewN ?_ _ | refine blk_drew ?_ | refine blk_alloc ?_ _)); exact BK110.out) hb); have n1_ := Aside0.mk (below_step (by repeat (first | (with_reducible first | exact HB.out | apply below_alloc | apply pw_below_drewN | apply below_drew1 | refine below_set ?_ GE110.out) | exact HB.out)) hb); clear BK110; clear HB; have BK110 := n0_; have HB := n1_; clear n0_ n1_; (try clear hb); (try clear hb2); (try clear hk); (try clear hi); have hcz13_0 : w12.cell? ⟨gb110, 0, none⟩ = some (.int .u8 ((rd_T47 l0 x10_1).f0)) := (blk_cell BK110.out 0).trans rfl; have hcz13_1 : w12.cell? ⟨gb110, 1, none⟩ = some (.int .u8 ((rd_T47 l0 x10_1).f1)) := (blk_cell BK110.out 1).trans rfl; have hcz13_2 : w12.cell? ⟨gb110, 2, none⟩ = some (.int .u8 ((rd_T47 l0 x10_1).f2)) := (blk_cell BK110.out 2).trans rfl; have hcz13_3 : w12.cell? ⟨gb110, 3, none⟩ = some (.int .u8 ((rd_T47 l0 x10_1).f3)) := (blk_cell BK110.out 3).trans rfl; have hfz13_0 := blk_frozen BK110.out 0; have hfz13_1 := blk_frozen BK110.out 1; have hfz13_2 := blk_frozen BK110.out 2; have hfz13_3 := blk_frozen BK110.out 3) | ((with_reducible refine gate_callee (f := 35) rfl ?_); refine goesL_ (some 22) rfl rfl Tryd.func35 (by kernel_rfl) rfl #[.agg #[.int .u8 ((rd_T47 l0 x10_1).f0), .int .u8 ((rd_T47 l0 x10_1).f1), .int .u8 ((rd_T47 l0 x10_1).f2), .int .u8 ((rd_T47 l0 x10_1).f3)], .int .i64 (l0.length : Int)] rfl (by (try simp only [List.map_toArray, List.map_cons, List.map_nil]); first | done | rfl | (simp only [List.length_drop, List.length_take]; rfl) | (go_simp; done) | (go_simp; rw [Int.tmod_eq_emod_of_nonneg (by omega)]; omega)) ?_; (with_reducible refine (isa_lands.calls ((rd_T47 l0 x10_1).f0) ((rd_T47 l0 x10_1).f1) ((rd_T47 l0 x10_1).f2) ((rd_T47 l0 x10_1).f3) (l0.length : Int) true _ A8.out).mono ?_); rintro e w14 ⟨rfl, hb⟩; refine ⟨_, rfl, ?_⟩; have n0_ := Aside0.mk (blk_below (g := gb110) (o := .cells #[.int .u8 ((rd_T47 l0 x10_1).f0), .int .u8 ((rd_T47 l0 x10_1).f1), .int .u8 ((rd_T47 l0 x10_1).f2), .int .u8 ((rd_T47 l0 x10_1).f3)] 47 (0, 0)) (by (with_reducible repeat (first | refine blk_drewN ?_ _ | refine blk_drew ?_ | refine blk_alloc ?_ _)); exact BK110.out) hb); have n1_ := Aside0.mk (below_step (by repeat (first | (with_reducible first | exact HB.out | apply below_alloc | apply pw_below_drewN | apply below_drew1 | refine below_set ?_ GE110.out) | exact HB.out)) hb); clear BK110; clear HB; have BK110 := n0_; have HB := n1_; clear n0_ n1_; (try clear hb); (try clear hb2); (try clear hk); (try clear hi)))
                  go_roundg k1
                  case measure => have := HK1.out; omega
                  case rel => exact ⟨(wrap64 (x10_1 + 1)), (by first | rfl | (simp; done) | (simp [*]; done) | (simp; rfl) | (simp; decide +kernel)), H', ⟨by have := HK1.out; omega⟩, ⟨by repeat (first | (with_reducible first | exact HB.out | apply below_alloc | apply pw_below_drewN | apply below_drew1 | refine below_set ?_ GE110.out) | exact HB.out)⟩⟩
                · replace c9 := Bool.eq_false_iff.mpr c9
                  subst c9
                  have H1 : (some 2) = some r := by rw [if_neg (show ¬ (false = true) by decide)] at H; exact H
                  clear H
                  have H := H1
                  clear H1
                  obtain rfl := Option.some.inj H
                  have p109 : 0 ≤ (x10_1 : Int) := of_decide_eq_true (by first | (with_reducible assumption) | assumption)
                  have q109 : x10_1 < (l0.length : Int) := of_decide_eq_true (by first | (with_reducible assumption) | assumption)
                  obtain ⟨ad109, e109, hx109_0, hx109_1, hx109_2, hx109_3⟩ := at_T47 HR0.out x10_1 p109 q109
                  cases e109
                  replace hx109_0 := (HB.out.cell (World.block_lt_of_cell? w _ hx109_0)).trans hx109_0
                  replace hx109_1 := (HB.out.cell (World.block_lt_of_cell? w _ hx109_1)).trans hx109_1
                  replace hx109_2 := (HB.out.cell (World.block_lt_of_cell? w _ hx109_2)).trans hx109_2
                  replace hx109_3 := (HB.out.cell (World.block_lt_of_cell? w _ hx109_3)).trans hx109_3
                  replace p109 := eq_true p109
                  replace q109 := eq_true q109
                  go_wp2_with (first | ((with_reducible refine gate_dst (N := 4) rfl ?_); refine box_event ?hg (N := 4) ?hd (cs := #[.int .u8 0, .int .u8 0, .int .u8 0, .int .u8 0]) (t := 47) ?hr ?_; (case hd => rfl); (case hg => rfl); (case hr => first | (go_simp; done) | (go_simp; rfl)); intro gb110 hg w15 hbox hb; have n0_ := Aside0.mk (below_step (by repeat (first | (with_reducible first | exact HB.out | apply below_alloc | apply pw_below_drewN | apply below_drew1) | exact HB.out)) hb); have n1_ := Aside0.mk (hbox); have n2_ := Aside0.mk ((by rw [hg]; exact (below_size (by repeat (first | (with_reducible first | exact HB.out | apply below_alloc | apply pw_below_drewN | apply below_drew1) | exact HB.out))) : w.heap.size ≤ gb110)); have n3_ := Aside0.mk ((by rw [hg]; exact (below_size (by repeat (first | (with_reducible first | exact HB.out | apply below_alloc | apply pw_below_drewN | apply below_drew1) | exact HB.out))) : w.heap.size ≤ gb110)); clear HB; have HB := n0_; have BK110 := n1_; have GW110 := n2_; have GE110 := n3_; clear n0_ n1_ n2_ n3_; clear hb hbox hg; have hcz16_0 : w15.cell? ⟨gb110, 0, none⟩ = some (.int .u8 0) := (blk_cell BK110.out 0).trans rfl; have hcz16_1 : w15.cell? ⟨gb110, 1, none⟩ = some (.int .u8 0) := (blk_cell BK110.out 1).trans rfl; have hcz16_2 : w15.cell? ⟨gb110, 2, none⟩ = some (.int .u8 0) := (blk_cell BK110.out 2).trans rfl; have hcz16_3 : w15.cell? ⟨gb110, 3, none⟩ = some (.int .u8 0) := (blk_cell BK110.out 3).trans rfl; have hfz16_0 := blk_frozen BK110.out 0; have hfz16_1 := blk_frozen BK110.out 1; have hfz16_2 := blk_frozen BK110.out 2; have hfz16_3 := blk_frozen BK110.out 3) | ((with_reducible refine gate_callee (f := 34) rfl ?_); refine goesL_ (some 16) rfl rfl Tryd.func34 (by kernel_rfl) rfl #[.agg #[.int .u8 ((rd_T47 l0 x10_1).f0), .int .u8 ((rd_T47 l0 x10_1).f1), .int .u8 ((rd_T47 l0 x10_1).f2), .int .u8 ((rd_T47 l0 x10_1).f3)]] rfl (by (try simp only [List.map_toArray, List.map_cons, List.map_nil]); first | done | rfl | (simp only [List.length_drop, List.length_take]; rfl) | (go_simp; done) | (go_simp; rw [Int.tmod_eq_emod_of_nonneg (by omega)]; omega)) ?_; (with_reducible refine (isa_fits.calls ((rd_T47 l0 x10_1).f0) ((rd_T47 l0 x10_1).f1) ((rd_T47 l0 x10_1).f2) ((rd_T47 l0 x10_1).f3) true _ ?side1 A6.out).mono ?_); (case side1 => exact GL.below HRG.out (by repeat (first | (with_reducible first | exact HB.out | apply below_alloc | apply pw_below_drewN | apply below_drew1 | refine below_set ?_ GE110.out) | exact HB.out))); rintro e w17 ⟨rfl, hb⟩; refine ⟨_, rfl, ?_⟩; have n0_ := Aside0.mk (blk_below (g := gb110) (o := .cells #[.int .u8 ((rd_T47 l0 x10_1).f0), .int .u8 ((rd_T47 l0 x10_1).f1), .int .u8 ((rd_T47 l0 x10_1).f2), .int .u8 ((rd_T47 l0 x10_1).f3)] 47 (0, 0)) (by (with_reducible repeat (first | refine blk_drewN ?_ _ | refine blk_drew ?_ | refine blk_alloc ?_ _)); refine blk_put (cs := #[.int .u8 ((rd_T47 l0 x10_1).f0), .int .u8 ((rd_T47 l0 x10_1).f1), .int .u8 ((rd_T47 l0 x10_1).f2), .int .u8 0]) ?_ 3 _ rfl; (with_reducible repeat (first | refine blk_drewN ?_ _ | refine blk_drew ?_ | refine blk_alloc ?_ _)); refine blk_put (cs := #[.int .u8 ((rd_T47 l0 x10_1).f0), .int .u8 ((rd_T47 l0 x10_1).f1), .int .u8 0, .int .u8 0]) ?_ 2 _ rfl; (with_reducible repeat (first | refine blk_drewN ?_ _ | refine blk_drew ?_ | refine blk_alloc ?_ _)); refine blk_put (cs := #[.int .u8 ((rd_T47 l0 x10_1).f0), .int .u8 0, .int .u8 0, .int .u8 0]) ?_ 1 _ rfl; (with_reducible repeat (first | refine blk_drewN ?_ _ | refine blk_drew ?_ | refine blk_alloc ?_ _)); refine blk_put (cs := #[.int .u8 0, .int .u8 0, .int .u8 0, .int .u8 0]) ?_ 0 _ rfl; (with_reducible repeat (first | refine blk_drewN ?_ _ | refine blk_drew ?_ | refine blk_alloc ?_ _)); exact BK110.out) hb); have n1_ := Aside0.mk (below_step (by repeat (first | (with_reducible first | exact HB.out | apply below_alloc | apply pw_below_drewN | apply below_drew1 | refine below_set ?_ GE110.out) | exact HB.out)) hb); clear BK110; clear HB; have BK110 := n0_; have HB := n1_; clear n0_ n1_; (try clear hb); (try clear hb2); (try clear hk); (try clear hi); have hcz18_0 : w17.cell? ⟨gb110, 0, none⟩ = some (.int .u8 ((rd_T47 l0 x10_1).f0)) := (blk_cell BK110.out 0).trans rfl; have hcz18_1 : w17.cell? ⟨gb110, 1, none⟩ = some (.int .u8 ((rd_T47 l0 x10_1).f1)) := (blk_cell BK110.out 1).trans rfl; have hcz18_2 : w17.cell? ⟨gb110, 2, none⟩ = some (.int .u8 ((rd_T47 l0 x10_1).f2)) := (blk_cell BK110.out 2).trans rfl; have hcz18_3 : w17.cell? ⟨gb110, 3, none⟩ = some (.int .u8 ((rd_T47 l0 x10_1).f3)) := (blk_cell BK110.out 3).trans rfl; have hfz18_0 := blk_frozen BK110.out 0; have hfz18_1 := blk_frozen BK110.out 1; have hfz18_2 := blk_frozen BK110.out 2; have hfz18_3 := blk_frozen BK110.out 3) | ((with_reducible refine gate_callee (f := 35) rfl ?_); refine goesL_ (some 22) rfl rfl Tryd.func35 (by kernel_rfl) rfl #[.agg #[.int .u8 ((rd_T47 l0 x10_1).f0), .int .u8 ((rd_T47 l0 x10_1).f1), .int .u8 ((rd_T47 l0 x10_1).f2), .int .u8 ((rd_T47 l0 x10_1).f3)], .int .i64 (l0.length : Int)] rfl (by (try simp only [List.map_toArray, List.map_cons, List.map_nil]); first | done | rfl | (simp only [List.length_drop, List.length_take]; rfl) | (go_simp; done) | (go_simp; rw [Int.tmod_eq_emod_of_nonneg (by omega)]; omega)) ?_; (with_reducible refine (isa_lands.calls ((rd_T47 l0 x10_1).f0) ((rd_T47 l0 x10_1).f1) ((rd_T47 l0 x10_1).f2) ((rd_T47 l0 x10_1).f3) (l0.length : Int) false _ A8.out).mono ?_); rintro e w19 ⟨rfl, hb⟩; refine ⟨_, rfl, ?_⟩; have n0_ := Aside0.mk (blk_below (g := gb110) (o := .cells #[.int .u8 ((rd_T47 l0 x10_1).f0), .int .u8 ((rd_T47 l0 x10_1).f1), .int .u8 ((rd_T47 l0 x10_1).f2), .int .u8 ((rd_T47 l0 x10_1).f3)] 47 (0, 0)) (by (with_reducible repeat (first | refine blk_drewN ?_ _ | refine blk_drew ?_ | refine blk_alloc ?_ _)); exact BK110.out) hb); have n1_ := Aside0.mk (below_step (by repeat (first | (with_reducible first | exact HB.out | apply below_alloc | apply pw_below_drewN | apply below_drew1 | refine below_set ?_ GE110.out) | exact HB.out)) hb); clear BK110; clear HB; have BK110 := n0_; have HB := n1_; clear n0_ n1_; (try clear hb); (try clear hb2); (try clear hk); (try clear hi)))
                  go_ret
                  exact ⟨by first | rfl | (simp [errW_none, errW_some] <;> rfl) | (simp [*, errW_none, errW_some] <;> rfl), by repeat (first | (with_reducible first | exact HB.out | apply below_alloc | apply pw_below_drewN | apply below_drew1 | refine below_set ?_ GE110.out) | exact HB.out)⟩
              · replace c7 := Bool.eq_false_iff.mpr c7
                subst c7
                have H1 : (some 1) = some r := by rw [if_neg (show ¬ (false = true) by decide)] at H; exact H
                clear H
                have H := H1
                clear H1
                obtain rfl := Option.some.inj H
                have p109 : 0 ≤ (x10_1 : Int) := of_decide_eq_true (by first | (with_reducible assumption) | assumption)
                have q109 : x10_1 < (l0.length : Int) := of_decide_eq_true (by first | (with_reducible assumption) | assumption)
                obtain ⟨ad109, e109, hx109_0, hx109_1, hx109_2, hx109_3⟩ := at_T47 HR0.out x10_1 p109 q109
                cases e109
                replace hx109_0 := (HB.out.cell (World.block_lt_of_cell? w _ hx109_0)).trans hx109_0
                replace hx109_1 := (HB.out.cell (World.block_lt_of_cell? w _ hx109_1)).trans hx109_1
                replace hx109_2 := (HB.out.cell (World.block_lt_of_cell? w _ hx109_2)).trans hx109_2
                replace hx109_3 := (HB.out.cell (World.block_lt_of_cell? w _ hx109_3)).trans hx109_3
                replace p109 := eq_true p109
                replace q109 := eq_true q109
                go_wp2_with (first | ((with_reducible refine gate_dst (N := 4) rfl ?_); refine box_event ?hg (N := 4) ?hd (cs := #[.int .u8 0, .int .u8 0, .int .u8 0, .int .u8 0]) (t := 47) ?hr ?_; (case hd => rfl); (case hg => rfl); (case hr => first | (go_simp; done) | (go_simp; rfl)); intro gb110 hg w20 hbox hb; have n0_ := Aside0.mk (below_step (by repeat (first | (with_reducible first | exact HB.out | apply below_alloc | apply pw_below_drewN | apply below_drew1) | exact HB.out)) hb); have n1_ := Aside0.mk (hbox); have n2_ := Aside0.mk ((by rw [hg]; exact (below_size (by repeat (first | (with_reducible first | exact HB.out | apply below_alloc | apply pw_below_drewN | apply below_drew1) | exact HB.out))) : w.heap.size ≤ gb110)); have n3_ := Aside0.mk ((by rw [hg]; exact (below_size (by repeat (first | (with_reducible first | exact HB.out | apply below_alloc | apply pw_below_drewN | apply below_drew1) | exact HB.out))) : w.heap.size ≤ gb110)); clear HB; have HB := n0_; have BK110 := n1_; have GW110 := n2_; have GE110 := n3_; clear n0_ n1_ n2_ n3_; clear hb hbox hg; have hcz21_0 : w20.cell? ⟨gb110, 0, none⟩ = some (.int .u8 0) := (blk_cell BK110.out 0).trans rfl; have hcz21_1 : w20.cell? ⟨gb110, 1, none⟩ = some (.int .u8 0) := (blk_cell BK110.out 1).trans rfl; have hcz21_2 : w20.cell? ⟨gb110, 2, none⟩ = some (.int .u8 0) := (blk_cell BK110.out 2).trans rfl; have hcz21_3 : w20.cell? ⟨gb110, 3, none⟩ = some (.int .u8 0) := (blk_cell BK110.out 3).trans rfl; have hfz21_0 := blk_frozen BK110.out 0; have hfz21_1 := blk_frozen BK110.out 1; have hfz21_2 := blk_frozen BK110.out 2; have hfz21_3 := blk_frozen BK110.out 3) | ((with_reducible refine gate_callee (f := 34) rfl ?_); refine goesL_ (some 16) rfl rfl Tryd.func34 (by kernel_rfl) rfl #[.agg #[.int .u8 ((rd_T47 l0 x10_1).f0), .int .u8 ((rd_T47 l0 x10_1).f1), .int .u8 ((rd_T47 l0 x10_1).f2), .int .u8 ((rd_T47 l0 x10_1).f3)]] rfl (by (try simp only [List.map_toArray, List.map_cons, List.map_nil]); first | done | rfl | (simp only [List.length_drop, List.length_take]; rfl) | (go_simp; done) | (go_simp; rw [Int.tmod_eq_emod_of_nonneg (by omega)]; omega)) ?_; (with_reducible refine (isa_fits.calls ((rd_T47 l0 x10_1).f0) ((rd_T47 l0 x10_1).f1) ((rd_T47 l0 x10_1).f2) ((rd_T47 l0 x10_1).f3) false _ ?side1 A6.out).mono ?_); (case side1 => exact GL.below HRG.out (by repeat (first | (with_reducible first | exact HB.out | apply below_alloc | apply pw_below_drewN | apply below_drew1 | refine below_set ?_ GE110.out) | exact HB.out))); rintro e w22 ⟨rfl, hb⟩; refine ⟨_, rfl, ?_⟩; have n0_ := Aside0.mk (blk_below (g := gb110) (o := .cells #[.int .u8 ((rd_T47 l0 x10_1).f0), .int .u8 ((rd_T47 l0 x10_1).f1), .int .u8 ((rd_T47 l0 x10_1).f2), .int .u8 ((rd_T47 l0 x10_1).f3)] 47 (0, 0)) (by (with_reducible repeat (first | refine blk_drewN ?_ _ | refine blk_drew ?_ | refine blk_alloc ?_ _)); refine blk_put (cs := #[.int .u8 ((rd_T47 l0 x10_1).f0), .int .u8 ((rd_T47 l0 x10_1).f1), .int .u8 ((rd_T47 l0 x10_1).f2), .int .u8 0]) ?_ 3 _ rfl; (with_reducible repeat (first | refine blk_drewN ?_ _ | refine blk_drew ?_ | refine blk_alloc ?_ _)); refine blk_put (cs := #[.int .u8 ((rd_T47 l0 x10_1).f0), .int .u8 ((rd_T47 l0 x10_1).f1), .int .u8 0, .int .u8 0]) ?_ 2 _ rfl; (with_reducible repeat (first | refine blk_drewN ?_ _ | refine blk_drew ?_ | refine blk_alloc ?_ _)); refine blk_put (cs := #[.int .u8 ((rd_T47 l0 x10_1).f0), .int .u8 0, .int .u8 0, .int .u8 0]) ?_ 1 _ rfl; (with_reducible repeat (first | refine blk_drewN ?_ _ | refine blk_drew ?_ | refine blk_alloc ?_ _)); refine blk_put (cs := #[.int .u8 0, .int .u8 0, .int .u8 0, .int .u8 0]) ?_ 0 _ rfl; (with_reducible repeat (first | refine blk_drewN ?_ _ | refine blk_drew ?_ | refine blk_alloc ?_ _)); exact BK110.out) hb); have n1_ := Aside0.mk (below_step (by repeat (first | (with_reducible first | exact HB.out | apply below_alloc | apply pw_below_drewN | apply below_drew1 | refine below_set ?_ GE110.out) | exact HB.out)) hb); clear BK110; clear HB; have BK110 := n0_; have HB := n1_; clear n0_ n1_; (try clear hb); (try clear hb2); (try clear hk); (try clear hi)))
                go_ret
                exact ⟨by first | rfl | (simp [errW_none, errW_some] <;> rfl) | (simp [*, errW_none, errW_some] <;> rfl), by repeat (first | (with_reducible first | exact HB.out | apply below_alloc | apply pw_below_drewN | apply below_drew1 | refine below_set ?_ GE110.out) | exact HB.out)⟩
            · rw [if_neg c5] at H
              exact absurd H (by simp)
          · rw [if_neg c4] at H
            exact absurd H (by simp)
        · rw [if_neg c3] at H
          have c3b0 : decide (x10_1 < (l0.length : Int)) = false := decide_eq_false c3
          clear c3
          obtain rfl := Option.some.inj H
          go_wp2
          go_ret
          exact ⟨by first | rfl | (simp [errW_none, errW_some] <;> rfl) | (simp [*, errW_none, errW_some] <;> rfl), by repeat (first | (with_reducible first | exact HB.out | apply below_alloc | apply pw_below_drewN | apply below_drew1) | exact HB.out)⟩

end Go.Proofs.YtgmdpghbkjlnhaaDoor.Q
end
section
namespace Go.Proofs.YtgmdpghbkjlnhaaDoor.Q
open Go.RowKit Go.Proofs.YtgmdpghbkjlnhaaDoorW.PrintWords Go.Proofs.YtgmdpghbkjlnhaaDoorW.PrintLast Go.Proofs.YtgmdpghbkjlnhaaDoorW.PrintMore
attribute [local go_sem] max2_int min2_int max_two min_two max_three min_three max_four min_four run_store_fnV run_store_fnc run_store_nfn   -- for this text's walks alone
set_option linter.unusedVariables false
set_option linter.unusedSimpArgs false

/-! ### machine_Valid: function 14 -/
def machine_Valid.f (k : Nat) (l0 : List (S47)) (a1_0 : Int) (a1_1 : Int) (a1_2 : Int) (a1_3 : Int) (a1_4 : Int) (a1_5 : Int) (a1_6 : Int) (a1_7 : Int) (a1_8 : Int) (a1_9 : Int) (a1_10 : Int) (a1_11 : Int) (a1_12 : Int) (a1_13 : Int) (a1_14 : Int) (a1_15 : Int) (a1_16 : Int) (a1_17 : Int) (a1_18 : Int) (a1_19 : Int) (a1_20 : Int) : Option (Bool) := if a1_0 ≥ 0 then (if a1_0 ≤ (l0.length : Int) then ((isa_Valid.f k l0).bind fun t114 => (some (t114 == 0))) else (some false)) else (some false)
theorem machine_Valid.mono : ∀ a0 a1 a2 a3 a4 a5 a6 a7 a8 a9 a10 a11 a12 a13 a14 a15 a16 a17 a18 a19 a20 a21 k, LeO (machine_Valid.f k a0 a1 a2 a3 a4 a5 a6 a7 a8 a9 a10 a11 a12 a13 a14 a15 a16 a17 a18 a19 a20 a21) (machine_Valid.f (k + 1) a0 a1 a2 a3 a4 a5 a6 a7 a8 a9 a10 a11 a12 a13 a14 a15 a16 a17 a18 a19 a20 a21) := by
  intro a0 a1 a2 a3 a4 a5 a6 a7 a8 a9 a10 a11 a12 a13 a14 a15 a16 a17 a18 a19 a20 a21 k
  unfold machine_Valid.f
  repeat' first
      | (with_reducible exact isa_Valid.mono _ _)
      | (with_reducible exact LeO.refl _)
      | (with_reducible exact LeO.none _)
      | (with_reducible refine LeO.ite ?_ ?_)
      | (with_reducible refine LeO.bind ?_ (fun _ => ?_))
      | exact isa_Valid.mono _ _
      | exact LeO.none _
      | refine LeO.ite ?_ ?_
      | refine LeO.bind ?_ (fun _ => ?_)
set_option maxHeartbeats 8000000 in
set_option maxRecDepth 100000 in
theorem machine_Valid.calls (k : Nat) (A0 : Option Addr) (c0 : Nat) (l0 : List (S47)) (a1_0 : Int) (a1_1 : Int) (a1_2 : Int) (a1_3 : Int) (a1_4 : Int) (a1_5 : Int) (a1_6 : Int) (a1_7 : Int) (a1_8 : Int) (a1_9 : Int) (a1_10 : Int) (a1_11 : Int) (a1_12 : Int) (a1_13 : Int) (a1_14 : Int) (a1_15 : Int) (a1_16 : Int) (a1_17 : Int) (a1_18 : Int) (a1_19 : Int) (a1_20 : Int) (r : Bool) (w : World) (hr0 : Kd.C k47 w A0 l0.length l0) (hc0 : l0.length ≤ c0) (hrG : GL w) (h : machine_Valid.f k l0 a1_0 a1_1 a1_2 a1_3 a1_4 a1_5 a1_6 a1_7 a1_8 a1_9 a1_10 a1_11 a1_12 a1_13 a1_14 a1_15 a1_16 a1_17 a1_18 a1_19 a1_20 = some r) :
    Calls Tryd.prog 14 #[.slice A0 l0.length c0, .agg #[.int .i64 a1_0, .int .u8 a1_1, .int .u8 a1_2, .int .u8 a1_3, .int .u8 a1_4, .int .u8 a1_5, .int .u8 a1_6, .int .u8 a1_7, .int .u8 a1_8, .int .u8 a1_9, .int .u8 a1_10, .int .u8 a1_11, .int .u8 a1_12, .int .u8 a1_13, .int .u8 a1_14, .int .u8 a1_15, .int .u8 a1_16, .int .u8 a1_17, .int .u8 a1_18, .int .u8 a1_19, .int .u8 a1_20]] w fun e w' => e = .returned (.bool r) ∧ Below w.heap.size w w' := by
  have hu26 := Tryd.underlying26
  have HRG := Aside0.mk hrG
  clear hrG
  have HR0 := Aside0.mk hr0
  have HC0 := Aside0.mk hc0
  clear hr0 hc0
  have HB := Aside0.mk (Below.refl w.heap.size w)
  have H : (if a1_0 ≥ 0 then (if a1_0 ≤ (l0.length : Int) then ((isa_Valid.f k l0).bind fun t114 => (some (t114 == 0))) else (some false)) else (some false)) = some r := h
  clear h
  by_cases c3 : a1_0 ≥ 0
  · rw [if_pos c3] at H
    have c3b0 : decide (0 ≤ a1_0) = true := decide_eq_true c3
    clear c3
    by_cases c4 : a1_0 ≤ (l0.length : Int)
    · rw [if_pos c4] at H
      have c4b0 : decide (a1_0 ≤ (l0.length : Int)) = true := decide_eq_true c4
      clear c4
      replace H := Option.bind_eq_some_iff.mp H
      obtain ⟨t114, A50, H⟩ := H
      replace H : (some (t114 == 0)) = some r := H
      have A5 := Aside0.mk A50
      clear A50
      obtain rfl := Option.some.inj H
      go_enter Tryd.func14, Tryd.ntmps14
      go_wp2_with (first | ((with_reducible refine gate_dst (N := 3) rfl ?_); (try (refine gate_guard (by rfl) ?_; dsimp only)); refine box_event ?hg (N := 3) ?hd (cs := #[.int .i64 a1_0, .int .u8 a1_1, .int .u8 a1_2, .int .u8 a1_3, .int .u8 a1_4, .int .u8 a1_5, .int .u8 a1_6, .int .u8 a1_7, .int .u8 a1_8, .int .u8 a1_9, .int .u8 a1_10, .int .u8 a1_11, .int .u8 a1_12, .int .u8 a1_13, .int .u8 a1_14, .int .u8 a1_15, .int .u8 a1_16, .int .u8 a1_17, .int .u8 a1_18, .int .u8 a1_19, .int .u8 a1_20]) (t := 26) ?hr ?_; (case hd => rfl); (case hg => rfl); (case hr => first | (go_simp; done) | (go_simp; rfl)); intro gb113 hg w6 hbox hb; have n0_ := Aside0.mk (below_step (by repeat (first | (with_reducible first | exact HB.out | apply below_alloc | apply pw_below_drewN | apply below_drew1) | exact HB.out)) hb); have n1_ := Aside0.mk (hbox); have n2_ := Aside0.mk ((by rw [hg]; exact (below_size (by repeat (first | (with_reducible first | exact HB.out | apply below_alloc | apply pw_below_drewN | apply below_drew1) | exact HB.out))) : w.heap.size ≤ gb113)); have n3_ := Aside0.mk ((by rw [hg]; exact (below_size (by repeat (first | (with_reducible first | exact HB.out | apply below_alloc | apply pw_below_drewN | apply below_drew1) | exact HB.out))) : w.heap.size ≤ gb113)); clear HB; have HB := n0_; have BK113 := n1_; have GW113 := n2_; have GE113 := n3_; clear n0_ n1_ n2_ n3_; clear hb hbox hg; have hcz7_0 : w6.cell? ⟨gb113, 0, none⟩ = some (.int .i64 a1_0) := (blk_cell BK113.out 0).trans rfl; have hcz7_1 : w6.cell? ⟨gb113, 1, none⟩ = some (.int .u8 a1_1) := (blk_cell BK113.out 1).trans rfl; have hcz7_2 : w6.cell? ⟨gb113, 2, none⟩ = some (.int .u8 a1_2) := (blk_cell BK113.out 2).trans rfl; have hcz7_3 : w6.cell? ⟨gb113, 3, none⟩ = some (.int .u8 a1_3) := (blk_cell BK113.out 3).trans rfl; have hcz7_4 : w6.cell? ⟨gb113, 4, none⟩ = some (.int .u8 a1_4) := (blk_cell BK113.out 4).trans rfl; have hcz7_5 : w6.cell? ⟨gb113, 5, none⟩ = some (.int .u8 a1_5) := (blk_cell BK113.out 5).trans rfl; have hcz7_6 : w6.cell? ⟨gb113, 6, none⟩ = some (.int .u8 a1_6) := (blk_cell BK113.out 6).trans rfl; have hcz7_7 : w6.cell? ⟨gb113, 7, none⟩ = some (.int .u8 a1_7) := (blk_cell BK113.out 7).trans rfl; have hcz7_8 : w6.cell? ⟨gb113, 8, none⟩ = some (.int .u8 a1_8) := (blk_cell BK113.out 8).trans rfl; have hcz7_9 : w6.cell? ⟨gb113, 9, none⟩ = some (.int .u8 a1_9) := (blk_cell BK113.out 9).trans rfl; have hcz7_10 : w6.cell? ⟨gb113, 10, none⟩ = some (.int .u8 a1_10) := (blk_cell BK113.out 10).trans rfl; have hcz7_11 : w6.cell? ⟨gb113, 11, none⟩ = some (.int .u8 a1_11) := (blk_cell BK113.out 11).trans rfl; have hcz7_12 : w6.cell? ⟨gb113, 12, none⟩ = some (.int .u8 a1_12) := (blk_cell BK113.out 12).trans rfl; have hcz7_13 : w6.cell? ⟨gb113, 13, none⟩ = some (.int .u8 a1_13) := (blk_cell BK113.out 13).trans rfl; have hcz7_14 : w6.cell? ⟨gb113, 14, none⟩ = some (.int .u8 a1_14) := (blk_cell BK113.out 14).trans rfl; have hcz7_15 : w6.cell? ⟨gb113, 15, none⟩ = some (.int .u8 a1_15) := (blk_cell BK113.out 15).trans rfl; have hcz7_16 : w6.cell? ⟨gb113, 16, none⟩ = some (.int .u8 a1_16) := (blk_cell BK113.out 16).trans rfl; have hcz7_17 : w6.cell? ⟨gb113, 17, none⟩ = some (.int .u8 a1_17) := (blk_cell BK113.out 17).trans rfl; have hcz7_18 : w6.cell? ⟨gb113, 18, none⟩ = some (.int .u8 a1_18) := (blk_cell BK113.out 18).trans rfl; have hcz7_19 : w6.cell? ⟨gb113, 19, none⟩ = some (.int .u8 a1_19) := (blk_cell BK113.out 19).trans rfl; have hcz7_20 : w6.cell? ⟨gb113, 20, none⟩ = some (.int .u8 a1_20) := (blk_cell BK113.out 20).trans rfl; have hfz7_0 := blk_frozen BK113.out 0; have hfz7_1 := blk_frozen BK113.out 1; have hfz7_2 := blk_frozen BK113.out 2; have hfz7_3 := blk_frozen BK113.out 3; have hfz7_4 := blk_frozen BK113.out 4; have hfz7_5 := blk_frozen BK113.out 5; have hfz7_6 := blk_frozen BK113.out 6; have hfz7_7 := blk_frozen BK113.out 7; have hfz7_8 := blk_frozen BK113.out 8; have hfz7_9 := blk_frozen BK113.out 9; have hfz7_10 := blk_frozen BK113.out 10; have hfz7_11 := blk_frozen BK113.out 11; have hfz7_12 := blk_frozen BK113.out 12; have hfz7_13 := blk_frozen BK113.out 13; have hfz7_14 := blk_frozen BK113.out 14; have hfz7_15 := blk_frozen BK113.out 15; have hfz7_16 := blk_frozen BK113.out 16; have hfz7_17 := blk_frozen BK113.out 17; have hfz7_18 := blk_frozen BK113.out 18; have hfz7_19 := blk_frozen BK113.out 19; have hfz7_20 := blk_frozen BK113.out 20) | (go_at_call 25; (with_reducible refine (isa_Valid.calls k _ _ l0 t114 _ ?side1 ?side2 ?side3 A5.out).mono ?_); (case side1 => repeat (first | exact (Kd.C_below HR0.out HB.out) | (with_reducible refine Kd.C_alloc ?_ _) | (with_reducible refine Kd.C_drewN ?_ _) | (with_reducible refine Kd.C_drew ?_))); (case side2 => exact HC0.out); (case side3 => repeat (first | exact (GL.below HRG.out HB.out) | (with_reducible refine GL.alloc ?_ _) | (with_reducible refine GL.drewN ?_ _) | (with_reducible refine GL.drew ?_))); rintro e w8 ⟨rfl, hb⟩; have n0_ := Aside0.mk (blk_below (g := gb113) (o := .cells #[.int .i64 a1_0, .int .u8 a1_1, .int .u8 a1_2, .int .u8 a1_3, .int .u8 a1_4, .int .u8 a1_5, .int .u8 a1_6, .int .u8 a1_7, .int .u8 a1_8, .int .u8 a1_9, .int .u8 a1_10, .int .u8 a1_11, .int .u8 a1_12, .int .u8 a1_13, .int .u8 a1_14, .int .u8 a1_15, .int .u8 a1_16, .int .u8 a1_17, .int .u8 a1_18, .int .u8 a1_19, .int .u8 a1_20] 26 (0, 0)) (by (with_reducible repeat (first | refine blk_drewN ?_ _ | refine blk_drew ?_ | refine blk_alloc ?_ _)); exact BK113.out) hb); have n1_ := Aside0.mk (below_step (by repeat (first | (with_reducible first | exact HB.out | apply below_alloc | apply pw_below_drewN | apply below_drew1 | refine below_set ?_ GE113.out) | exact HB.out)) hb); clear BK113; clear HB; have BK113 := n0_; have HB := n1_; clear n0_ n1_; (try clear hb); (try clear hb2); (try clear hk); (try clear hi)))
      go_ret
      exact ⟨by first | rfl | (simp [errW_none, errW_some] <;> rfl) | (simp [*, errW_none, errW_some] <;> rfl), by repeat (first | (with_reducible first | exact HB.out | apply below_alloc | apply pw_below_drewN | apply below_drew1 | refine below_set ?_ GE113.out) | exact HB.out)⟩
    · rw [if_neg c4] at H
      have c4b0 : decide (a1_0 ≤ (l0.length : Int)) = false := decide_eq_false c4
      clear c4
      obtain rfl := Option.some.inj H
      go_enter Tryd.func14, Tryd.ntmps14
      go_wp2_with (first | ((with_reducible refine gate_dst (N := 3) rfl ?_); (try (refine gate_guard (by rfl) ?_; dsimp only)); refine box_event ?hg (N := 3) ?hd (cs := #[.int .i64 a1_0, .int .u8 a1_1, .int .u8 a1_2, .int .u8 a1_3, .int .u8 a1_4, .int .u8 a1_5, .int .u8 a1_6, .int .u8 a1_7, .int .u8 a1_8, .int .u8 a1_9, .int .u8 a1_10, .int .u8 a1_11, .int .u8 a1_12, .int .u8 a1_13, .int .u8 a1_14, .int .u8 a1_15, .int .u8 a1_16, .int .u8 a1_17, .int .u8 a1_18, .int .u8 a1_19, .int .u8 a1_20]) (t := 26) ?hr ?_; (case hd => rfl); (case hg => rfl); (case hr => first | (go_simp; done) | (go_simp; rfl)); intro gb113 hg w9 hbox hb; have n0_ := Aside0.mk (below_step (by repeat (first | (with_reducible first | exact HB.out | apply below_alloc | apply pw_below_drewN | apply below_drew1) | exact HB.out)) hb); have n1_ := Aside0.mk (hbox); have n2_ := Aside0.mk ((by rw [hg]; exact (below_size (by repeat (first | (with_reducible first | exact HB.out | apply below_alloc | apply pw_below_drewN | apply below_drew1) | exact HB.out))) : w.heap.size ≤ gb113)); have n3_ := Aside0.mk ((by rw [hg]; exact (below_size (by repeat (first | (with_reducible first | exact HB.out | apply below_alloc | apply pw_below_drewN | apply below_drew1) | exact HB.out))) : w.heap.size ≤ gb113)); clear HB; have HB := n0_; have BK113 := n1_; have GW113 := n2_; have GE113 := n3_; clear n0_ n1_ n2_ n3_; clear hb hbox hg; have hcz10_0 : w9.cell? ⟨gb113, 0, none⟩ = some (.int .i64 a1_0) := (blk_cell BK113.out 0).trans rfl; have hcz10_1 : w9.cell? ⟨gb113, 1, none⟩ = some (.int .u8 a1_1) := (blk_cell BK113.out 1).trans rfl; have hcz10_2 : w9.cell? ⟨gb113, 2, none⟩ = some (.int .u8 a1_2) := (blk_cell BK113.out 2).trans rfl; have hcz10_3 : w9.cell? ⟨gb113, 3, none⟩ = some (.int .u8 a1_3) := (blk_cell BK113.out 3).trans rfl; have hcz10_4 : w9.cell? ⟨gb113, 4, none⟩ = some (.int .u8 a1_4) := (blk_cell BK113.out 4).trans rfl; have hcz10_5 : w9.cell? ⟨gb113, 5, none⟩ = some (.int .u8 a1_5) := (blk_cell BK113.out 5).trans rfl; have hcz10_6 : w9.cell? ⟨gb113, 6, none⟩ = some (.int .u8 a1_6) := (blk_cell BK113.out 6).trans rfl; have hcz10_7 : w9.cell? ⟨gb113, 7, none⟩ = some (.int .u8 a1_7) := (blk_cell BK113.out 7).trans rfl; have hcz10_8 : w9.cell? ⟨gb113, 8, none⟩ = some (.int .u8 a1_8) := (blk_cell BK113.out 8).trans rfl; have hcz10_9 : w9.cell? ⟨gb113, 9, none⟩ = some (.int .u8 a1_9) := (blk_cell BK113.out 9).trans rfl; have hcz10_10 : w9.cell? ⟨gb113, 10, none⟩ = some (.int .u8 a1_10) := (blk_cell BK113.out 10).trans rfl; have hcz10_11 : w9.cell? ⟨gb113, 11, none⟩ = some (.int .u8 a1_11) := (blk_cell BK113.out 11).trans rfl; have hcz10_12 : w9.cell? ⟨gb113, 12, none⟩ = some (.int .u8 a1_12) := (blk_cell BK113.out 12).trans rfl; have hcz10_13 : w9.cell? ⟨gb113, 13, none⟩ = some (.int .u8 a1_13) := (blk_cell BK113.out 13).trans rfl; have hcz10_14 : w9.cell? ⟨gb113, 14, none⟩ = some (.int .u8 a1_14) := (blk_cell BK113.out 14).trans rfl; have hcz10_15 : w9.cell? ⟨gb113, 15, none⟩ = some (.int .u8 a1_15) := (blk_cell BK113.out 15).trans rfl; have hcz10_16 : w9.cell? ⟨gb113, 16, none⟩ = some (.int .u8 a1_16) := (blk_cell BK113.out 16).trans rfl; have hcz10_17 : w9.cell? ⟨gb113, 17, none⟩ = some (.int .u8 a1_17) := (blk_cell BK113.out 17).trans rfl; have hcz10_18 : w9.cell? ⟨gb113, 18, none⟩ = some (.int .u8 a1_18) := (blk_cell BK113.out 18).trans rfl; have hcz10_19 : w9.cell? ⟨gb113, 19, none⟩ = some (.int .u8 a1_19) := (blk_cell BK113.out 19).trans rfl; have hcz10_20 : w9.cell? ⟨gb113, 20, none⟩ = some (.int .u8 a1_20) := (blk_cell BK113.out 20).trans rfl; have hfz10_0 := blk_frozen BK113.out 0; have hfz10_1 := blk_frozen BK113.out 1; have hfz10_2 := blk_frozen BK113.out 2; have hfz10_3 := blk_frozen BK113.out 3; have hfz10_4 := blk_frozen BK113.out 4; have hfz10_5 := blk_frozen BK113.out 5; have hfz10_6 := blk_frozen BK113.out 6; have hfz10_7 := blk_frozen BK113.out 7; have hfz10_8 := blk_frozen BK113.out 8; have hfz10_9 := blk_frozen BK113.out 9; have hfz10_10 := blk_frozen BK113.out 10; have hfz10_11 := blk_frozen BK113.out 11; have hfz10_12 := blk_frozen BK113.out 12; have hfz10_13 := blk_frozen BK113.out 13; have hfz10_14 := blk_frozen BK113.out 14; have hfz10_15 := blk_frozen BK113.out 15; have hfz10_16 := blk_frozen BK113.out 16; have hfz10_17 := blk_frozen BK113.out 17; have hfz10_18 := blk_frozen BK113.out 18; have hfz10_19 := blk_frozen BK113.out 19; have hfz10_20 := blk_frozen BK113.out 20))
      go_ret
      exact ⟨by first | rfl | (simp [errW_none, errW_some] <;> rfl) | (simp [*, errW_none, errW_some] <;> rfl), by repeat (first | (with_reducible first | exact HB.out | apply below_alloc | apply pw_below_drewN | apply below_drew1 | refine below_set ?_ GE113.out) | exact HB.out)⟩
  · rw [if_neg c3] at H
    have c3b0 : decide (0 ≤ a1_0) = false := decide_eq_false c3
    clear c3
    obtain rfl := Option.some.inj H
    go_enter Tryd.func14, Tryd.ntmps14
    go_wp2_with (first | ((with_reducible refine gate_dst (N := 3) rfl ?_); (try (refine gate_guard (by rfl) ?_; dsimp only)); refine box_event ?hg (N := 3) ?hd (cs := #[.int .i64 a1_0, .int .u8 a1_1, .int .u8 a1_2, .int .u8 a1_3, .int .u8 a1_4, .int .u8 a1_5, .int .u8 a1_6, .int .u8 a1_7, .int .u8 a1_8, .int .u8 a1_9, .int .u8 a1_10, .int .u8 a1_11, .int .u8 a1_12, .int .u8 a1_13, .int .u8 a1_14, .int .u8 a1_15, .int .u8 a1_16, .int .u8 a1_17, .int .u8 a1_18, .int .u8 a1_19, .int .u8 a1_20]) (t := 26) ?hr ?_; (case hd => rfl); (case hg => rfl); (case hr => first | (go_simp; done) | (go_simp; rfl)); intro gb113 hg w11 hbox hb; have n0_ := Aside0.mk (below_step (by repeat (first | (with_reducible first | exact HB.out | apply below_alloc | apply pw_below_drewN | apply below_drew1) | exact HB.out)) hb); have n1_ := Aside0.mk (hbox); have n2_ := Aside0.mk ((by rw [hg]; exact (below_size (by repeat (first | (with_reducible first | exact HB.out | apply below_alloc | apply pw_below_drewN | apply below_drew1) | exact HB.out))) : w.heap.size ≤ gb113)); have n3_ := Aside0.mk ((by rw [hg]; exact (below_size (by repeat (first | (with_reducible first | exact HB.out | apply below_alloc | apply pw_below_drewN | apply below_drew1) | exact HB.out))) : w.heap.size ≤ gb113)); clear HB; have HB := n0_; have BK113 := n1_; have GW113 := n2_; have GE113 := n3_; clear n0_ n1_ n2_ n3_; clear hb hbox hg; have hcz12_0 : w11.cell? ⟨gb113, 0, none⟩ = some (.int .i64 a1_0) := (blk_cell BK113.out 0).trans rfl; have hcz12_1 : w11.cell? ⟨gb113, 1, none⟩ = some (.int .u8 a1_1) := (blk_cell BK113.out 1).trans rfl; have hcz12_2 : w11.cell? ⟨gb113, 2, none⟩ = some (.int .u8 a1_2) := (blk_cell BK113.out 2).trans rfl; have hcz12_3 : w11.cell? ⟨gb113, 3, none⟩ = some (.int .u8 a1_3) := (blk_cell BK113.out 3).trans rfl; have hcz12_4 : w11.cell? ⟨gb113, 4, none⟩ = some (.int .u8 a1_4) := (blk_cell BK113.out 4).trans rfl; have hcz12_5 : w11.cell? ⟨gb113, 5, none⟩ = some (.int .u8 a1_5) := (blk_cell BK113.out 5).trans rfl; have hcz12_6 : w11.cell? ⟨gb113, 6, none⟩ = some (.int .u8 a1_6) := (blk_cell BK113.out 6).trans rfl; have hcz12_7 : w11.cell? ⟨gb113, 7, none⟩ = some (.int .u8 a1_7) := (blk_cell BK113.out 7).trans rfl; have hcz12_8 : w11.cell? ⟨gb113, 8, none⟩ = some (.int .u8 a1_8) := (blk_cell BK113.out 8).trans rfl; have hcz12_9 : w11.cell? ⟨gb113, 9, none⟩ = some (.int .u8 a1_9) := (blk_cell BK113.out 9).trans rfl; have hcz12_10 : w11.cell? ⟨gb113, 10, none⟩ = some (.int .u8 a1_10) := (blk_cell BK113.out 10).trans rfl; have hcz12_11 : w11.cell? ⟨gb113, 11, none⟩ = some (.int .u8 a1_11) := (blk_cell BK113.out 11).trans rfl; have hcz12_12 : w11.cell? ⟨gb113, 12, none⟩ = some (.int .u8 a1_12) := (blk_cell BK113.out 12).trans rfl; have hcz12_13 : w11.cell? ⟨gb113, 13, none⟩ = some (.int .u8 a1_13) := (blk_cell BK113.out 13).trans rfl; have hcz12_14 : w11.cell? ⟨gb113, 14, none⟩ = some (.int .u8 a1_14) := (blk_cell BK113.out 14).trans rfl; have hcz12_15 : w11.cell? ⟨gb113, 15, none⟩ = some (.int .u8 a1_15) := (blk_cell BK113.out 15).trans rfl; have hcz12_16 : w11.cell? ⟨gb113, 16, none⟩ = some (.int .u8 a1_16) := (blk_cell BK113.out 16).trans rfl; have hcz12_17 : w11.cell? ⟨gb113, 17, none⟩ = some (.int .u8 a1_17) := (blk_cell BK113.out 17).trans rfl; have hcz12_18 : w11.cell? ⟨gb113, 18, none⟩ = some (.int .u8 a1_18) := (blk_cell BK113.out 18).trans rfl; have hcz12_19 : w11.cell? ⟨gb113, 19, none⟩ = some (.int .u8 a1_19) := (blk_cell BK113.out 19).trans rfl; have hcz12_20 : w11.cell? ⟨gb113, 20, none⟩ = some (.int .u8 a1_20) := (blk_cell BK113.out 20).trans rfl; have hfz12_0 := blk_frozen BK113.out 0; have hfz12_1 := blk_frozen BK113.out 1; have hfz12_2 := blk_frozen BK113.out 2; have hfz12_3 := blk_frozen BK113.out 3; have hfz12_4 := blk_frozen BK113.out 4; have hfz12_5 := blk_frozen BK113.out 5; have hfz12_6 := blk_frozen BK113.out 6; have hfz12_7 := blk_frozen BK113.out 7; have hfz12_8 := blk_frozen BK113.out 8; have hfz12_9 := blk_frozen BK113.out 9; have hfz12_10 := blk_frozen BK113.out 10; have hfz12_11 := blk_frozen BK113.out 11; have hfz12_12 := blk_frozen BK113.out 12; have hfz12_13 := blk_frozen BK113.out 13; have hfz12_14 := blk_frozen BK113.out 14; have hfz12_15 := blk_frozen BK113.out 15; have hfz12_16 := blk_frozen BK113.out 16; have hfz12_17 := blk_frozen BK113.out 17; have hfz12_18 := blk_frozen BK113.out 18; have hfz12_19 := blk_frozen BK113.out 19; have hfz12_20 := blk_frozen BK113.out 20))
    go_ret
    exact ⟨by first | rfl | (simp [errW_none, errW_some] <;> rfl) | (simp [*, errW_none, errW_some] <;> rfl), by repeat (first | (with_reducible first | exact HB.out | apply below_alloc | apply pw_below_drewN | apply below_drew1 | refine below_set ?_ GE113.out) | exact HB.out)⟩

/-! ### isa_Fetch: function 27 -/
def isa_Fetch.f (l0 : List (S47)) (a1 : Int) : Option (Int × Int × Int × Int) := if a1 < 0 then (some (0, 0, 0, 0)) else (if a1 ≥ (l0.length : Int) then (some (0, 0, 0, 0)) else (if 0 ≤ a1 then (if a1 < (l0.length : Int) then (some ((rd_T47 l0 a1).f0, (rd_T47 l0 a1).f1, (rd_T47 l0 a1).f2, (rd_T47 l0 a1).f3)) else (none)) else (none)))
set_option maxHeartbeats 8000000 in
set_option maxRecDepth 100000 in
theorem isa_Fetch.calls (A0 : Option Addr) (c0 : Nat) (l0 : List (S47)) (a1 : Int) (r1 : Int) (r2 : Int) (r3 : Int) (r4 : Int) (w : World) (hr0 : Kd.C k47 w A0 l0.length l0) (hc0 : l0.length ≤ c0) (h : isa_Fetch.f l0 a1 = some (r1, r2, r3, r4)) :
    Calls Tryd.prog 27 #[.slice A0 l0.length c0, .int .i64 a1] w fun e w' => e = .returned (.agg #[.int .u8 r1, .int .u8 r2, .int .u8 r3, .int .u8 r4]) ∧ Below w.heap.size w w' := by
  have hu47 := Tryd.underlying47
  have HR0 := Aside0.mk hr0
  have HC0 := Aside0.mk hc0
  clear hr0 hc0
  have HB := Aside0.mk (Below.refl w.heap.size w)
  have H : (if a1 < 0 then (some (0, 0, 0, 0)) else (if a1 ≥ (l0.length : Int) then (some (0, 0, 0, 0)) else (if 0 ≤ a1 then (if a1 < (l0.length : Int) then (some ((rd_T47 l0 a1).f0, (rd_T47 l0 a1).f1, (rd_T47 l0 a1).f2, (rd_T47 l0 a1).f3)) else (none)) else (none)))) = some (r1, r2, r3, r4) := h
  clear h
  by_cases c3 : a1 < 0
  · rw [if_pos c3] at H
    have c3b0 : decide (a1 < 0) = true := decide_eq_true c3
    clear c3
    simp only [Option.some.injEq, Prod.mk.injEq] at H
    obtain ⟨rfl, rfl, rfl, rfl⟩ := H
    go_enter Tryd.func27, Tryd.ntmps27
    go_wp2_with (first | ((with_reducible refine gate_dst (N := 4) rfl ?_); (try (refine gate_guard (by rfl) ?_; dsimp only)); refine box_event ?hg (N := 4) ?hd (cs := #[.int .u8 0, .int .u8 0, .int .u8 0, .int .u8 0]) (t := 47) ?hr ?_; (case hd => rfl); (case hg => rfl); (case hr => first | (go_simp; done) | (go_simp; rfl)); intro gb115 hg w4 hbox hb; have n0_ := Aside0.mk (below_step (by repeat (first | (with_reducible first | exact HB.out | apply below_alloc | apply pw_below_drewN | apply below_drew1) | exact HB.out)) hb); have n1_ := Aside0.mk (hbox); have n2_ := Aside0.mk ((by rw [hg]; exact (below_size (by repeat (first | (with_reducible first | exact HB.out | apply below_alloc | apply pw_below_drewN | apply below_drew1) | exact HB.out))) : w.heap.size ≤ gb115)); have n3_ := Aside0.mk ((by rw [hg]; exact (below_size (by repeat (first | (with_reducible first | exact HB.out | apply below_alloc | apply pw_below_drewN | apply below_drew1) | exact HB.out))) : w.heap.size ≤ gb115)); clear HB; have HB := n0_; have BK115 := n1_; have GW115 := n2_; have GE115 := n3_; clear n0_ n1_ n2_ n3_; clear hb hbox hg; have hcz5_0 : w4.cell? ⟨gb115, 0, none⟩ = some (.int .u8 0) := (blk_cell BK115.out 0).trans rfl; have hcz5_1 : w4.cell? ⟨gb115, 1, none⟩ = some (.int .u8 0) := (blk_cell BK115.out 1).trans rfl; have hcz5_2 : w4.cell? ⟨gb115, 2, none⟩ = some (.int .u8 0) := (blk_cell BK115.out 2).trans rfl; have hcz5_3 : w4.cell? ⟨gb115, 3, none⟩ = some (.int .u8 0) := (blk_cell BK115.out 3).trans rfl; have hfz5_0 := blk_frozen BK115.out 0; have hfz5_1 := blk_frozen BK115.out 1; have hfz5_2 := blk_frozen BK115.out 2; have hfz5_3 := blk_frozen BK115.out 3))
    refine bodyPost_ret (results_cell_row rfl _ _ gb115 47 #[.int .u8 0, .int .u8 0, .int .u8 0, .int .u8 0] (0, 0) _ rfl (by (with_reducible repeat (first | refine blk_drewN ?_ _ | refine blk_drew ?_ | refine blk_alloc ?_ _)); refine blk_put (cs := #[.int .u8 0, .int .u8 0, .int .u8 0, .int .u8 0]) ?_ 3 _ rfl; (with_reducible repeat (first | refine blk_drewN ?_ _ | refine blk_drew ?_ | refine blk_alloc ?_ _)); refine blk_put (cs := #[.int .u8 0, .int .u8 0, .int .u8 0, .int .u8 0]) ?_ 2 _ rfl; (with_reducible repeat (first | refine blk_drewN ?_ _ | refine blk_drew ?_ | refine blk_alloc ?_ _)); refine blk_put (cs := #[.int .u8 0, .int .u8 0, .int .u8 0, .int .u8 0]) ?_ 1 _ rfl; (with_reducible repeat (first | refine blk_drewN ?_ _ | refine blk_drew ?_ | refine blk_alloc ?_ _)); refine blk_put (cs := #[.int .u8 0, .int .u8 0, .int .u8 0, .int .u8 0]) ?_ 0 _ rfl; (with_reducible repeat (first | refine blk_drewN ?_ _ | refine blk_drew ?_ | refine blk_alloc ?_ _)); exact BK115.out) Tryd.underlying47 rfl (by kernel_rfl)) rfl ?_
    exact ⟨by first | rfl | (simp [errW_none, errW_some] <;> rfl) | (simp [*, errW_none, errW_some] <;> rfl), by repeat (first | (with_reducible first | exact HB.out | apply below_alloc | apply pw_below_drewN | apply below_drew1 | refine below_set ?_ GE115.out) | exact HB.out)⟩
  · rw [if_neg c3] at H
    have c3b0 : decide (a1 < 0) = false := decide_eq_false c3
    clear c3
    by_cases c6 : a1 ≥ (l0.length : Int)
    · rw [if_pos c6] at H
      have c6b0 : decide ((l0.length : Int) ≤ a1) = true := decide_eq_true c6
      clear c6
      simp only [Option.some.injEq, Prod.mk.injEq] at H
      obtain ⟨rfl, rfl, rfl, rfl⟩ := H
      go_enter Tryd.func27, Tryd.ntmps27
      go_wp2_with (first | ((with_reducible refine gate_dst (N := 4) rfl ?_); (try (refine gate_guard (by rfl) ?_; dsimp only)); refine box_event ?hg (N := 4) ?hd (cs := #[.int .u8 0, .int .u8 0, .int .u8 0, .int .u8 0]) (t := 47) ?hr ?_; (case hd => rfl); (case hg => rfl); (case hr => first | (go_simp; done) | (go_simp; rfl)); intro gb115 hg w7 hbox hb; have n0_ := Aside0.mk (below_step (by repeat (first | (with_reducible first | exact HB.out | apply below_alloc | apply pw_below_drewN | apply below_drew1) | exact HB.out)) hb); have n1_ := Aside0.mk (hbox); have n2_ := Aside0.mk ((by rw [hg]; exact (below_size (by repeat (first | (with_reducible first | exact HB.out | apply below_alloc | apply pw_below_drewN | apply below_drew1) | exact HB.out))) : w.heap.size ≤ gb115)); have n3_ := Aside0.mk ((by rw [hg]; exact (below_size (by repeat (first | (with_reducible first | exact HB.out | apply below_alloc | apply pw_below_drewN | apply below_drew1) | exact HB.out))) : w.heap.size ≤ gb115)); clear HB; have HB := n0_; have BK115 := n1_; have GW115 := n2_; have GE115 := n3_; clear n0_ n1_ n2_ n3_; clear hb hbox hg; have hcz8_0 : w7.cell? ⟨gb115, 0, none⟩ = some (.int .u8 0) := (blk_cell BK115.out 0).trans rfl; have hcz8_1 : w7.cell? ⟨gb115, 1, none⟩ = some (.int .u8 0) := (blk_cell BK115.out 1).trans rfl; have hcz8_2 : w7.cell? ⟨gb115, 2, none⟩ = some (.int .u8 0) := (blk_cell BK115.out 2).trans rfl; have hcz8_3 : w7.cell? ⟨gb115, 3, none⟩ = some (.int .u8 0) := (blk_cell BK115.out 3).trans rfl; have hfz8_0 := blk_frozen BK115.out 0; have hfz8_1 := blk_frozen BK115.out 1; have hfz8_2 := blk_frozen BK115.out 2; have hfz8_3 := blk_frozen BK115.out 3))
      refine bodyPost_ret (results_cell_row rfl _ _ gb115 47 #[.int .u8 0, .int .u8 0, .int .u8 0, .int .u8 0] (0, 0) _ rfl (by (with_reducible repeat (first | refine blk_drewN ?_ _ | refine blk_drew ?_ | refine blk_alloc ?_ _)); refine blk_put (cs := #[.int .u8 0, .int .u8 0, .int .u8 0, .int .u8 0]) ?_ 3 _ rfl; (with_reducible repeat (first | refine blk_drewN ?_ _ | refine blk_drew ?_ | refine blk_alloc ?_ _)); refine blk_put (cs := #[.int .u8 0, .int .u8 0, .int .u8 0, .int .u8 0]) ?_ 2 _ rfl; (with_reducible repeat (first | refine blk_drewN ?_ _ | refine blk_drew ?_ | refine blk_alloc ?_ _)); refine blk_put (cs := #[.int .u8 0, .int .u8 0, .int .u8 0, .int .u8 0]) ?_ 1 _ rfl; (with_reducible repeat (first | refine blk_drewN ?_ _ | refine blk_drew ?_ | refine blk_alloc ?_ _)); refine blk_put (cs := #[.int .u8 0, .int .u8 0, .int .u8 0, .int .u8 0]) ?_ 0 _ rfl; (with_reducible repeat (first | refine blk_drewN ?_ _ | refine blk_drew ?_ | refine blk_alloc ?_ _)); exact BK115.out) Tryd.underlying47 rfl (by kernel_rfl)) rfl ?_
      exact ⟨by first | rfl | (simp [errW_none, errW_some] <;> rfl) | (simp [*, errW_none, errW_some] <;> rfl), by repeat (first | (with_reducible first | exact HB.out | apply below_alloc | apply pw_below_drewN | apply below_drew1 | refine below_set ?_ GE115.out) | exact HB.out)⟩
    · rw [if_neg c6] at H
      have c6b0 : decide ((l0.length : Int) ≤ a1) = false := decide_eq_false c6
      clear c6
      by_cases c9 : 0 ≤ a1
      · rw [if_pos c9] at H
        have c9b0 : decide (0 ≤ a1) = true := decide_eq_true c9
        clear c9
        by_cases c10 : a1 < (l0.length : Int)
        · rw [if_pos c10] at H
          have c10b0 : decide (a1 < (l0.length : Int)) = true := decide_eq_true c10
          clear c10
          simp only [Option.some.injEq, Prod.mk.injEq] at H
          obtain ⟨rfl, rfl, rfl, rfl⟩ := H
          go_enter Tryd.func27, Tryd.ntmps27
          go_wp2_with (first | ((with_reducible refine gate_dst (N := 4) rfl ?_); (try (refine gate_guard (by rfl) ?_; dsimp only)); refine box_event ?hg (N := 4) ?hd (cs := #[.int .u8 0, .int .u8 0, .int .u8 0, .int .u8 0]) (t := 47) ?hr ?_; (case hd => rfl); (case hg => rfl); (case hr => first | (go_simp; done) | (go_simp; rfl)); intro gb115 hg w11 hbox hb; have n0_ := Aside0.mk (below_step (by repeat (first | (with_reducible first | exact HB.out | apply below_alloc | apply pw_below_drewN | apply below_drew1) | exact HB.out)) hb); have n1_ := Aside0.mk (hbox); have n2_ := Aside0.mk ((by rw [hg]; exact (below_size (by repeat (first | (with_reducible first | exact HB.out | apply below_alloc | apply pw_below_drewN | apply below_drew1) | exact HB.out))) : w.heap.size ≤ gb115)); have n3_ := Aside0.mk ((by rw [hg]; exact (below_size (by repeat (first | (with_reducible first | exact HB.out | apply below_alloc | apply pw_below_drewN | apply below_drew1) | exact HB.out))) : w.heap.size ≤ gb115)); clear HB; have HB := n0_; have BK115 := n1_; have GW115 := n2_; have GE115 := n3_; clear n0_ n1_ n2_ n3_; clear hb hbox hg; have p116 : 0 ≤ (a1 : Int) := of_decide_eq_true (by first | (with_reducible assumption) | assumption); have q116 : a1 < (l0.length : Int) := of_decide_eq_true (by first | (with_reducible assumption) | assumption); obtain ⟨ad116, e116, hx116_0, hx116_1, hx116_2, hx116_3⟩ := at_T47 HR0.out a1 p116 q116; cases e116; replace hx116_0 := (HB.out.cell (World.block_lt_of_cell? w _ hx116_0)).trans hx116_0; replace hx116_1 := (HB.out.cell (World.block_lt_of_cell? w _ hx116_1)).trans hx116_1; replace hx116_2 := (HB.out.cell (World.block_lt_of_cell? w _ hx116_2)).trans hx116_2; replace hx116_3 := (HB.out.cell (World.block_lt_of_cell? w _ hx116_3)).trans hx116_3; replace p116 := eq_true p116; replace q116 := eq_true q116; have hcz12_0 : w11.cell? ⟨gb115, 0, none⟩ = some (.int .u8 0) := (blk_cell BK115.out 0).trans rfl; have hcz12_1 : w11.cell? ⟨gb115, 1, none⟩ = some (.int .u8 0) := (blk_cell BK115.out 1).trans rfl; have hcz12_2 : w11.cell? ⟨gb115, 2, none⟩ = some (.int .u8 0) := (blk_cell BK115.out 2).trans rfl; have hcz12_3 : w11.cell? ⟨gb115, 3, none⟩ = some (.int .u8 0) := (blk_cell BK115.out 3).trans rfl; have hfz12_0 := blk_frozen BK115.out 0; have hfz12_1 := blk_frozen BK115.out 1; have hfz12_2 := blk_frozen BK115.out 2; have hfz12_3 := blk_frozen BK115.out 3))
          refine bodyPost_ret (results_cell_row rfl _ _ gb115 47 #[.int .u8 ((rd_T47 l0 a1).f0), .int .u8 ((rd_T47 l0 a1).f1), .int .u8 ((rd_T47 l0 a1).f2), .int .u8 ((rd_T47 l0 a1).f3)] (0, 0) _ rfl (by (with_reducible repeat (first | refine blk_drewN ?_ _ | refine blk_drew ?_ | refine blk_alloc ?_ _)); refine blk_put (cs := #[.int .u8 ((rd_T47 l0 a1).f0), .int .u8 ((rd_T47 l0 a1).f1), .int .u8 ((rd_T47 l0 a1).f2), .int .u8 0]) ?_ 3 _ rfl; (with_reducible repeat (first | refine blk_drewN ?_ _ | refine blk_drew ?_ | refine blk_alloc ?_ _)); refine blk_put (cs := #[.int .u8 ((rd_T47 l0 a1).f0), .int .u8 ((rd_T47 l0 a1).f1), .int .u8 0, .int .u8 0]) ?_ 2 _ rfl; (with_reducible repeat (first | refine blk_drewN ?_ _ | refine blk_drew ?_ | refine blk_alloc ?_ _)); refine blk_put (cs := #[.int .u8 ((rd_T47 l0 a1).f0), .int .u8 0, .int .u8 0, .int .u8 0]) ?_ 1 _ rfl; (with_reducible repeat (first | refine blk_drewN ?_ _ | refine blk_drew ?_ | refine blk_alloc ?_ _)); refine blk_put (cs := #[.int .u8 0, .int .u8 0, .int .u8 0, .int .u8 0]) ?_ 0 _ rfl; (with_reducible repeat (first | refine blk_drewN ?_ _ | refine blk_drew ?_ | refine blk_alloc ?_ _)); exact BK115.out) Tryd.underlying47 rfl (by kernel_rfl)) rfl ?_
          exact ⟨by first | rfl | (simp [errW_none, errW_some] <;> rfl) | (simp [*, errW_none, errW_some] <;> rfl), by repeat (first | (with_reducible first | exact HB.out | apply below_alloc | apply pw_below_drewN | apply below_drew1 | refine below_set ?_ GE115.out) | exact HB.out)⟩
        · rw [if_neg c10] at H
          exact absurd H (by simp)
      · rw [if_neg c9] at H
        exact absurd H (by simp)

/-! ### machine_arithmetic_1: function 39 -/
def machine_arithmetic_1.f (a0 : Int) (a1 : Int) : Option (Int) := some a1
set_option maxHeartbeats 8000000 in
set_option maxRecDepth 100000 in
theorem machine_arithmetic_1.calls (a0 : Int) (a1 : Int) (r : Int) (w : World) (h : machine_arithmetic_1.f a0 a1 = some r) :
    Calls Tryd.prog 39 #[.int .u8 a0, .int .u8 a1] w fun e w' => e = .returned (.int .u8 r) ∧ Drawn0 w w' := by
  have H : (some a1) = some r := h
  clear h
  obtain rfl := Option.some.inj H
  go_enter Tryd.func39, Tryd.ntmps39
  go_wp2
  go_ret
  exact ⟨by first | rfl | (simp; done) | (simp [*]; done), by repeat (first | exact Drawn0.refl _ | apply Drawn0.step)⟩

/-! ### machine_arithmetic_2: function 40 -/
def machine_arithmetic_2.f (a0 : Int) (a1 : Int) : Option (Int) := some ((a0 + a1) % 256)
set_option maxHeartbeats 8000000 in
set_option maxRecDepth 100000 in
theorem machine_arithmetic_2.calls (a0 : Int) (a1 : Int) (r : Int) (w : World) (h : machine_arithmetic_2.f a0 a1 = some r) :
    Calls Tryd.prog 40 #[.int .u8 a0, .int .u8 a1] w fun e w' => e = .returned (.int .u8 r) ∧ Drawn0 w w' := by
  have H : (some ((a0 + a1) % 256)) = some r := h
  clear h
  obtain rfl := Option.some.inj H
  go_enter Tryd.func40, Tryd.ntmps40
  go_wp2
  go_ret
  exact ⟨by first | rfl | (simp; done) | (simp [*]; done), by repeat (first | exact Drawn0.refl _ | apply Drawn0.step)⟩

end Go.Proofs.YtgmdpghbkjlnhaaDoor.Q
end
section
namespace Go.Proofs.YtgmdpghbkjlnhaaDoor.Q
open Go.RowKit Go.Proofs.YtgmdpghbkjlnhaaDoorW.PrintWords Go.Proofs.YtgmdpghbkjlnhaaDoorW.PrintLast Go.Proofs.YtgmdpghbkjlnhaaDoorW.PrintMore
attribute [local go_sem] max2_int min2_int max_two min_two max_three min_three max_four min_four run_store_fnV run_store_fnc run_store_nfn   -- for this text's walks alone
set_option linter.unusedVariables false
set_option linter.unusedSimpArgs false

/-! ### machine_arithmetic_3: function 41 -/
def machine_arithmetic_3.f (a0 : Int) (a1 : Int) : Option (Int) := some ((a0 - a1) % 256)
set_option maxHeartbeats 8000000 in
set_option maxRecDepth 100000 in
theorem machine_arithmetic_3.calls (a0 : Int) (a1 : Int) (r : Int) (w : World) (h : machine_arithmetic_3.f a0 a1 = some r) :
    Calls Tryd.prog 41 #[.int .u8 a0, .int .u8 a1] w fun e w' => e = .returned (.int .u8 r) ∧ Drawn0 w w' := by
  have H : (some ((a0 - a1) % 256)) = some r := h
  clear h
  obtain rfl := Option.some.inj H
  go_enter Tryd.func41, Tryd.ntmps41
  go_wp2
  go_ret
  exact ⟨by first | rfl | (simp; done) | (simp [*]; done), by repeat (first | exact Drawn0.refl _ | apply Drawn0.step)⟩

/-! ### machine_arithmetic_4: function 42 -/
def machine_arithmetic_4.f (a0 : Int) (a1 : Int) : Option (Int) := some ((a0 * a1) % 256)
set_option maxHeartbeats 8000000 in
set_option maxRecDepth 100000 in
theorem machine_arithmetic_4.calls (a0 : Int) (a1 : Int) (r : Int) (w : World) (h : machine_arithmetic_4.f a0 a1 = some r) :
    Calls Tryd.prog 42 #[.int .u8 a0, .int .u8 a1] w fun e w' => e = .returned (.int .u8 r) ∧ Drawn0 w w' := by
  have H : (some ((a0 * a1) % 256)) = some r := h
  clear h
  obtain rfl := Option.some.inj H
  go_enter Tryd.func42, Tryd.ntmps42
  go_wp2
  go_ret
  exact ⟨by first | rfl | (simp; done) | (simp [*]; done), by repeat (first | exact Drawn0.refl _ | apply Drawn0.step)⟩

/-! ### machine_arithmetic: function 37 -/
def machine_arithmetic.f (a0 : Int) : Option (Int × Bool) := if a0 = 2 then (some (39, true)) else (if a0 = 3 then (some (40, true)) else (if a0 = 4 then (some (41, true)) else (if a0 = 5 then (some (42, true)) else (some ((-1), false)))))
set_option maxHeartbeats 8000000 in
set_option maxRecDepth 100000 in
theorem machine_arithmetic.calls (a0 : Int) (r1 : Int) (r2 : Bool) (w : World) (h : machine_arithmetic.f a0 = some (r1, r2)) :
    Calls Tryd.prog 37 #[.int .u8 a0] w fun e w' => e = .returned (.tuple #[fnV r1, .bool r2]) ∧ Drawn0 w w' := by
  have H : (if a0 = 2 then (some (39, true)) else (if a0 = 3 then (some (40, true)) else (if a0 = 4 then (some (41, true)) else (if a0 = 5 then (some (42, true)) else (some ((-1), false)))))) = some (r1, r2) := h
  clear h
  by_cases c2 : a0 = 2
  · rw [if_pos c2] at H
    have c2b0 : (a0 == 2) = true := beq_iff_eq.mpr c2
    have c2b1 : (a0 != 2) = false := bne_eq_false_iff_eq.mpr c2
    clear c2
    simp only [Option.some.injEq, Prod.mk.injEq] at H
    obtain ⟨rfl, rfl⟩ := H
    go_enter Tryd.func37, Tryd.ntmps37
    go_wp2
    go_ret2
    exact ⟨by first | rfl | (simp; done) | (simp [*]; done), by repeat (first | exact Drawn0.refl _ | apply Drawn0.step)⟩
  · rw [if_neg c2] at H
    have c2b0 : (a0 == 2) = false := beq_eq_false_iff_ne.mpr c2
    have c2b1 : (a0 != 2) = true := bne_iff_ne.mpr c2
    by_cases c3 : a0 = 3
    · rw [if_pos c3] at H
      have c3b0 : (a0 == 3) = true := beq_iff_eq.mpr c3
      have c3b1 : (a0 != 3) = false := bne_eq_false_iff_eq.mpr c3
      clear c3
      simp only [Option.some.injEq, Prod.mk.injEq] at H
      obtain ⟨rfl, rfl⟩ := H
      go_enter Tryd.func37, Tryd.ntmps37
      go_wp2
      go_ret2
      exact ⟨by first | rfl | (simp; done) | (simp [*]; done), by repeat (first | exact Drawn0.refl _ | apply Drawn0.step)⟩
    · rw [if_neg c3] at H
      have c3b0 : (a0 == 3) = false := beq_eq_false_iff_ne.mpr c3
      have c3b1 : (a0 != 3) = true := bne_iff_ne.mpr c3
      by_cases c4 : a0 = 4
      · rw [if_pos c4] at H
        have c4b0 : (a0 == 4) = true := beq_iff_eq.mpr c4
        have c4b1 : (a0 != 4) = false := bne_eq_false_iff_eq.mpr c4
        clear c4
        simp only [Option.some.injEq, Prod.mk.injEq] at H
        obtain ⟨rfl, rfl⟩ := H
        go_enter Tryd.func37, Tryd.ntmps37
        go_wp2
        go_ret2
        exact ⟨by first | rfl | (simp; done) | (simp [*]; done), by repeat (first | exact Drawn0.refl _ | apply Drawn0.step)⟩
      · rw [if_neg c4] at H
        have c4b0 : (a0 == 4) = false := beq_eq_false_iff_ne.mpr c4
        have c4b1 : (a0 != 4) = true := bne_iff_ne.mpr c4
        by_cases c5 : a0 = 5
        · rw [if_pos c5] at H
          have c5b0 : (a0 == 5) = true := beq_iff_eq.mpr c5
          have c5b1 : (a0 != 5) = false := bne_eq_false_iff_eq.mpr c5
          clear c5
          simp only [Option.some.injEq, Prod.mk.injEq] at H
          obtain ⟨rfl, rfl⟩ := H
          go_enter Tryd.func37, Tryd.ntmps37
          go_wp2
          go_ret2
          exact ⟨by first | rfl | (simp; done) | (simp [*]; done), by repeat (first | exact Drawn0.refl _ | apply Drawn0.step)⟩
        · rw [if_neg c5] at H
          have c5b0 : (a0 == 5) = false := beq_eq_false_iff_ne.mpr c5
          have c5b1 : (a0 != 5) = true := bne_iff_ne.mpr c5
          simp only [Option.some.injEq, Prod.mk.injEq] at H
          obtain ⟨rfl, rfl⟩ := H
          go_enter Tryd.func37, Tryd.ntmps37
          go_wp2
          go_ret2
          exact ⟨by first | rfl | (simp; done) | (simp [*]; done), by repeat (first | exact Drawn0.refl _ | apply Drawn0.step)⟩

end Go.Proofs.YtgmdpghbkjlnhaaDoor.Q
end
section
namespace Go.Proofs.YtgmdpghbkjlnhaaDoor.Q
open Go.RowKit Go.Proofs.YtgmdpghbkjlnhaaDoorW.PrintWords Go.Proofs.YtgmdpghbkjlnhaaDoorW.PrintLast Go.Proofs.YtgmdpghbkjlnhaaDoorW.PrintMore
theorem store_wide {P : Program} {ops : Array Oper} {rest : List Oper} {o : Oper} {a : Act} {W : World} {Q : Exit → Act → World → Prop} (hgd : o.guard = none) (ty : TypeId) (p : Tmp) (y : Operand) (ho : o.op = .store ty (.tmp p) y) (hN : o.dst = none)
    (g : Nat) (cs : Array Value) (hx : a.eval (.tmp p) = .pointer (some ⟨g, 0, none⟩)) (hy : a.eval y = .agg cs) (t : TypeId) (old : Array Value) (hg : W.heap[g]? = some (.cells old t (0, 0))) (hi : (P.info? ty).map (·.size) = some cs.size)
    (hold : old.size = cs.size) (h1 : cs.all (·.oneCell') = true)
    (h : ∀ w1, w1.heap[g]? = some (.cells cs t (0, 0)) → (∀ k, k ≠ g → w1.heap[k]? = W.heap[k]?) → Below g W w1 → wpList P ops Q rest a w1) : wpList P ops Q (o :: rest) a W := by
  refine wpList_store_row hgd ty (.tmp p) y ho g cs hx hy t old hg hi hold h1 ?_
  rw [hN]
  show wpList P ops Q rest a (W.setRow g cs)
  exact h _ (setRow_heap _ _ _ _ _ _ hg) (fun k hk => setRow_other W g k cs hk) (below_setRow (Below.refl _ _) (Nat.le_refl _) cs)
/-- The same in a region that draws. -/
theorem store_wide_step {P : Program} {ops : Array Oper} {o : Oper} {a : Act} {W : World} {Kc : Act → World → Prop} {Q : Exit → Act → World → Prop} (hw : Region.wanted o (yielded ops a.tmps) = true) (ty : TypeId) (p : Tmp) (y : Operand) (ho : o.op = .store ty (.tmp p) y) (hN : o.dst = none)
    (g : Nat) (cs : Array Value) (hx : a.eval (.tmp p) = .pointer (some ⟨g, 0, none⟩)) (hy : a.eval y = .agg cs) (t : TypeId) (old : Array Value) (hg : W.heap[g]? = some (.cells old t (0, 0))) (hi : (P.info? ty).map (·.size) = some cs.size)
    (hold : old.size = cs.size) (h1 : cs.all (·.oneCell') = true)
    (h : ∀ w1, w1.heap[g]? = some (.cells cs t (0, 0)) → (∀ k, k ≠ g → w1.heap[k]? = W.heap[k]?) → Below g W w1 → Kc (a.put none undef) w1) : if Region.wanted o (yielded ops a.tmps) = true then Oper.wp P o a W Kc Q else Kc (a.put none undef) W := by
  rw [if_pos hw]
  refine wp_store_row ty (.tmp p) y ho g cs hx hy t old hg hi hold h1 ?_
  rw [hN]
  exact h _ (setRow_heap _ _ _ _ _ _ hg) (fun k hk => setRow_other W g k cs hk) (below_setRow (Below.refl _ _) (Nat.le_refl _) cs)
/-- The cells of a block from n on. -/
def CL (w : World) (g n : Nat) (l : List Value) : Prop := ∀ j v, l[j]? = some v → w.cell? ⟨g, n + j, none⟩ = some v
theorem cl_nil (w : World) (g n : Nat) : CL w g n [] := fun j v h => by simp at h
theorem cl_cons {w : World} {g n : Nat} {v : Value} {l : List Value} (h : w.cell? ⟨g, n, none⟩ = some v) (t : CL w g (n + 1) l) : CL w g n (v :: l) := by
  intro j u hu
  cases j with
  | zero => cases hu; exact h
  | succ j =>
    have := t j u (by simpa using hu)
    rwa [show n + 1 + j = n + (j + 1) by omega] at this
theorem load_cells_run {P : Program} {oi : Oper} {a : Act} {w : World} {ty : TypeId} {p : Operand} {g : Nat} {cs : Array Value} {d : TypeDesc} (ho : oi.op = .load ty p) (hx : a.eval p = .pointer (some ⟨g, 0, none⟩)) (hu : P.underlying ty = some d) (hd : (match d with | .struct _ | .array _ _ => true | _ => false) = true) (hi : (P.info? ty).map (·.size) = some cs.size)
    (h : CL w g 0 cs.toList) : (execOp a.eval oi).run P w = .ok (.value (.agg cs)) w := by
  have hl : (loadCells ⟨g, 0, none⟩ cs.toList.length).run P w = .ok cs.toList.toArray w :=
    run_loadCells_list (P := P) w ⟨g, 0, none⟩ cs.toList (fun j v hv => by
      have hadd : (⟨g, 0, none⟩ : Addr).add j = ⟨g, j, none⟩ := by unfold Addr.add; split <;> simp_all
      rw [hadd]
      have := h j v hv
      rwa [Nat.zero_add] at this)
  have hlv : (loadVar ty ⟨g, 0, none⟩).run P w = .ok (.agg cs) w := by
    cases hq : P.info? ty with
    | none => simp [hq] at hi
    | some i =>
      have hs : i.size = cs.size := by simpa [hq] using hi
      have hagg : (isAgg ty).run P w = .ok true w := by
        unfold isAgg
        rw [Sem.run_bind, run_underlying hu w]
        cases d <;> simp_all
      simp only [Array.length_toList, Array.toArray_toList] at hl
      simp [loadVar, Sem.run_bind, hagg, sizeOf, typeInfo, hq, hs, hl]
  unfold execOp
  simp only [ho, hx, Instr.loadAt, Instr.sureAddr, Sem.run_bind, Sem.run_pure, Result.andThen_ok, hlv]
end Go.Proofs.YtgmdpghbkjlnhaaDoor.Q
end
