/- Several texts in one, in build order. What they prove, each by its own first remark:
Written by our own copy of a printing program (a twelfth state) out of the translation. Not trusted: Lean checks it.
What the listed variables of the program hold, as facts on a world that stay while only new memory is made: the numbers of the four fields; and the contracts of the functions that read them: of, P, Generator, Exponent, Twos, Of.
How what is read as an argument is told to the walks: a kind of the words for each type, and that its numbers are of their kinds.
From the card's condition on the variable 'fields' to the fact that the contracts ask.
Of PFa what this claim needs.
Short names for what stands often in the printed texts (slim.py puts them there).
A cell of an array of whole numbers at a variable place.
Of PSa what this claim needs.
Of PSl what this claim needs.
Of PNode what this claim needs.
Of PSb what this claim needs. -/
import Derived.Test.YtpnpmeogffodgaaDoorProg
import Derived.Below
import Derived.Deep.Draws
import Derived.Deep.AppendLies
import Derived.Maps.AppendAt
import Derived.OwnWalk
import Derived.Laws.BytesArg
import Derived.Laws.MakeOwn
import Derived.Laws.OwnMore
import Derived.Deep.OwnRows
import Derived.Tactics
import Derived.Lib.ConvBytes
import Derived.Laws.Slices
import Derived.WalkKit
import Derived.KernelRfl
import Derived.RowKit3
import Derived.Deep.LoopGhost
import Derived.Deep.QuietTactic
import Derived.BigQuiet
import Derived.WideLaws
import Derived.Deep.DeepCutAuto
import Derived.Deep.CutBlock
import Derived.Deep.RegionHeld3
import Derived.Laws.Rows
import Derived.Lib.AppendStr
import Derived.ArgAppend
import Derived.Laws.IdiomCopy
import Derived.OrdersHeld
import Derived.Laws.BitsLemmas
import Derived.RowKit
import Derived.Test.YtpnpmeogffodgaaDoorM1
import Derived.ChangeArms
import Derived.Deep.Slices
import Derived.OpenShut
import Derived.ProofKit
import Derived.SizedLaws
import Derived.Test.YtpnpmeogffodgaaDoorRows
import Derived.LaidMore
import Derived.Lib.SmallJoins
import Derived.Stop.Joined
section
namespace Go.Proofs.YtpnpmeogffodgaaDoor.Q
open Go.RowKit Go.Proofs.YtpnpmeogffodgaaDoorW.PrintWords Go.Proofs.YtpnpmeogffodgaaDoorW.PrintLast Go.Proofs.YtpnpmeogffodgaaDoorW.PrintMore
attribute [local go_sem] max2_int min2_int max_two min_two max_three min_three max_four min_four   -- for this text's walks alone
set_option linter.unusedVariables false
set_option linter.unusedSimpArgs false



def errW : Option Int → Value
  | none => .nilIface
  | some c => .iface 0 (.int .i64 c)
theorem errW_none : errW none = .nilIface := rfl
theorem errW_some (c : Int) : errW (some c) = .iface 0 (.int .i64 c) := rfl

theorem info22 : (Tryd.prog.info? 22).map (fun i => (i.zero, i.size, i.bytes)) = some (some (.slice none 0 0), 1, 24) := by kernel_rfl
theorem info36 : (Tryd.prog.info? 36).map (fun i => (i.zero, i.size, i.bytes)) = some (some (.agg #[(.int .u64 0), (.int .u64 0)]), 2, 16) := by kernel_rfl
/-- A function value: its number; nil below 0. -/
def fnV : Int → Value
  | .ofNat n => .func (.func n) #[] #[]
  | .negSucc _ => .nilFunc
def kfn : Kd Int := Kd.scalar fnV (fun x => by cases x <;> rfl)
theorem heap_fn : Kd.Heap kfn := ⟨fun _ h => h⟩
theorem run_store_fnV (P : Program) (w : World) (a : Addr) (m : Mode) (x : Int) : (store a (fnV x) m).run P w = stored P w a (fnV x) m := run_store P w a _ m (by cases x <;> rfl)
theorem run_store_fnc (P : Program) (w : World) (a : Addr) (m : Mode) (fn : Fn) (first captured : Array Value) : (store a (.func fn first captured) m).run P w = stored P w a (.func fn first captured) m := run_store P w a _ m rfl
theorem run_store_nfn (P : Program) (w : World) (a : Addr) (m : Mode) : (store a .nilFunc m).run P w = stored P w a .nilFunc m := run_store P w a _ m rfl
/-- A call of a function value. -/
theorem goesF_ {P : Program} {ops : Array Oper} {Q : Exit → Act → World → Prop} {rest : List Oper} {oi : Oper} {a : Act} {w : World} (N : Option Tmp) (hd : oi.dst = N) (hg : oi.guard = none) {f : FuncId} {fn : Func} {t : Tmp} {ar : Array Operand} {ts : Array TypeId} (hf : P.funcs[f]? = some fn) (hname : (fn.name == "runtime.NumGoroutine") = false) (hb : fn.body.isSome = true) (args : Array Value)
    (hop : oi.op = .call { callee := .value (.tmp t), args := ar, argTypes := ts }) (hfn : a.eval (.tmp t) = .func (.func f) #[] #[]) (hargs : ar.map a.eval = args)
    (h : Calls P f args w fun e w' => ∃ v, e = .returned v ∧ wpList P ops Q rest (a.put N v) w') : wpList P ops Q (oi :: rest) a w := by
  refine wpList_plain hg fun K hK => ?_
  have he := enters_ hf hname hb args w
  have hrun : (execOp a.eval oi).run P w = .ok (.enter f args) w := by
    unfold execOp
    simp [hop, resolve, Deferred.ofValue, invoke, hfn, hargs, he]
  unfold Oper.wp
  rw [hrun, Oper.upon_enter]
  refine h.mono fun e w'' hh => ?_
  obtain ⟨v, rfl, hk⟩ := hh
  subst hd
  exact hK _ _ hk
/-- A call of a function value in a region that draws. -/
theorem goesG_ {P : Program} {ops : Array Oper} {Q : Exit → Act → World → Prop} {oi : Oper} {N : Option Tmp} {a : Act} {w : World} {K : Act → World → Prop} {f : FuncId} {fn : Func} {t : Tmp} {ar : Array Operand} {ts : Array TypeId} (hf : P.funcs[f]? = some fn) (hname : (fn.name == "runtime.NumGoroutine") = false) (hb : fn.body.isSome = true) (args : Array Value)
    (hw : Region.wanted oi (yielded ops a.tmps) = true) (hN : oi.dst = N) (hop : oi.op = .call { callee := .value (.tmp t), args := ar, argTypes := ts }) (hfn : a.eval (.tmp t) = .func (.func f) #[] #[]) (hargs : ar.map a.eval = args)
    (h : Calls P f args w fun e w' => ∃ v, e = .returned v ∧ K (a.put N v) w') : if Region.wanted oi (yielded ops a.tmps) = true then Oper.wp P oi a w K Q else K (a.put N undef) w := by
  refine call_ f args hw hN ?_ h
  have he := enters_ hf hname hb args w
  unfold execOp
  simp [hop, resolve, Deferred.ofValue, invoke, hfn, hargs, he]

-- the values' own types
/-! #### struct type 36 -/
structure S36 where
  f0 : Int
  f1 : Int
def z36 : S36 := ⟨(0 : Int), (0 : Int)⟩
def k36 : Kd S36 := Kd.iso (Kd.pair (Kd.int .u64) (Kd.int .u64)) (fun x : S36 => (x.f0, x.f1))
theorem k36_open {w : World} {x : S36} {cs : List Value} (h : k36.K w x cs) : cs = [.int .u64 x.f0, .int .u64 x.f1] := by
  obtain ⟨_, _, rfl, rfl, rfl⟩ := h
  exact rfl
theorem k36_openM {w : World} {base : Nat} {ok : Nat → Prop} {x : S36} {cs : List Value} (h : k36.M w base ok x cs) : cs = [.int .u64 x.f0, .int .u64 x.f1] := by
  obtain ⟨_, _, rfl, rfl, rfl⟩ := h
  exact rfl
theorem k36_mk (w : World) (x : S36)  : k36.K w x [.int .u64 x.f0, .int .u64 x.f1] := ⟨[.int .u64 x.f0], [.int .u64 x.f1], rfl, rfl, rfl⟩
theorem k36_mkM (w : World) (base : Nat) (ok : Nat → Prop) (x : S36)  : k36.M w base ok x [.int .u64 x.f0, .int .u64 x.f1] := ⟨[.int .u64 x.f0], [.int .u64 x.f1], rfl, rfl, rfl⟩
def rd_T36 (xs : List S36) (i : Int) : S36 := xs.getD i.toNat z36
theorem at_T36 {w : World} {A : Option Addr} {n : Nat} {xs : List S36} (h : Kd.C k36 w A n xs) (i : Int) (h0 : 0 ≤ i) (h1 : i < n) : ∃ ad , A = some ad ∧ w.cell? (ad.add (i.toNat * 2)) = some (.int .u64 (rd_T36 xs i).f0) ∧ w.cell? ⟨(ad.add (i.toNat * 2)).block, (ad.add (i.toNat * 2)).off + 1, none⟩ = some (.int .u64 (rd_T36 xs i).f1) := by
  obtain ⟨ad, c, e, _, hK, hc0⟩ := Kd.C_get h z36 i h0 h1
  have hc : ∀ j u, c[j]? = some u → w.cell? (ad.add (i.toNat * 2 + j)) = some u := hc0
  obtain rfl := k36_open hK
  exact ⟨ad, e, hc 0 _ rfl, by rw [← add_field _ _ 1 (by omega)]; exact hc 1 _ rfl⟩

def rd_L3 (xs : List (List S36)) (i : Int) : (List S36) := xs.getD i.toNat ([] : List S36)
theorem at_L3 {w : World} {A : Option Addr} {n : Nat} {xs : List (List S36)} (h : Kd.C (Kd.slice 36 k36) w A n xs) (i : Int) (h0 : 0 ≤ i) (h1 : i < n) : ∃ ad A0 c0, A = some ad ∧ w.cell? (ad.add i.toNat) = some (.slice A0 (rd_L3 xs i).length c0) ∧ (rd_L3 xs i).length ≤ c0 ∧ k36.C w A0 (rd_L3 xs i).length (rd_L3 xs i) := by
  obtain ⟨ad, c, e, _, hK, hc0⟩ := Kd.C_get h ([] : List S36) i h0 h1
  have hc : ∀ j u, c[j]? = some u → w.cell? (ad.add (i.toNat * 1 + j)) = some u := hc0
  obtain ⟨A0, c0, rfl, l0, g0⟩ := hK
  exact ⟨ad, A0, c0, e, by have hq := hc 0 _ rfl; rwa [Nat.mul_one, Nat.add_zero] at hq, l0, g0⟩

def rd_L5 (xs : List (List (List S36))) (i : Int) : (List (List S36)) := xs.getD i.toNat ([] : List (List S36))
theorem at_L5 {w : World} {A : Option Addr} {n : Nat} {xs : List (List (List S36))} (h : Kd.C (Kd.slice 22 (Kd.slice 36 k36)) w A n xs) (i : Int) (h0 : 0 ≤ i) (h1 : i < n) : ∃ ad A0 c0, A = some ad ∧ w.cell? (ad.add i.toNat) = some (.slice A0 (rd_L5 xs i).length c0) ∧ (rd_L5 xs i).length ≤ c0 ∧ (Kd.slice 36 k36).C w A0 (rd_L5 xs i).length (rd_L5 xs i) := by
  obtain ⟨ad, c, e, _, hK, hc0⟩ := Kd.C_get h ([] : List (List S36)) i h0 h1
  have hc : ∀ j u, c[j]? = some u → w.cell? (ad.add (i.toNat * 1 + j)) = some u := hc0
  obtain ⟨A0, c0, rfl, l0, g0⟩ := hK
  exact ⟨ad, A0, c0, e, by have hq := hc 0 _ rfl; rwa [Nat.mul_one, Nat.add_zero] at hq, l0, g0⟩

/-! #### struct type 26 -/
structure S26 where
  f0 : Int
  f1 : Int
  f2 : Int
  f3 : (List (List S36))
def z26 : S26 := ⟨(0 : Int), (0 : Int), (0 : Int), ([] : List (List S36))⟩
def k26 : Kd S26 := Kd.iso (Kd.pair (Kd.int .i64) (Kd.pair (Kd.int .i64) (Kd.pair (Kd.int .i64) (Kd.slice 22 (Kd.slice 36 k36))))) (fun x : S26 => (x.f0, x.f1, x.f2, x.f3))
theorem k26_open {w : World} {x : S26} {cs : List Value} (h : k26.K w x cs) : ∃ A3 c3, cs = [.int .i64 x.f0, .int .i64 x.f1, .int .i64 x.f2, .slice A3 x.f3.length c3] ∧ x.f3.length ≤ c3 ∧ (Kd.slice 36 k36).C w A3 x.f3.length x.f3 := by
  obtain ⟨_, _, rfl, rfl, ⟨_, _, rfl, rfl, ⟨_, _, rfl, rfl, ⟨A3, c3, rfl, l3, g3⟩⟩⟩⟩ := h
  exact ⟨A3, c3, rfl, l3, g3⟩
theorem k26_openM {w : World} {base : Nat} {ok : Nat → Prop} {x : S26} {cs : List Value} (h : k26.M w base ok x cs) : ∃ v3, cs = [.int .i64 x.f0, .int .i64 x.f1, .int .i64 x.f2, v3] ∧ (Kd.slice 36 k36).R 22 w base ok v3 x.f3 := by
  obtain ⟨_, _, rfl, rfl, ⟨_, _, rfl, rfl, ⟨_, _, rfl, rfl, ⟨v3, rfl, g3⟩⟩⟩⟩ := h
  exact ⟨v3, rfl, g3⟩
theorem k26_mk (w : World) (x : S26) {A3 : Option Addr} {c3 : Nat} (l3 : x.f3.length ≤ c3) (g3 : (Kd.slice 36 k36).C w A3 x.f3.length x.f3) : k26.K w x [.int .i64 x.f0, .int .i64 x.f1, .int .i64 x.f2, .slice A3 x.f3.length c3] := ⟨[.int .i64 x.f0], [.int .i64 x.f1, .int .i64 x.f2, .slice A3 x.f3.length c3], rfl, rfl, ⟨[.int .i64 x.f1], [.int .i64 x.f2, .slice A3 x.f3.length c3], rfl, rfl, ⟨[.int .i64 x.f2], [.slice A3 x.f3.length c3], rfl, rfl, ⟨A3, c3, rfl, l3, g3⟩⟩⟩⟩
theorem k26_mkM (w : World) (base : Nat) (ok : Nat → Prop) (x : S26) {v3 : Value} (g3 : (Kd.slice 36 k36).R 22 w base ok v3 x.f3) : k26.M w base ok x [.int .i64 x.f0, .int .i64 x.f1, .int .i64 x.f2, v3] := ⟨[.int .i64 x.f0], [.int .i64 x.f1, .int .i64 x.f2, v3], rfl, rfl, ⟨[.int .i64 x.f1], [.int .i64 x.f2, v3], rfl, rfl, ⟨[.int .i64 x.f2], [v3], rfl, rfl, ⟨v3, rfl, g3⟩⟩⟩⟩
def rd_T26 (xs : List S26) (i : Int) : S26 := xs.getD i.toNat z26
theorem at_T26 {w : World} {A : Option Addr} {n : Nat} {xs : List S26} (h : Kd.C k26 w A n xs) (i : Int) (h0 : 0 ≤ i) (h1 : i < n) : ∃ ad A3 c3, A = some ad ∧ w.cell? (ad.add (i.toNat * 4)) = some (.int .i64 (rd_T26 xs i).f0) ∧ w.cell? ⟨(ad.add (i.toNat * 4)).block, (ad.add (i.toNat * 4)).off + 1, none⟩ = some (.int .i64 (rd_T26 xs i).f1) ∧ w.cell? ⟨(ad.add (i.toNat * 4)).block, (ad.add (i.toNat * 4)).off + 2, none⟩ = some (.int .i64 (rd_T26 xs i).f2) ∧ w.cell? ⟨(ad.add (i.toNat * 4)).block, (ad.add (i.toNat * 4)).off + 3, none⟩ = some (.slice A3 (rd_T26 xs i).f3.length c3) ∧ (rd_T26 xs i).f3.length ≤ c3 ∧ (Kd.slice 36 k36).C w A3 (rd_T26 xs i).f3.length (rd_T26 xs i).f3 := by
  obtain ⟨ad, c, e, _, hK, hc0⟩ := Kd.C_get h z26 i h0 h1
  have hc : ∀ j u, c[j]? = some u → w.cell? (ad.add (i.toNat * 4 + j)) = some u := hc0
  obtain ⟨A3, c3, rfl, l3, g3⟩ := k26_open hK
  exact ⟨ad, A3, c3, e, hc 0 _ rfl, by rw [← add_field _ _ 1 (by omega)]; exact hc 1 _ rfl, by rw [← add_field _ _ 2 (by omega)]; exact hc 2 _ rfl, by rw [← add_field _ _ 3 (by omega)]; exact hc 3 _ rfl, l3, g3⟩

/-! #### struct type 48 -/
structure S48 where
  f0 : S36
  f1 : S36
def z48 : S48 := ⟨z36, z36⟩
def k48 : Kd S48 := Kd.iso (Kd.pair k36 k36) (fun x : S48 => (x.f0, x.f1))
theorem k48_open {w : World} {x : S48} {cs : List Value} (h : k48.K w x cs) : cs = [.int .u64 x.f0.f0, .int .u64 x.f0.f1, .int .u64 x.f1.f0, .int .u64 x.f1.f1] := by
  obtain ⟨_, _, rfl, s0, s2⟩ := h
  obtain rfl := k36_open s0
  obtain rfl := k36_open s2
  exact rfl
theorem k48_openM {w : World} {base : Nat} {ok : Nat → Prop} {x : S48} {cs : List Value} (h : k48.M w base ok x cs) : cs = [.int .u64 x.f0.f0, .int .u64 x.f0.f1, .int .u64 x.f1.f0, .int .u64 x.f1.f1] := by
  obtain ⟨_, _, rfl, s0, s2⟩ := h
  obtain rfl := k36_openM s0
  obtain rfl := k36_openM s2
  exact rfl
theorem k48_mk (w : World) (x : S48)  : k48.K w x [.int .u64 x.f0.f0, .int .u64 x.f0.f1, .int .u64 x.f1.f0, .int .u64 x.f1.f1] := ⟨[.int .u64 x.f0.f0, .int .u64 x.f0.f1], [.int .u64 x.f1.f0, .int .u64 x.f1.f1], rfl, (k36_mk w x.f0 ), (k36_mk w x.f1 )⟩
theorem k48_mkM (w : World) (base : Nat) (ok : Nat → Prop) (x : S48)  : k48.M w base ok x [.int .u64 x.f0.f0, .int .u64 x.f0.f1, .int .u64 x.f1.f0, .int .u64 x.f1.f1] := ⟨[.int .u64 x.f0.f0, .int .u64 x.f0.f1], [.int .u64 x.f1.f0, .int .u64 x.f1.f1], rfl, (k36_mkM w base ok x.f0 ), (k36_mkM w base ok x.f1 )⟩
def rd_T48 (xs : List S48) (i : Int) : S48 := xs.getD i.toNat z48
theorem at_T48 {w : World} {A : Option Addr} {n : Nat} {xs : List S48} (h : Kd.C k48 w A n xs) (i : Int) (h0 : 0 ≤ i) (h1 : i < n) : ∃ ad , A = some ad ∧ w.cell? (ad.add (i.toNat * 4)) = some (.int .u64 (rd_T48 xs i).f0.f0) ∧ w.cell? ⟨(ad.add (i.toNat * 4)).block, (ad.add (i.toNat * 4)).off + 1, none⟩ = some (.int .u64 (rd_T48 xs i).f0.f1) ∧ w.cell? ⟨(ad.add (i.toNat * 4)).block, (ad.add (i.toNat * 4)).off + 2, none⟩ = some (.int .u64 (rd_T48 xs i).f1.f0) ∧ w.cell? ⟨(ad.add (i.toNat * 4)).block, (ad.add (i.toNat * 4)).off + 3, none⟩ = some (.int .u64 (rd_T48 xs i).f1.f1) := by
  obtain ⟨ad, c, e, _, hK, hc0⟩ := Kd.C_get h z48 i h0 h1
  have hc : ∀ j u, c[j]? = some u → w.cell? (ad.add (i.toNat * 4 + j)) = some u := hc0
  obtain rfl := k48_open hK
  exact ⟨ad, e, hc 0 _ rfl, by rw [← add_field _ _ 1 (by omega)]; exact hc 1 _ rfl, by rw [← add_field _ _ 2 (by omega)]; exact hc 2 _ rfl, by rw [← add_field _ _ 3 (by omega)]; exact hc 3 _ rfl⟩

end Go.Proofs.YtpnpmeogffodgaaDoor.Q
end
section
namespace Go.Proofs.YtpnpmeogffodgaaDoor.Q
open Go.RowKit Go.Proofs.YtpnpmeogffodgaaDoorW.PrintWords Go.Proofs.YtpnpmeogffodgaaDoorW.PrintLast Go.Proofs.YtpnpmeogffodgaaDoorW.PrintMore

/-- The numbers of the fields: P, generator, twos, exponent, the odd primes of P - 1. -/
def fp (f : Int) : Int := if f = 0 then 97 else if f = 1 then 257 else if f = 2 then 12289 else if f = 3 then 998244353 else 0
def fg (f : Int) : Int := if f = 0 then 5 else if f = 1 then 3 else if f = 2 then 11 else if f = 3 then 3 else 0
def ft (f : Int) : Int := if f = 0 then 5 else if f = 1 then 8 else if f = 2 then 12 else if f = 3 then 23 else 0
def fe (f : Int) : Int := if f = 0 then 5 else if f = 1 then 3 else if f = 2 then 5 else if f = 3 then 3 else 0
def fl (f : Int) : List Int := if f = 0 then [3] else if f = 1 then [] else if f = 2 then [3] else if f = 3 then [7, 17] else []
/-- The table of math/bits.TrailingZeros64. -/
def db64 : List Int := [0, 1, 56, 2, 57, 49, 28, 3, 61, 58, 42, 50, 38, 29, 17, 4, 62, 47, 59, 36, 45, 43, 51, 22, 53, 39, 33, 30, 24, 18, 12, 5, 63, 55, 48, 27, 60, 41, 37, 16, 46, 35, 44, 21, 52, 32, 23, 11, 54, 26, 40, 15, 34, 20, 31, 10, 25, 14, 19, 9, 13, 8, 7, 6]
/-- The cells of the variables. -/
structure GL (w : World) : Prop where
  c0 : ∀ f : Nat, f < 4 → w.cell? ⟨2, 5 * f, none⟩ = some (.int .u64 (fp f))
  c1 : ∀ f : Nat, f < 4 → w.cell? ⟨2, 5 * f + 1, none⟩ = some (.int .u64 (fg f))
  c2 : ∀ f : Nat, f < 4 → w.cell? ⟨2, 5 * f + 2, none⟩ = some (.int .i64 (ft f))
  c3 : ∀ f : Nat, f < 4 → w.cell? ⟨2, 5 * f + 3, none⟩ = some (.int .i64 (fe f))
  c4 : ∀ f : Nat, f < 4 → ∃ A c, w.cell? ⟨2, 5 * f + 4, none⟩ = some (.slice A (fl f).length c) ∧ (fl f).length ≤ c ∧ Kd.C (Kd.int .u64) w A (fl f).length (fl f)
  d64 : ∀ i : Nat, i < 64 → w.cell? ⟨1, i, none⟩ = some (.int .u8 (db64.getD i 0))
theorem GL.below {w w1 : World} (h : GL w) (hb : Below w.heap.size w w1) : GL w1 :=
  ⟨fun f hf => pw_cell_below hb (h.c0 f hf), fun f hf => pw_cell_below hb (h.c1 f hf), fun f hf => pw_cell_below hb (h.c2 f hf), fun f hf => pw_cell_below hb (h.c3 f hf), fun f hf => by
    obtain ⟨A, c, e, hl, hC⟩ := h.c4 f hf
    exact ⟨A, c, pw_cell_below hb e, hl, Kd.C_below hC hb⟩, fun i hi => pw_cell_below hb (h.d64 i hi)⟩
theorem GL.alloc {w : World} (h : GL w) (o : Obj) : GL (w.alloc o) := h.below (below_alloc (Below.refl _ _) o)
theorem GL.drewN {w : World} (h : GL w) (n : Nat) : GL (w.drewN n) := h.below (pw_below_drewN (Below.refl _ _) n)
theorem GL.drew {w : World} (h : GL w) : GL w.drew := h.below (below_drew (Below.refl _ _))
end Go.Proofs.YtpnpmeogffodgaaDoor.Q

namespace Go.Proofs.YtpnpmeogffodgaaDoor.Q
open Go.RowKit Go.Proofs.YtpnpmeogffodgaaDoorW.PrintWords Go.Proofs.YtpnpmeogffodgaaDoorW.PrintLast Go.Proofs.YtpnpmeogffodgaaDoorW.PrintMore
set_option linter.unusedVariables false
set_option linter.unusedSimpArgs false

theorem valid_in (f : Int) (w : World) (h0 : 0 ≤ f) (h1 : f < 4) : Calls Tryd.prog 38 #[.int .i64 f] w fun e w' => e = .returned (.bool true) ∧ w = w' := by
  have c1 : decide (0 ≤ f) = true := decide_eq_true h0
  have c2 : decide (f < 4) = true := decide_eq_true h1
  go_enter Tryd.func38, Tryd.ntmps38
  go_wp2
  go_ret
  exact ⟨rfl, rfl⟩
theorem valid_out (f : Int) (w : World) (h : f < 0 ∨ 4 ≤ f) : Calls Tryd.prog 38 #[.int .i64 f] w fun e w' => e = .returned (.bool false) ∧ w = w' := by
  rcases h with h | h
  · have c1 : decide (0 ≤ f) = false := decide_eq_false (by omega)
    go_enter Tryd.func38, Tryd.ntmps38
    go_wp2
    go_ret
    exact ⟨rfl, rfl⟩
  · have c1 : decide (0 ≤ f) = true := decide_eq_true (by omega)
    have c2 : decide (f < 4) = false := decide_eq_false (by omega)
    go_enter Tryd.func38, Tryd.ntmps38
    go_wp2
    go_ret
    exact ⟨rfl, rfl⟩
/-- What 'of' hands back. -/
def OfSays (f : Int) (w : World) (e : Ending) (w' : World) : Prop :=
  ∃ A c, e = .returned (.agg #[.int .u64 (fp f), .int .u64 (fg f), .int .i64 (ft f), .int .i64 (fe f), .slice A (fl f).length c]) ∧ (fl f).length ≤ c ∧ Kd.C (Kd.int .u64) w' A (fl f).length (fl f) ∧ Below w.heap.size w w'
set_option maxHeartbeats 1000000 in
set_option maxRecDepth 100000 in
theorem of_out (f : Int) (w : World) (h : f < 0 ∨ 4 ≤ f) : Calls Tryd.prog 70 #[.int .i64 f] w (OfSays f w) := by
  have hu := Tryd.underlying94
  have hz : OfSays f w (.returned (.agg #[.int .u64 0, .int .u64 0, .int .i64 0, .int .i64 0, .slice none 0 0])) ((w.alloc (.cells #[.int .u64 0, .int .u64 0, .int .i64 0, .int .i64 0, .slice none 0 0] 94))) := by
    have h0 : f ≠ 0 ∧ f ≠ 1 ∧ f ≠ 2 ∧ f ≠ 3 := by omega
    refine ⟨none, 0, ?_, ?_, ?_, below_alloc (Below.refl _ _) _⟩
    · simp [fp, fg, ft, fe, fl, h0]
    · simp [fl, h0]
    · simp only [fl, h0, if_false]
      exact Kd.C_nil _ _
  have HZ := Aside0.mk hz
  clear hz
  go_enter Tryd.func70, Tryd.ntmps70
  go_wp2_with (go_at_call 38; refine (valid_out f _ h).mono ?_; rintro e w' ⟨rfl, rfl⟩)
  exact bodyPost_ret (by simp [results, Tryd.results70, go_sem, hu]) rfl HZ.out
set_option maxHeartbeats 1000000 in
set_option maxRecDepth 100000 in
theorem of_lit (f : Nat) (w : World) (o : Nat) (ho : 5 * f = o) (h1 : f < 4) (A : Option Addr) (c n : Nat) (a0 a1 a2 a3 : Int)
    (e0 : w.cell? ⟨2, o, none⟩ = some (.int .u64 a0)) (e1 : w.cell? ⟨2, o + 1, none⟩ = some (.int .u64 a1)) (e2 : w.cell? ⟨2, o + 2, none⟩ = some (.int .i64 a2))
    (e3 : w.cell? ⟨2, o + 3, none⟩ = some (.int .i64 a3)) (e4 : w.cell? ⟨2, o + 4, none⟩ = some (.slice A n c)) :
    Calls Tryd.prog 70 #[.int .i64 f] w fun e w' => e = .returned (.agg #[.int .u64 a0, .int .u64 a1, .int .i64 a2, .int .i64 a3, .slice A n c]) ∧ Below w.heap.size w w' := by
  have hu := Tryd.underlying94
  have hu2 := Tryd.underlying101
  have g0 := fun O => pw_cell_below (below_alloc (Below.refl _ w) O) e0
  have g1 := fun O => pw_cell_below (below_alloc (Below.refl _ w) O) e1
  have g2 := fun O => pw_cell_below (below_alloc (Below.refl _ w) O) e2
  have g3 := fun O => pw_cell_below (below_alloc (Below.refl _ w) O) e3
  have g4 := fun O => pw_cell_below (below_alloc (Below.refl _ w) O) e4
  clear e0 e1 e2 e3 e4
  obtain ⟨h, hh⟩ | ⟨h, hh⟩ | ⟨h, hh⟩ | ⟨h, hh⟩ : (f = 0 ∧ o = 0) ∨ (f = 1 ∧ o = 5) ∨ (f = 2 ∧ o = 10) ∨ (f = 3 ∧ o = 15) := by omega
  all_goals
    subst h; subst hh; clear ho h1
    go_enter Tryd.func70, Tryd.ntmps70
    go_wp2_with (go_at_call 38; refine (valid_in _ _ (by decide) (by decide)).mono ?_; rintro e w' ⟨rfl, rfl⟩)
    exact bodyPost_ret (v := .agg #[.int .u64 a0, .int .u64 a1, .int .i64 a2, .int .i64 a3, .slice A n c]) (by simp [results, Tryd.results70, go_sem, hu]) rfl ⟨rfl, by repeat (first | exact Below.refl _ _ | apply below_alloc | refine below_set ?_ (Nat.le_refl _))⟩
theorem of_calls (f : Int) (w : World) (hG : GL w) : Calls Tryd.prog 70 #[.int .i64 f] w (OfSays f w) := by
  by_cases h : f < 0 ∨ 4 ≤ f
  · exact of_out f w h
  · obtain ⟨n, rfl⟩ := Int.eq_ofNat_of_zero_le (by omega : 0 ≤ f)
    have h1 : n < 4 := by omega
    obtain ⟨A, c, e4, hl, hC⟩ := hG.c4 n h1
    refine (of_lit n w _ rfl h1 A c _ _ _ _ _ (hG.c0 n h1) (hG.c1 n h1) (hG.c2 n h1) (hG.c3 n h1) e4).mono fun e w' ⟨he, hb⟩ => ?_
    exact ⟨A, c, he, hl, Kd.C_below hC hb, hb⟩
end Go.Proofs.YtpnpmeogffodgaaDoor.Q

namespace Go.Proofs.YtpnpmeogffodgaaDoor.Q
open Go.RowKit Go.Proofs.YtpnpmeogffodgaaDoorW.PrintWords Go.Proofs.YtpnpmeogffodgaaDoorW.PrintLast Go.Proofs.YtpnpmeogffodgaaDoorW.PrintMore
set_option linter.unusedVariables false
set_option linter.unusedSimpArgs false

def field_P.f (f : Int) : Option Int := some (fp f)
set_option maxHeartbeats 1000000 in
set_option maxRecDepth 100000 in
theorem field_P.calls (f : Int) (r : Int) (w : World) (hrG : GL w) (h : field_P.f f = some r) : Calls Tryd.prog 58 #[.int .i64 f] w fun e w' => e = .returned (.int .u64 r) ∧ Below w.heap.size w w' := by
  obtain rfl := Option.some.inj h
  clear h
  have hu := Tryd.underlying94
  have hfl : ∀ (x0 x1 x2 x3 : Int) (x4 : Value) (W : World), (Instr.field 94 (.agg #[.int .u64 x0, .int .u64 x1, .int .i64 x2, .int .i64 x3, x4]) 0).run Tryd.prog W = .ok (.int .u64 x0) W := fun x0 x1 x2 x3 x4 W => by kernel_rfl
  have HG := Aside0.mk hrG
  clear hrG
  go_enter Tryd.func58, Tryd.ntmps58
  go_wp2_with (go_at_call 70; refine (of_calls f _ HG.out).mono ?_; rintro e w' ⟨A, c, rfl, _, _, hb⟩)
  go_ret
  exact ⟨rfl, by first | assumption | exact hb⟩

def field_Generator.f (f : Int) : Option Int := some (fg f)
set_option maxHeartbeats 1000000 in
set_option maxRecDepth 100000 in
theorem field_Generator.calls (f : Int) (r : Int) (w : World) (hrG : GL w) (h : field_Generator.f f = some r) : Calls Tryd.prog 65 #[.int .i64 f] w fun e w' => e = .returned (.int .u64 r) ∧ Below w.heap.size w w' := by
  obtain rfl := Option.some.inj h
  clear h
  have hu := Tryd.underlying94
  have hfl : ∀ (x0 x1 x2 x3 : Int) (x4 : Value) (W : World), (Instr.field 94 (.agg #[.int .u64 x0, .int .u64 x1, .int .i64 x2, .int .i64 x3, x4]) 1).run Tryd.prog W = .ok (.int .u64 x1) W := fun x0 x1 x2 x3 x4 W => by kernel_rfl
  have HG := Aside0.mk hrG
  clear hrG
  go_enter Tryd.func65, Tryd.ntmps65
  go_wp2_with (go_at_call 70; refine (of_calls f _ HG.out).mono ?_; rintro e w' ⟨A, c, rfl, _, _, hb⟩)
  go_ret
  exact ⟨rfl, by first | assumption | exact hb⟩

def field_Exponent.f (f : Int) : Option Int := some (fe f)
set_option maxHeartbeats 1000000 in
set_option maxRecDepth 100000 in
theorem field_Exponent.calls (f : Int) (r : Int) (w : World) (hrG : GL w) (h : field_Exponent.f f = some r) : Calls Tryd.prog 66 #[.int .i64 f] w fun e w' => e = .returned (.int .i64 r) ∧ Below w.heap.size w w' := by
  obtain rfl := Option.some.inj h
  clear h
  have hu := Tryd.underlying94
  have hfl : ∀ (x0 x1 x2 x3 : Int) (x4 : Value) (W : World), (Instr.field 94 (.agg #[.int .u64 x0, .int .u64 x1, .int .i64 x2, .int .i64 x3, x4]) 3).run Tryd.prog W = .ok (.int .i64 x3) W := fun x0 x1 x2 x3 x4 W => by kernel_rfl
  have HG := Aside0.mk hrG
  clear hrG
  go_enter Tryd.func66, Tryd.ntmps66
  go_wp2_with (go_at_call 70; refine (of_calls f _ HG.out).mono ?_; rintro e w' ⟨A, c, rfl, _, _, hb⟩)
  go_ret
  exact ⟨rfl, by first | assumption | exact hb⟩
end Go.Proofs.YtpnpmeogffodgaaDoor.Q
end
section
namespace Go.Proofs.YtpnpmeogffodgaaDoor.Opn
open Go.RowKit Go.Deep Go.Proofs.YtpnpmeogffodgaaDoorW.PrintWords
variable {H : Type} {enc : TypeId × Value → H} {P : Program} {W : World}

theorem add_add_ (a : Addr) (x y : Nat) : (a.add x).add y = a.add (x + y) := by
  unfold Addr.add
  by_cases hx : x = 0 <;> by_cases hy : y = 0 <;> simp [hx, hy, Nat.add_assoc]
/-- Whatever is read at type t is of the kind d; 'wf': what is known of it besides. -/
def Opn {α : Type} (enc : TypeId × Value → H) (P : Program) (W : World) (t : TypeId) (d : Kd α) (wf : α → Prop) : Prop :=
  ∀ fuel cs x, DataW.trod enc P W 0 (fun _ => true) true fuel t cs = some x → ∃ y, d.K W y cs ∧ wf y
theorem Opn.int {k : IntKind} {t : TypeId} (ht : P.underlying t = some (.int k)) : Opn enc P W t (Kd.int k) (fun y => (Lit.int k y).wf = true) := by
  intro fuel cs x h
  obtain ⟨n, rfl, _, hn⟩ := DataW.trod_int ht h
  exact ⟨n, rfl, hn⟩
theorem Opn.imp {α : Type} {t : TypeId} {d : Kd α} {wf wf' : α → Prop} (h : Opn enc P W t d wf) (hw : ∀ y, wf y → wf' y) : Opn enc P W t d wf' := by
  intro fuel cs x hx
  obtain ⟨y, hy, hz⟩ := h fuel cs x hx
  exact ⟨y, hy, hw y hz⟩
theorem Opn.slice {α : Type} {t e : TypeId} {d : Kd α} {wf : α → Prop} (ht : P.underlying t = some (.slice e)) (hs : P.cellsOf e = d.sz) (he : Opn enc P W e d wf) :
    Opn enc P W t (Kd.slice e d) (fun l => ∀ y ∈ l, wf y) := by
  intro fuel cs x h
  rcases open_slice ht h with ⟨rfl, _⟩ | ⟨a, len, cap, m, n, D, Pl, rfl, _, hl, hm, hmm, _, hx⟩
  · exact ⟨[], ⟨none, 0, rfl, Nat.le_refl _, Kd.C_nil d W⟩, fun y hy => by cases hy⟩
  · have hlm : len ≤ m := by rw [hmm]; split <;> omega
    have each : ∀ i : Fin len, ∃ y : α, ∃ c, W.cells? 0 (a.add (i.1 * d.sz)) d.sz = some c ∧ d.K W y c ∧ wf y := by
      intro i
      obtain ⟨c, hc, ht⟩ := hx i.1 (by omega)
      obtain ⟨y, hy, hz⟩ := he _ _ _ ht
      exact ⟨y, c, by rw [← hs]; exact hc, hy, hz⟩
    obtain ⟨f, hf⟩ := Classical.axiomOfChoice each
    have hlen : (List.ofFn f).length = len := List.length_ofFn
    refine ⟨List.ofFn f, ⟨some a, cap, by rw [hlen], by omega, ?_⟩, ?_⟩
    · rw [hlen]
      refine ⟨hlen, by unfold maxLen at hm; omega, fun _ => ⟨a, rfl, fun j p hp => ?_⟩⟩
      have hj : j < len := by have := (List.getElem?_eq_some_iff.1 hp).1; omega
      obtain ⟨c, hc, hk, _⟩ := hf ⟨j, hj⟩
      have hpj : p = f ⟨j, hj⟩ := by
        rw [List.getElem?_eq_getElem (by omega)] at hp
        rw [← Option.some.inj hp]
        exact List.getElem_ofFn ..
      subst hpj
      refine ⟨c, d.K_len hk, hk, fun i u hu => ?_⟩
      have hi : i < d.sz := by have := (List.getElem?_eq_some_iff.1 hu).1; rw [d.K_len hk] at this; exact this
      have hcc := (World.cells?_some hc).2.2 i hi
      rw [hu] at hcc
      rw [← hcc]
      rw [add_add_]
    · intro y hy
      obtain ⟨i, hi, rfl⟩ := List.mem_iff_getElem.1 hy
      rw [List.getElem_ofFn]
      exact (hf _).choose_spec.2.2
end Go.Proofs.YtpnpmeogffodgaaDoor.Opn
namespace Go.Proofs.YtpnpmeogffodgaaDoor.Q
open Go.RowKit Go.ChangeShapes Go.WideShapes
open Go.Proofs.YtpnpmeogffodgaaDoorW.PrintWords Go.Proofs.YtpnpmeogffodgaaDoorW.PrintLast Go.Proofs.YtpnpmeogffodgaaDoorW.PrintMore
open Go.Proofs.YtpnpmeogffodgaaDoor.Opn
set_option linter.unusedVariables false
set_option linter.unusedSimpArgs false

theorem own : ownKnob Tryd.prog.godebug = Option.none := by kernel_rfl
theorem laidOut : laidOutB Tryd.prog = true := by kernel_rfl
theorem cells34 : Tryd.prog.cellsOf 34 = 1 := by kernel_rfl
theorem cells36 : Tryd.prog.cellsOf 36 = 2 := by kernel_rfl
set_option maxRecDepth 100000 in
theorem flat36 {H : Type} {enc : TypeId × Value → H} {W : World} : ∀ fuel cs x, DataW.trod enc Tryd.prog W 0 (fun _ => true) true fuel 36 cs = some x → ∃ (a0 : Int) (a1 : Int), cs = [.int .u64 a0, .int .u64 a1] ∧ (Lit.int .u64 a0).wf = true ∧ (Lit.int .u64 a1).wf = true := by
  intro fuel cs x h
  obtain ⟨xs, n, rfl, _, hl, hn, hf⟩ := DataW.trod_array Tryd.underlying36 h
  rw [cells36] at hl
  match cs, hl with
  | [q0, q1], _ =>
    have hx : xs.length = 2 := hn
    have e0 : DataW.trod enc Tryd.prog W 0 (fun _ => true) true n 34 (([q0, q1].drop 0).take (Tryd.prog.cellsOf 34)) = xs[0]? := by have h_ := hf 0 (by decide); simpa only [cells34, Nat.mul_one, Nat.zero_mul, Nat.reduceMul] using h_
    rw [cells34, List.getElem?_eq_getElem (by omega)] at e0
    have e1 : DataW.trod enc Tryd.prog W 0 (fun _ => true) true n 34 (([q0, q1].drop 1).take (Tryd.prog.cellsOf 34)) = xs[1]? := by have h_ := hf 1 (by decide); simpa only [cells34, Nat.mul_one, Nat.zero_mul, Nat.reduceMul] using h_
    rw [cells34, List.getElem?_eq_getElem (by omega)] at e1
    obtain ⟨a0, r0, _, w0⟩ := DataW.trod_int Tryd.underlying34 e0
    simp only [List.drop_succ_cons, List.drop_zero, List.take_succ_cons, List.take_zero, List.cons.injEq, and_true] at r0
    obtain rfl := r0
    obtain ⟨a1, r1, _, w1⟩ := DataW.trod_int Tryd.underlying34 e1
    simp only [List.drop_succ_cons, List.drop_zero, List.take_succ_cons, List.take_zero, List.cons.injEq, and_true] at r1
    obtain rfl := r1
    exact ⟨a0, a1, rfl, w0, w1⟩
def wf36 (x : S36) : Prop := ((Lit.int .u64 x.f0).wf = true) ∧ ((Lit.int .u64 x.f1).wf = true)
set_option maxRecDepth 100000 in
theorem opn36 {H : Type} {enc : TypeId × Value → H} {W : World} : Opn enc Tryd.prog W 36 k36 wf36 := by
  intro fuel cs x h
  obtain ⟨a0, a1, rfl, w0, w1⟩ := flat36 fuel cs x h
  exact ⟨(⟨a0, a1⟩ : S36), k36_mk W _ , ⟨w0, w1⟩⟩
set_option maxRecDepth 100000 in
theorem opn22 {H : Type} {enc : TypeId × Value → H} {W : World} : Opn enc Tryd.prog W 22 (Kd.slice 36 k36) (fun x => (∀ y ∈ x, wf36 y)) := Opn.slice Tryd.underlying22 cells36 opn36
theorem cells3 : Tryd.prog.cellsOf 3 = 1 := by kernel_rfl
theorem cells22 : Tryd.prog.cellsOf 22 = 1 := by kernel_rfl
theorem cells47 : Tryd.prog.cellsOf 47 = 7 := by kernel_rfl
set_option maxRecDepth 100000 in
theorem flat47 {H : Type} {enc : TypeId × Value → H} {W : World} : ∀ fuel cs x, DataW.trod enc Tryd.prog W 0 (fun _ => true) true fuel 47 cs = some x → ∃ (a0 : Int) (a1 : Int) (a2 : Int) (a3 : Int) (a4 : Int) (A5 : Option Addr) (c5 : Nat) (l5 : (List S36)) (A6 : Option Addr) (c6 : Nat) (l6 : (List S36)), cs = [.int .i64 a0, .int .u64 a1, .int .u64 a2, .int .u64 a3, .int .u64 a4, .slice A5 l5.length c5, .slice A6 l6.length c6] ∧ (Lit.int .i64 a0).wf = true ∧ (Lit.int .u64 a1).wf = true ∧ (Lit.int .u64 a2).wf = true ∧ (Lit.int .u64 a3).wf = true ∧ (Lit.int .u64 a4).wf = true ∧ l5.length ≤ c5 ∧ Kd.C k36 W A5 l5.length l5 ∧ (∀ y ∈ l5, wf36 y) ∧ l6.length ≤ c6 ∧ Kd.C k36 W A6 l6.length l6 ∧ (∀ y ∈ l6, wf36 y) := by
  intro fuel cs x h
  obtain ⟨xs, n, rfl, _, hl, hn, hf⟩ := DataW.trod_struct Tryd.underlying47 h
  rw [cells47] at hl
  match cs, hl with
  | [q0, q1, q2, q3, q4, q5, q6], _ =>
    have hx : xs.length = 5 := hn
    have e0 : DataW.trod enc Tryd.prog W 0 (fun _ => true) true n 3 (([q0, q1, q2, q3, q4, q5, q6].drop 0).take (Tryd.prog.cellsOf 3)) = xs[0]? := hf 0 _ rfl
    rw [cells3, List.getElem?_eq_getElem (by omega)] at e0
    have e1 : DataW.trod enc Tryd.prog W 0 (fun _ => true) true n 36 (([q0, q1, q2, q3, q4, q5, q6].drop 1).take (Tryd.prog.cellsOf 36)) = xs[1]? := hf 1 _ rfl
    rw [cells36, List.getElem?_eq_getElem (by omega)] at e1
    have e2 : DataW.trod enc Tryd.prog W 0 (fun _ => true) true n 36 (([q0, q1, q2, q3, q4, q5, q6].drop 3).take (Tryd.prog.cellsOf 36)) = xs[2]? := hf 2 _ rfl
    rw [cells36, List.getElem?_eq_getElem (by omega)] at e2
    have e3 : DataW.trod enc Tryd.prog W 0 (fun _ => true) true n 22 (([q0, q1, q2, q3, q4, q5, q6].drop 5).take (Tryd.prog.cellsOf 22)) = xs[3]? := hf 3 _ rfl
    rw [cells22, List.getElem?_eq_getElem (by omega)] at e3
    have e4 : DataW.trod enc Tryd.prog W 0 (fun _ => true) true n 22 (([q0, q1, q2, q3, q4, q5, q6].drop 6).take (Tryd.prog.cellsOf 22)) = xs[4]? := hf 4 _ rfl
    rw [cells22, List.getElem?_eq_getElem (by omega)] at e4
    obtain ⟨a0, r0, _, w0⟩ := DataW.trod_int Tryd.underlying3 e0
    simp only [List.drop_succ_cons, List.drop_zero, List.take_succ_cons, List.take_zero, List.cons.injEq, and_true] at r0
    obtain rfl := r0
    obtain ⟨a1, a2, r1, w1, w2⟩ := flat36 _ _ _ e1
    simp only [List.drop_succ_cons, List.drop_zero, List.take_succ_cons, List.take_zero, List.cons.injEq, and_true] at r1
    obtain ⟨rfl, rfl⟩ := r1
    obtain ⟨a3, a4, r2, w3, w4⟩ := flat36 _ _ _ e2
    simp only [List.drop_succ_cons, List.drop_zero, List.take_succ_cons, List.take_zero, List.cons.injEq, and_true] at r2
    obtain ⟨rfl, rfl⟩ := r2
    obtain ⟨l5, ⟨A5, c5, r3, hl5, hC5⟩, w5⟩ := opn22 _ _ _ e3
    simp only [List.drop_succ_cons, List.drop_zero, List.take_succ_cons, List.take_zero, List.cons.injEq, and_true] at r3
    obtain rfl := r3
    obtain ⟨l6, ⟨A6, c6, r4, hl6, hC6⟩, w6⟩ := opn22 _ _ _ e4
    simp only [List.drop_succ_cons, List.drop_zero, List.take_succ_cons, List.take_zero, List.cons.injEq, and_true] at r4
    obtain rfl := r4
    exact ⟨a0, a1, a2, a3, a4, A5, c5, l5, A6, c6, l6, rfl, w0, w1, w2, w3, w4, hl5, hC5, w5, hl6, hC6, w6⟩
set_option maxRecDepth 100000 in
theorem opn34 {H : Type} {enc : TypeId × Value → H} {W : World} : Opn enc Tryd.prog W 34 (Kd.int .u64) (fun x => (Lit.int .u64 x).wf = true) := Opn.int Tryd.underlying34
set_option maxRecDepth 100000 in
theorem opn39 {H : Type} {enc : TypeId × Value → H} {W : World} : Opn enc Tryd.prog W 39 (Kd.slice 34 (Kd.int .u64)) (fun x => (∀ y ∈ x, (Lit.int .u64 y).wf = true)) := Opn.slice Tryd.underlying39 cells34 opn34
theorem cells35 : Tryd.prog.cellsOf 35 = 2 := by kernel_rfl
set_option maxRecDepth 100000 in
theorem flat35 {H : Type} {enc : TypeId × Value → H} {W : World} : ∀ fuel cs x, DataW.trod enc Tryd.prog W 0 (fun _ => true) true fuel 35 cs = some x → ∃ (a0 : Int) (a1 : Int), cs = [.int .u64 a0, .int .u64 a1] ∧ (Lit.int .u64 a0).wf = true ∧ (Lit.int .u64 a1).wf = true := by
  intro fuel cs x h
  obtain ⟨xs, n, rfl, _, hl, hn, hf⟩ := DataW.trod_array Tryd.underlying35 h
  rw [cells35] at hl
  match cs, hl with
  | [q0, q1], _ =>
    have hx : xs.length = 2 := hn
    have e0 : DataW.trod enc Tryd.prog W 0 (fun _ => true) true n 34 (([q0, q1].drop 0).take (Tryd.prog.cellsOf 34)) = xs[0]? := by have h_ := hf 0 (by decide); simpa only [cells34, Nat.mul_one, Nat.zero_mul, Nat.reduceMul] using h_
    rw [cells34, List.getElem?_eq_getElem (by omega)] at e0
    have e1 : DataW.trod enc Tryd.prog W 0 (fun _ => true) true n 34 (([q0, q1].drop 1).take (Tryd.prog.cellsOf 34)) = xs[1]? := by have h_ := hf 1 (by decide); simpa only [cells34, Nat.mul_one, Nat.zero_mul, Nat.reduceMul] using h_
    rw [cells34, List.getElem?_eq_getElem (by omega)] at e1
    obtain ⟨a0, r0, _, w0⟩ := DataW.trod_int Tryd.underlying34 e0
    simp only [List.drop_succ_cons, List.drop_zero, List.take_succ_cons, List.take_zero, List.cons.injEq, and_true] at r0
    obtain rfl := r0
    obtain ⟨a1, r1, _, w1⟩ := DataW.trod_int Tryd.underlying34 e1
    simp only [List.drop_succ_cons, List.drop_zero, List.take_succ_cons, List.take_zero, List.cons.injEq, and_true] at r1
    obtain rfl := r1
    exact ⟨a0, a1, rfl, w0, w1⟩
set_option maxRecDepth 100000 in
theorem opn24 {H : Type} {enc : TypeId × Value → H} {W : World} : Opn enc Tryd.prog W 24 (Kd.slice 22 (Kd.slice 36 k36)) (fun x => (∀ y ∈ x, (∀ y_ ∈ y, wf36 y_))) := Opn.slice Tryd.underlying24 cells22 opn22
theorem cells24 : Tryd.prog.cellsOf 24 = 1 := by kernel_rfl
theorem cells26 : Tryd.prog.cellsOf 26 = 4 := by kernel_rfl
set_option maxRecDepth 100000 in
theorem flat26 {H : Type} {enc : TypeId × Value → H} {W : World} : ∀ fuel cs x, DataW.trod enc Tryd.prog W 0 (fun _ => true) true fuel 26 cs = some x → ∃ (a0 : Int) (a1 : Int) (a2 : Int) (A3 : Option Addr) (c3 : Nat) (l3 : (List (List S36))), cs = [.int .i64 a0, .int .i64 a1, .int .i64 a2, .slice A3 l3.length c3] ∧ (Lit.int .i64 a0).wf = true ∧ (Lit.int .i64 a1).wf = true ∧ (Lit.int .i64 a2).wf = true ∧ l3.length ≤ c3 ∧ Kd.C (Kd.slice 36 k36) W A3 l3.length l3 ∧ (∀ y ∈ l3, (∀ y_ ∈ y, wf36 y_)) := by
  intro fuel cs x h
  obtain ⟨xs, n, rfl, _, hl, hn, hf⟩ := DataW.trod_struct Tryd.underlying26 h
  rw [cells26] at hl
  match cs, hl with
  | [q0, q1, q2, q3], _ =>
    have hx : xs.length = 4 := hn
    have e0 : DataW.trod enc Tryd.prog W 0 (fun _ => true) true n 3 (([q0, q1, q2, q3].drop 0).take (Tryd.prog.cellsOf 3)) = xs[0]? := hf 0 _ rfl
    rw [cells3, List.getElem?_eq_getElem (by omega)] at e0
    have e1 : DataW.trod enc Tryd.prog W 0 (fun _ => true) true n 3 (([q0, q1, q2, q3].drop 1).take (Tryd.prog.cellsOf 3)) = xs[1]? := hf 1 _ rfl
    rw [cells3, List.getElem?_eq_getElem (by omega)] at e1
    have e2 : DataW.trod enc Tryd.prog W 0 (fun _ => true) true n 3 (([q0, q1, q2, q3].drop 2).take (Tryd.prog.cellsOf 3)) = xs[2]? := hf 2 _ rfl
    rw [cells3, List.getElem?_eq_getElem (by omega)] at e2
    have e3 : DataW.trod enc Tryd.prog W 0 (fun _ => true) true n 24 (([q0, q1, q2, q3].drop 3).take (Tryd.prog.cellsOf 24)) = xs[3]? := hf 3 _ rfl
    rw [cells24, List.getElem?_eq_getElem (by omega)] at e3
    obtain ⟨a0, r0, _, w0⟩ := DataW.trod_int Tryd.underlying3 e0
    simp only [List.drop_succ_cons, List.drop_zero, List.take_succ_cons, List.take_zero, List.cons.injEq, and_true] at r0
    obtain rfl := r0
    obtain ⟨a1, r1, _, w1⟩ := DataW.trod_int Tryd.underlying3 e1
    simp only [List.drop_succ_cons, List.drop_zero, List.take_succ_cons, List.take_zero, List.cons.injEq, and_true] at r1
    obtain rfl := r1
    obtain ⟨a2, r2, _, w2⟩ := DataW.trod_int Tryd.underlying3 e2
    simp only [List.drop_succ_cons, List.drop_zero, List.take_succ_cons, List.take_zero, List.cons.injEq, and_true] at r2
    obtain rfl := r2
    obtain ⟨l3, ⟨A3, c3, r3, hl3, hC3⟩, w3⟩ := opn24 _ _ _ e3
    simp only [List.drop_succ_cons, List.drop_zero, List.take_succ_cons, List.take_zero, List.cons.injEq, and_true] at r3
    obtain rfl := r3
    exact ⟨a0, a1, a2, A3, c3, l3, rfl, w0, w1, w2, hl3, hC3, w3⟩
def wf26 (x : S26) : Prop := ((Lit.int .i64 x.f0).wf = true) ∧ ((Lit.int .i64 x.f1).wf = true) ∧ ((Lit.int .i64 x.f2).wf = true) ∧ ((∀ y ∈ x.f3, (∀ y_ ∈ y, wf36 y_)))
set_option maxRecDepth 100000 in
theorem opn26 {H : Type} {enc : TypeId × Value → H} {W : World} : Opn enc Tryd.prog W 26 k26 wf26 := by
  intro fuel cs x h
  obtain ⟨a0, a1, a2, A3, c3, l3, rfl, w0, w1, w2, hl3, hC3, w3⟩ := flat26 fuel cs x h
  exact ⟨(⟨a0, a1, a2, l3⟩ : S26), k26_mk W _ hl3 hC3, ⟨w0, w1, w2, w3⟩⟩
end Go.Proofs.YtpnpmeogffodgaaDoor.Q
end
section
namespace Go.Proofs.YtpnpmeogffodgaaDoor.Q
open Go.ChangeShapes Go.WideShapes Go.ChangeAt Go.WideMaps Go.WideElems Go.RowKit
open Go.Proofs.YtpnpmeogffodgaaDoorW.PrintWords Go.Proofs.YtpnpmeogffodgaaDoorW.PrintLast Go.Proofs.YtpnpmeogffodgaaDoorW.PrintMore
open Go.Proofs.YtpnpmeogffodgaaDoor.Opn
set_option linter.unusedVariables false

theorem gFields : Tryd.prog.globalNamed "attestor/field.fields" = some 2 := by kernel_rfl
theorem tFields : (Tryd.prog.globals[2]?).map (·.type) = some 101 := by kernel_rfl
theorem gTab : Tryd.prog.globalNamed "math/bits.deBruijn64tab" = some 1 := by kernel_rfl
theorem tTab : (Tryd.prog.globals[1]?).map (·.type) = some 100 := by kernel_rfl
theorem cellsB : Tryd.prog.cellsOf 5 = 1 := by kernel_rfl
abbrev laid1 : List (String × DataW Unit) := [("attestor/field.fields", Rows.laid_attestor_field_fields), ("math/bits.deBruijn32tab", Rows.laid_math_bits_deBruijn32tab), ("math/bits.deBruijn64tab", Rows.laid_math_bits_deBruijn64tab)]
theorem cellsI : Tryd.prog.cellsOf 3 = 1 := by kernel_rfl
theorem cellsU : Tryd.prog.cellsOf 34 = 1 := by kernel_rfl
theorem cellsS : Tryd.prog.cellsOf 39 = 1 := by kernel_rfl
theorem cellsP : Tryd.prog.cellsOf 94 = 5 := by kernel_rfl
/-- A slice of numbers whose data are known. -/
theorem ints_of {H : Type} {enc : TypeId × Value → H} {W : World} {spare : Nat → Bool} {held : Bool} {fuel : Nat} {cs : List Value} {x : DataW H × List MemPlace} {vs : List Int} {r : List (DataW H)}
    (h : DataW.trod enc Tryd.prog W 0 spare held fuel 39 cs = some x) (hx : x.1 = .slice (vs.map fun v => .lit (.int .u64 v)) r) :
    ∃ A c, cs = [.slice A vs.length c] ∧ vs.length ≤ c ∧ Kd.C (Kd.int .u64) W A vs.length vs := by
  rcases Deep.open_slice1 Tryd.underlying39 cellsU h with ⟨_, rfl⟩ | ⟨a, len, cap, m, n, V, D, Pl, rfl, _, hl, hm, hmm, rfl, he⟩
  · cases hx
  · simp only [DataW.slice.injEq] at hx
    have hlen : len = vs.length := by have := congrArg List.length hx.1; simpa using this
    subst hlen
    have hlm : vs.length ≤ m := by rw [hmm]; split <;> omega
    refine ⟨some a, cap, rfl, hl, rfl, by unfold maxLen at hm; omega, fun _ => ⟨a, rfl, fun j p hp => ?_⟩⟩
    have hj : j < vs.length := (List.getElem?_eq_some_iff.1 hp).1
    obtain ⟨h1, h2⟩ := he j (by omega)
    obtain ⟨k, e1, e2, _⟩ := DataW.trod_int Tryd.underlying34 h2
    have hD : D j = .lit (.int .u64 p) := by
      have hpe : vs[j] = p := by have := hp; rw [List.getElem?_eq_getElem hj] at this; exact Option.some.inj this
      have := congrArg (fun l => l[j]?) hx.1
      simpa [hj, hpe] using this
    have hk : k = p := by
      have : (DataW.lit (.int .u64 p) : DataW H) = .lit (.int .u64 k) := by rw [← hD]; exact congrArg Prod.fst e2
      simpa using this.symm
    subst hk
    refine ⟨[.int .u64 k], rfl, rfl, fun i u hu => ?_⟩
    match i, hu with
    | 0, hu =>
      obtain rfl : Value.int .u64 k = u := by simpa using hu
      have : V j = .int .u64 k := by simpa using e1
      rw [← this]
      have h9 : j * (Kd.int IntKind.u64).sz = j := Nat.mul_one j
      show W.cell? ((a.add (j * (Kd.int IntKind.u64).sz)).add 0) = _
      rw [h9, add_add_]
      exact h1
theorem nil_of {H : Type} {enc : TypeId × Value → H} {W : World} {spare : Nat → Bool} {held : Bool} {fuel : Nat} {cs : List Value} {x : DataW H × List MemPlace}
    (h : DataW.trod enc Tryd.prog W 0 spare held fuel 39 cs = some x) (hx : x.1 = .nil) :
    ∃ A c, cs = [.slice A ([] : List Int).length c] ∧ ([] : List Int).length ≤ c ∧ Kd.C (Kd.int .u64) W A ([] : List Int).length [] := by
  rcases Deep.open_slice1 Tryd.underlying39 cellsU h with ⟨rfl, _⟩ | ⟨a, len, cap, m, n, V, D, Pl, rfl, _, hl, hm, hmm, rfl, he⟩
  · exact ⟨none, 0, rfl, Nat.le_refl _, Kd.C_nil _ _⟩
  · cases hx
/-- The numbers of field f, as the condition spells them. -/
def rowData {H : Type} (f : Nat) : DataW H := .agg [.lit (.int .u64 (fp f)), .lit (.int .u64 (fg f)), .lit (.int .i64 (ft f)), .lit (.int .i64 (fe f)), if f = 1 then .nil else .slice ((fl f).map fun v => .lit (.int .u64 v)) []]
set_option maxRecDepth 100000 in
/-- The condition gives the fact. -/
theorem gl_of_laid {W : World} (h : laidMetH Tryd.prog laid1 W) : GL W := by
  rw [MakeChecks.laidMetH_plain _ _ _ (by kernel_rfl)] at h
  obtain ⟨ps, ⟨g0, t0, cs0, f0, p0, q0, hg0, ht0, hv0, hd0, ⟨g1, t1, cs1, f1, p1, q1, hg1, ht1, hv1, hd1, ⟨g2, t2, cs2, f2, p2, q2, hg2, ht2, hv2, hd2, _, _⟩, _⟩, _⟩, _, _⟩ := h
  obtain rfl := Option.some.inj (gFields.symm.trans hg0)
  obtain rfl := Option.some.inj (tFields.symm.trans ht0)
  obtain ⟨xs, m1, rfl, hx1, hlen, hn, hel⟩ := DataW.trod_array Tryd.underlying101 hd0
  simp only [Prod.mk.injEq, Rows.laid_attestor_field_fields, DataW.agg.injEq] at hx1
  have key : ∀ f : Nat, f < 4 → ∃ A c, (cs0.toList.drop (f * 5)).take 5 = [.int .u64 (fp f), .int .u64 (fg f), .int .i64 (ft f), .int .i64 (fe f), .slice A (fl f).length c] ∧ (fl f).length ≤ c ∧ Kd.C (Kd.int .u64) W A (fl f).length (fl f) := by
    intro f hf
    have hj1 := hel f hf
    rw [List.getElem?_eq_getElem (by omega : f < xs.length), cellsP] at hj1
    have hdat : (xs[f]).1 = rowData f := by
      have : (xs.map (·.1))[f]? = some (rowData f) := by
        rw [← hx1.1]
        rcases (show f = 0 ∨ f = 1 ∨ f = 2 ∨ f = 3 by omega) with rfl | rfl | rfl | rfl <;> rfl
      rw [List.getElem?_map, List.getElem?_eq_getElem (by omega : f < xs.length), Option.map_some] at this
      exact Option.some.inj this
    generalize hcs : (cs0.toList.drop (f * 5)).take 5 = cs at hj1 ⊢
    obtain ⟨ys, n, _, hy, hl, hny, hf2⟩ := DataW.trod_struct Tryd.underlying94 hj1
    rw [cellsP] at hl
    match cs, hl with
    | [c0, c1, c2, c3, c4], _ =>
      have e0 : DataW.trod _ Tryd.prog W 0 _ _ n 34 (([c0, c1, c2, c3, c4].drop 0).take (Tryd.prog.cellsOf 34)) = ys[0]? := hf2 0 _ rfl
      have e1 : DataW.trod _ Tryd.prog W 0 _ _ n 34 (([c0, c1, c2, c3, c4].drop 1).take (Tryd.prog.cellsOf 34)) = ys[1]? := hf2 1 _ rfl
      have e2 : DataW.trod _ Tryd.prog W 0 _ _ n 3 (([c0, c1, c2, c3, c4].drop 2).take (Tryd.prog.cellsOf 3)) = ys[2]? := hf2 2 _ rfl
      have e3 : DataW.trod _ Tryd.prog W 0 _ _ n 3 (([c0, c1, c2, c3, c4].drop 3).take (Tryd.prog.cellsOf 3)) = ys[3]? := hf2 3 _ rfl
      have e4 : DataW.trod _ Tryd.prog W 0 _ _ n 39 (([c0, c1, c2, c3, c4].drop 4).take (Tryd.prog.cellsOf 39)) = ys[4]? := hf2 4 _ rfl
      have x5 : ys.length = 5 := hny
      rw [cellsU, List.getElem?_eq_getElem (by omega)] at e0 e1
      rw [cellsI, List.getElem?_eq_getElem (by omega)] at e2 e3
      rw [cellsS, List.getElem?_eq_getElem (by omega)] at e4
      have hy1 : DataW.agg (ys.map (·.1)) = rowData f := by rw [← hdat, hy]
      simp only [rowData, DataW.agg.injEq] at hy1
      have d0 : ys[0].1 = .lit (.int .u64 (fp f)) := by have := congrArg (fun l => l[0]?) hy1; simpa [x5] using this
      have d1 : ys[1].1 = .lit (.int .u64 (fg f)) := by have := congrArg (fun l => l[1]?) hy1; simpa [x5] using this
      have d2 : ys[2].1 = .lit (.int .i64 (ft f)) := by have := congrArg (fun l => l[2]?) hy1; simpa [x5] using this
      have d3 : ys[3].1 = .lit (.int .i64 (fe f)) := by have := congrArg (fun l => l[3]?) hy1; simpa [x5] using this
      have d4 : ys[4].1 = (if f = 1 then .nil else .slice ((fl f).map fun v => .lit (.int .u64 v)) []) := by have := congrArg (fun l => l[4]?) hy1; simpa [x5] using this
      obtain ⟨a0, r0, s0, _⟩ := DataW.trod_int Tryd.underlying34 e0
      obtain ⟨a1, r1, s1, _⟩ := DataW.trod_int Tryd.underlying34 e1
      obtain ⟨a2, r2, s2, _⟩ := DataW.trod_int Tryd.underlying3 e2
      obtain ⟨a3, r3, s3, _⟩ := DataW.trod_int Tryd.underlying3 e3
      obtain rfl : a0 = fp f := by rw [s0] at d0; simpa using d0
      obtain rfl : a1 = fg f := by rw [s1] at d1; simpa using d1
      obtain rfl : a2 = ft f := by rw [s2] at d2; simpa using d2
      obtain rfl : a3 = fe f := by rw [s3] at d3; simpa using d3
      replace r0 : c0 = .int .u64 (fp f) := by simpa using r0
      replace r1 : c1 = .int .u64 (fg f) := by simpa using r1
      replace r2 : c2 = .int .i64 (ft f) := by simpa using r2
      replace r3 : c3 = .int .i64 (fe f) := by simpa using r3
      subst r0; subst r1; subst r2; subst r3
      have h4 : ∃ A c, [c4] = [.slice A (fl f).length c] ∧ (fl f).length ≤ c ∧ Kd.C (Kd.int .u64) W A (fl f).length (fl f) := by
        by_cases h1 : f = 1
        · subst h1
          rw [if_pos rfl] at d4
          exact nil_of (x := ys[4]) e4 d4
        · rw [if_neg h1] at d4
          exact ints_of (x := ys[4]) e4 d4
      obtain ⟨A, c, hc, hle, hC⟩ := h4
      obtain rfl : c4 = .slice A (fl f).length c := by simpa using hc
      exact ⟨A, c, rfl, hle, hC⟩
  have cell : ∀ f : Nat, f < 4 → ∀ j : Nat, j < 5 → W.cell? ⟨2, 5 * f + j, none⟩ = ((cs0.toList.drop (f * 5)).take 5)[j]? := by
    intro f hf j hj
    have hv := World.var?_cell hg0 hv0 (5 * f + j)
    rw [hv, List.getElem?_take, if_pos (by omega), List.getElem?_drop, Nat.mul_comm f 5]
    simp
  obtain rfl := Option.some.inj (gTab.symm.trans hg2)
  obtain rfl := Option.some.inj (tTab.symm.trans ht2)
  obtain ⟨zs, m2, rfl, hz1, hlen2, hn2, hel2⟩ := DataW.trod_array Tryd.underlying100 hd2
  have hlist : ∀ {H : Type}, (Rows.laid_math_bits_deBruijn64tab : DataW H) = DataW.agg (db64.map fun v => .lit (.int .u8 v)) := fun {_} => rfl
  rw [hlist] at hz1
  simp only [Prod.mk.injEq, DataW.agg.injEq] at hz1
  have ukey : ∀ i : Nat, i < 64 → (cs2.toList.drop (i * 1)).take 1 = [.int .u8 (db64.getD i 0)] := by
    intro i hi
    have hj := hel2 i hi
    rw [List.getElem?_eq_getElem (by omega : i < zs.length), cellsB] at hj
    have hdat : (zs[i]).1 = .lit (.int .u8 (db64.getD i 0)) := by
      have : (zs.map (·.1))[i]? = some (.lit (.int .u8 (db64.getD i 0))) := by
        rw [← hz1.1, List.getElem?_map]
        have h64 : i < db64.length := hi
        rw [List.getElem?_eq_getElem h64, Option.map_some]
        simp [List.getD, h64]
      rw [List.getElem?_map, List.getElem?_eq_getElem (by omega : i < zs.length), Option.map_some] at this
      exact Option.some.inj this
    obtain ⟨a, r, s, _⟩ := DataW.trod_int Tryd.underlying5 hj
    obtain rfl : a = db64.getD i 0 := by rw [s] at hdat; simpa using hdat
    exact r
  have ucell : ∀ i : Nat, i < 64 → W.cell? ⟨1, i, none⟩ = some (.int .u8 (db64.getD i 0)) := by
    intro i hi
    have hv := World.var?_cell hg2 hv2 i
    have hu := ukey i hi
    have h0 : ((cs2.toList.drop (i * 1)).take 1)[0]? = some (.int .u8 (db64.getD i 0)) := by rw [hu]; rfl
    rw [List.getElem?_take, if_pos (by omega), List.getElem?_drop, Nat.mul_one, Nat.add_zero] at h0
    rw [hv]
    simpa using h0
  refine ⟨fun f hf => ?_, fun f hf => ?_, fun f hf => ?_, fun f hf => ?_, fun f hf => ?_, ucell⟩
  all_goals obtain ⟨A, c, e, hl, hC⟩ := key f hf
  · exact (cell f hf 0 (by omega)).trans (by rw [e]; rfl)
  · exact (cell f hf 1 (by omega)).trans (by rw [e]; rfl)
  · exact (cell f hf 2 (by omega)).trans (by rw [e]; rfl)
  · exact (cell f hf 3 (by omega)).trans (by rw [e]; rfl)
  · exact ⟨A, c, (cell f hf 4 (by omega)).trans (by rw [e]; rfl), hl, hC⟩
/-- The door's own heap meets the condition. -/
theorem door_met (os : Os) (args : Array Value) : laidMetH Tryd.prog laid1 ((World.doorLaid Tryd.prog 400 os).forCall (fun _ _ => 0) ⟨#[], args, []⟩).memory :=
  laidMetH_of_parts3 (fuel := 8) (laidMet_of_run' 8 (by kernel_rfl) (by kernel_rfl)) (by kernel_rfl) (by kernel_rfl)
theorem opnL {H : Type} {enc : TypeId × Value → H} {W : World} : Opn enc Tryd.prog W 39 (Kd.slice 34 (Kd.int .u64)) (fun l => ∀ y ∈ l, (Lit.int .u64 y).wf = true) := Opn.slice Tryd.underlying39 cellsU (Opn.int Tryd.underlying34)
theorem wf_u8 {x : Int} (h : (Lit.int .u8 x).wf = true) : 0 ≤ x ∧ x < 256 := by
  simp [Lit.wf, IntKind.min, IntKind.max, IntKind.signed, IntKind.bits] at h
  omega
theorem wf_u64 {x : Int} (h : (Lit.int .u64 x).wf = true) : 0 ≤ x ∧ x < 18446744073709551616 := by
  simp [Lit.wf, IntKind.min, IntKind.max, IntKind.signed, IntKind.bits] at h
  omega
theorem wf_i64 {x : Int} (h : (Lit.int .i64 x).wf = true) : -9223372036854775808 ≤ x ∧ x ≤ 9223372036854775807 := by
  simp [Lit.wf, IntKind.min, IntKind.max, IntKind.signed, IntKind.bits] at h
  omega
end Go.Proofs.YtpnpmeogffodgaaDoor.Q
end
section
namespace Go.Proofs.YtpnpmeogffodgaaDoor.Q
open Go.RowKit Go.Proofs.YtpnpmeogffodgaaDoorW.PrintWords Go.Proofs.YtpnpmeogffodgaaDoorW.PrintLast Go.Proofs.YtpnpmeogffodgaaDoorW.PrintMore
attribute [local go_sem] max2_int min2_int max_two min_two max_three min_three max_four min_four run_store_fnV run_store_fnc run_store_nfn   -- for this text's walks alone
set_option linter.unusedVariables false
set_option linter.unusedSimpArgs false

-- BY HAND: function 37 (tree_height): Derived.Test.YtpnpmeogffodgaaDoorHHeight

/-! ### field_Valid: function 38 -/
def field_Valid.f (a0 : Int) : Option (Bool) := if a0 ≥ 0 then (some (decide (a0 < 4))) else (some false)
set_option maxHeartbeats 8000000 in
set_option maxRecDepth 100000 in
theorem field_Valid.calls (a0 : Int) (r : Bool) (w : World) (h : field_Valid.f a0 = some r) :
    Calls Tryd.prog 38 #[.int .i64 a0] w fun e w' => e = .returned (.bool r) ∧ Drawn0 w w' := by
  have H : (if a0 ≥ 0 then (some (decide (a0 < 4))) else (some false)) = some r := h
  clear h
  by_cases c2 : a0 ≥ 0
  · rw [if_pos c2] at H
    have c2b0 : decide (0 ≤ a0) = true := decide_eq_true c2
    clear c2
    obtain rfl := Option.some.inj H
    go_enter Tryd.func38, Tryd.ntmps38
    go_wp2
    go_ret
    exact ⟨by first | rfl | (simp; done) | (simp [*]; done), by repeat (first | exact Drawn0.refl _ | apply Drawn0.step)⟩
  · rw [if_neg c2] at H
    have c2b0 : decide (0 ≤ a0) = false := decide_eq_false c2
    clear c2
    obtain rfl := Option.some.inj H
    go_enter Tryd.func38, Tryd.ntmps38
    go_wp2
    go_ret
    exact ⟨by first | rfl | (simp; done) | (simp [*]; done), by repeat (first | exact Drawn0.refl _ | apply Drawn0.step)⟩

-- NOT PRINTED: function 70 (field_of)

end Go.Proofs.YtpnpmeogffodgaaDoor.Q
end
section
namespace Go.Proofs.YtpnpmeogffodgaaDoor.Num
def Pr (p : Nat) : Prop := 2 ≤ p ∧ ∀ d, d ∣ p → d = 1 ∨ d = p
theorem pr_of_trial (p b : Nat) (h2 : 2 ≤ p) (hb : p < b * b) (h : (List.range b).all (fun m => decide (m < 2) || p % m != 0) = true) : Pr p := by
  have key : ∀ m, 2 ≤ m → m < b → p % m ≠ 0 := by
    intro m hm hmb
    have := List.all_eq_true.1 h m (List.mem_range.2 hmb)
    simp at this
    omega
  refine ⟨h2, fun d ⟨e, he⟩ => ?_⟩
  have hd0 : d ≠ 0 := by rintro rfl; omega
  have he0 : e ≠ 0 := by rintro rfl; omega
  by_cases hd1 : d = 1
  · exact Or.inl hd1
  by_cases he1 : e = 1
  · right; rw [he, he1, Nat.mul_one]
  · exfalso
    by_cases hdb : d < b
    · exact key d (by omega) hdb (by rw [he]; exact Nat.mul_mod_right d e)
    · by_cases heb : e < b
      · exact key e (by omega) heb (by rw [he]; exact Nat.mul_mod_left d e)
      · have : b * b ≤ d * e := Nat.mul_le_mul (by omega) (by omega)
        omega
theorem pr97 : Pr 97 := pr_of_trial 97 10 (by decide) (by decide) (by decide +kernel)
theorem pr257 : Pr 257 := pr_of_trial 257 17 (by decide) (by decide) (by decide +kernel)
theorem pr12289 : Pr 12289 := pr_of_trial 12289 111 (by decide) (by decide) (by decide +kernel)
theorem pr998244353 : Pr 998244353 := pr_of_trial 998244353 31596 (by decide) (by decide) (by decide +kernel)
end Go.Proofs.YtpnpmeogffodgaaDoor.Num
namespace Go.Proofs.YtpnpmeogffodgaaDoor.Q
open Go.RowKit Go.Proofs.YtpnpmeogffodgaaDoorW.PrintWords Go.Proofs.YtpnpmeogffodgaaDoorW.PrintLast Go.Proofs.YtpnpmeogffodgaaDoorW.PrintMore
open Go.Proofs.YtpnpmeogffodgaaDoor.Num
set_option linter.unusedVariables false
set_option linter.unusedSimpArgs false
theorem wrapU {n : Nat} (h : n < 18446744073709551616) : IntKind.u64.wrap (n : Int) = n := by
  simp [IntKind.wrap, IntKind.bits, IntKind.signed]
  try omega
theorem wrapS {x : Int} (h0 : -9223372036854775808 ≤ x) (h1 : x ≤ 9223372036854775807) : wrap64 x = x := by unfold wrap64; omega
theorem tmodN (a p : Nat) : Int.tmod (a : Int) (p : Int) = ((a % p : Nat) : Int) := rfl
structure Fld (f : Int) (p : Nat) : Prop where
  lo : 0 ≤ f
  hi : f < 4
  eq : fp f = (p : Int)
  pr : Pr p
  big : p < 1073741824
theorem Fld.ne {f : Int} {p : Nat} (F : Fld f p) : ¬ (p : Int) = 0 := by have := F.pr.1; omega
theorem Fld.two {f : Int} {p : Nat} (F : Fld f p) : 2 ≤ p := F.pr.1
theorem Fld.md {f : Int} {p : Nat} (F : Fld f p) (a : Nat) : a % p < p := Nat.mod_lt _ (by have := F.two; omega)
theorem valid_yes {f : Int} {p : Nat} (F : Fld f p) : field_Valid.f f = some true := by
  unfold field_Valid.f
  rw [if_pos F.lo, decide_eq_true F.hi]
theorem valid_no {f : Int} (h : ¬ (0 ≤ f ∧ f < 4)) : field_Valid.f f = some false := by
  unfold field_Valid.f
  by_cases h0 : f ≥ 0
  · rw [if_pos h0, decide_eq_false (by omega)]
  · rw [if_neg h0]
theorem mul_lt {p : Nat} (h : p < 1073741824) (a b : Nat) (ha : a < p) (hb : b < p) : a * b < 18446744073709551616 := by
  have : a * b ≤ 1073741824 * 1073741824 := Nat.mul_le_mul (by omega) (by omega)
  omega
end Go.Proofs.YtpnpmeogffodgaaDoor.Q
end
section
namespace Go.Proofs.YtpnpmeogffodgaaDoor.Q
open Go.RowKit Go.Proofs.YtpnpmeogffodgaaDoorW.PrintWords Go.Proofs.YtpnpmeogffodgaaDoorW.PrintLast Go.Proofs.YtpnpmeogffodgaaDoorW.PrintMore
attribute [local go_sem] max2_int min2_int max_two min_two max_three min_three max_four min_four run_store_fnV run_store_fnc run_store_nfn   -- for this text's walks alone
set_option linter.unusedVariables false
set_option linter.unusedSimpArgs false

-- BY HAND: function 66 (field_Exponent): Derived.Test.YtpnpmeogffodgaaDoorHGl

/-! ### sponge_in: function 54 -/
def sponge_in.f (a0 : Int) : Option (Int × Int × Bool) := (field_P.f a0).bind fun t114 => ((field_Generator.f a0).bind fun t115 => ((field_Exponent.f a0).bind fun t116 => (some (t114, t115, (t116 == 5)))))
set_option maxHeartbeats 8000000 in
set_option maxRecDepth 100000 in
theorem sponge_in.calls (a0 : Int) (r1 : Int) (r2 : Int) (r3 : Bool) (w : World) (hrG : GL w) (h : sponge_in.f a0 = some (r1, r2, r3)) :
    Calls Tryd.prog 54 #[.int .i64 a0] w fun e w' => e = .returned (.agg #[.int .u64 r1, .int .u64 r2, .bool r3]) ∧ Below w.heap.size w w' := by
  have hu78 := Tryd.underlying78
  have HRG := Aside0.mk hrG
  clear hrG
  have HB := Aside0.mk (Below.refl w.heap.size w)
  have H : ((field_P.f a0).bind fun t114 => ((field_Generator.f a0).bind fun t115 => ((field_Exponent.f a0).bind fun t116 => (some (t114, t115, (t116 == 5)))))) = some (r1, r2, r3) := h
  clear h
  replace H := Option.bind_eq_some_iff.mp H
  obtain ⟨t114, A20, H⟩ := H
  replace H : ((field_Generator.f a0).bind fun t115 => ((field_Exponent.f a0).bind fun t116 => (some (t114, t115, (t116 == 5))))) = some (r1, r2, r3) := H
  have A2 := Aside0.mk A20
  clear A20
  replace H := Option.bind_eq_some_iff.mp H
  obtain ⟨t115, A30, H⟩ := H
  replace H : ((field_Exponent.f a0).bind fun t116 => (some (t114, t115, (t116 == 5)))) = some (r1, r2, r3) := H
  have A3 := Aside0.mk A30
  clear A30
  replace H := Option.bind_eq_some_iff.mp H
  obtain ⟨t116, A40, H⟩ := H
  replace H : (some (t114, t115, (t116 == 5))) = some (r1, r2, r3) := H
  have A4 := Aside0.mk A40
  clear A40
  simp only [Option.some.injEq, Prod.mk.injEq] at H
  obtain ⟨rfl, rfl, rfl⟩ := H
  go_enter Tryd.func54, Tryd.ntmps54
  go_wp2_with (first | ((with_reducible refine gate_dst (N := 2) rfl ?_); refine box_event ?hg (N := 2) ?hd (cs := #[.int .u64 0, .int .u64 0, .bool false]) (t := 78) ?hr ?_; (case hd => rfl); (case hg => rfl); (case hr => first | (go_simp; done) | (go_simp; rfl)); intro gb113 hg w5 hbox hb; have n0_ := Aside0.mk (below_step (by repeat (first | (with_reducible first | exact HB.out | apply below_alloc | apply pw_below_drewN | apply below_drew1) | exact HB.out)) hb); have n1_ := Aside0.mk (hbox); have n2_ := Aside0.mk ((by rw [hg]; exact (below_size (by repeat (first | (with_reducible first | exact HB.out | apply below_alloc | apply pw_below_drewN | apply below_drew1) | exact HB.out))) : w.heap.size ≤ gb113)); have n3_ := Aside0.mk ((by rw [hg]; exact (below_size (by repeat (first | (with_reducible first | exact HB.out | apply below_alloc | apply pw_below_drewN | apply below_drew1) | exact HB.out))) : w.heap.size ≤ gb113)); clear HB; have HB := n0_; have BK113 := n1_; have GW113 := n2_; have GE113 := n3_; clear n0_ n1_ n2_ n3_; clear hb hbox hg) | ((with_reducible refine gate_callee (f := 58) rfl ?_); refine goesL_ (some 4) rfl rfl Tryd.func58 (by kernel_rfl) rfl #[.int .i64 a0] rfl (by (try simp only [List.map_toArray, List.map_cons, List.map_nil]); first | done | rfl | (simp only [List.length_drop, List.length_take]; rfl) | (go_simp; done) | (go_simp; rw [Int.tmod_eq_emod_of_nonneg (by omega)]; omega)) ?_; (with_reducible refine (field_P.calls a0 t114 _ ?side1 A2.out).mono ?_); (case side1 => repeat (first | exact (GL.below HRG.out HB.out) | (with_reducible refine GL.alloc ?_ _) | (with_reducible refine GL.drewN ?_ _) | (with_reducible refine GL.drew ?_))); rintro e w6 ⟨rfl, hb⟩; refine ⟨_, rfl, ?_⟩; have n0_ := Aside0.mk (blk_below (g := gb113) (o := .cells #[.int .u64 0, .int .u64 0, .bool false] 78 (0, 0)) (by (with_reducible repeat (first | refine blk_drewN ?_ _ | refine blk_drew ?_ | refine blk_alloc ?_ _)); exact BK113.out) hb); have n1_ := Aside0.mk (below_step (by repeat (first | (with_reducible first | exact HB.out | apply below_alloc | apply pw_below_drewN | apply below_drew1 | refine below_set ?_ GE113.out) | exact HB.out)) hb); clear BK113; clear HB; have BK113 := n0_; have HB := n1_; clear n0_ n1_; (try clear hb); (try clear hb2); (try clear hk); (try clear hi)) | ((with_reducible refine gate_callee (f := 65) rfl ?_); refine goesL_ (some 6) rfl rfl Tryd.func65 (by kernel_rfl) rfl #[.int .i64 a0] rfl (by (try simp only [List.map_toArray, List.map_cons, List.map_nil]); first | done | rfl | (simp only [List.length_drop, List.length_take]; rfl) | (go_simp; done) | (go_simp; rw [Int.tmod_eq_emod_of_nonneg (by omega)]; omega)) ?_; (with_reducible refine (field_Generator.calls a0 t115 _ ?side1 A3.out).mono ?_); (case side1 => repeat (first | exact (GL.below HRG.out HB.out) | (with_reducible refine GL.alloc ?_ _) | (with_reducible refine GL.drewN ?_ _) | (with_reducible refine GL.drew ?_))); rintro e w7 ⟨rfl, hb⟩; refine ⟨_, rfl, ?_⟩; have n0_ := Aside0.mk (blk_below (g := gb113) (o := .cells #[.int .u64 0, .int .u64 0, .bool false] 78 (0, 0)) (by (with_reducible repeat (first | refine blk_drewN ?_ _ | refine blk_drew ?_ | refine blk_alloc ?_ _)); exact BK113.out) hb); have n1_ := Aside0.mk (below_step (by repeat (first | (with_reducible first | exact HB.out | apply below_alloc | apply pw_below_drewN | apply below_drew1 | refine below_set ?_ GE113.out) | exact HB.out)) hb); clear BK113; clear HB; have BK113 := n0_; have HB := n1_; clear n0_ n1_; (try clear hb); (try clear hb2); (try clear hk); (try clear hi)) | ((with_reducible refine gate_callee (f := 66) rfl ?_); refine goesL_ (some 8) rfl rfl Tryd.func66 (by kernel_rfl) rfl #[.int .i64 a0] rfl (by (try simp only [List.map_toArray, List.map_cons, List.map_nil]); first | done | rfl | (simp only [List.length_drop, List.length_take]; rfl) | (go_simp; done) | (go_simp; rw [Int.tmod_eq_emod_of_nonneg (by omega)]; omega)) ?_; (with_reducible refine (field_Exponent.calls a0 t116 _ ?side1 A4.out).mono ?_); (case side1 => repeat (first | exact (GL.below HRG.out HB.out) | (with_reducible refine GL.alloc ?_ _) | (with_reducible refine GL.drewN ?_ _) | (with_reducible refine GL.drew ?_))); rintro e w8 ⟨rfl, hb⟩; refine ⟨_, rfl, ?_⟩; have n0_ := Aside0.mk (blk_below (g := gb113) (o := .cells #[.int .u64 0, .int .u64 0, .bool false] 78 (0, 0)) (by (with_reducible repeat (first | refine blk_drewN ?_ _ | refine blk_drew ?_ | refine blk_alloc ?_ _)); exact BK113.out) hb); have n1_ := Aside0.mk (below_step (by repeat (first | (with_reducible first | exact HB.out | apply below_alloc | apply pw_below_drewN | apply below_drew1 | refine below_set ?_ GE113.out) | exact HB.out)) hb); clear BK113; clear HB; have BK113 := n0_; have HB := n1_; clear n0_ n1_; (try clear hb); (try clear hb2); (try clear hk); (try clear hi); have hcz9_0 : w8.cell? ⟨gb113, 0, none⟩ = some (.int .u64 0) := (blk_cell BK113.out 0).trans rfl; have hcz9_1 : w8.cell? ⟨gb113, 1, none⟩ = some (.int .u64 0) := (blk_cell BK113.out 1).trans rfl; have hcz9_2 : w8.cell? ⟨gb113, 2, none⟩ = some (.bool false) := (blk_cell BK113.out 2).trans rfl; have hfz9_0 := blk_frozen BK113.out 0; have hfz9_1 := blk_frozen BK113.out 1; have hfz9_2 := blk_frozen BK113.out 2))
  refine bodyPost_ret (results_cell_row rfl _ _ gb113 78 #[.int .u64 t114, .int .u64 t115, .bool (t116 == 5)] (0, 0) _ rfl (by (with_reducible repeat (first | refine blk_drewN ?_ _ | refine blk_drew ?_ | refine blk_alloc ?_ _)); refine blk_put (cs := #[.int .u64 t114, .int .u64 t115, .bool false]) ?_ 2 _ rfl; (with_reducible repeat (first | refine blk_drewN ?_ _ | refine blk_drew ?_ | refine blk_alloc ?_ _)); refine blk_put (cs := #[.int .u64 t114, .int .u64 0, .bool false]) ?_ 1 _ rfl; (with_reducible repeat (first | refine blk_drewN ?_ _ | refine blk_drew ?_ | refine blk_alloc ?_ _)); refine blk_put (cs := #[.int .u64 0, .int .u64 0, .bool false]) ?_ 0 _ rfl; (with_reducible repeat (first | refine blk_drewN ?_ _ | refine blk_drew ?_ | refine blk_alloc ?_ _)); exact BK113.out) Tryd.underlying78 rfl (by kernel_rfl)) rfl ?_
  exact ⟨by first | rfl | (simp [errW_none, errW_some] <;> rfl) | (simp [*, errW_none, errW_some] <;> rfl), by repeat (first | (with_reducible first | exact HB.out | apply below_alloc | apply pw_below_drewN | apply below_drew1 | refine below_set ?_ GE113.out) | exact HB.out)⟩

end Go.Proofs.YtpnpmeogffodgaaDoor.Q
end
section
namespace Go.Proofs.YtpnpmeogffodgaaDoor.Q
open Go.RowKit Go.Proofs.YtpnpmeogffodgaaDoorW.PrintWords Go.Proofs.YtpnpmeogffodgaaDoorW.PrintLast Go.Proofs.YtpnpmeogffodgaaDoorW.PrintMore
theorem bq_ {w : World} {a : Nat} {cs : Array Value} {t : TypeId} {v : Value} (h : Aside0 (w.heap[a]? = some (.cells cs t (0, 0)))) (j : Nat) (e : cs[j]? = some v := by rfl) : w.cell? ⟨a, j, none⟩ = some v := (blk_cell h.out j).trans e
theorem bf_ {w : World} {g : Nat} {t : TypeId} {cs : Array Value} {h' : Nat} (h : Aside0 (w.heap[g]? = some (.cells cs t (0, 0)))) (hn : Aside0 (g ≠ h')) (p : Addr) (v : Value) (e : p.block = h') : Aside0 ((w.setCell p v).heap[g]? = some (.cells cs t (0, 0))) := ⟨blk_far h.out (by rw [e]; exact hn.out) v⟩
theorem ra_ {w w1 : World} {n g : Nat} {t : TypeId} {cs : Array Value} (hq : w.drewN n = w1) (h : Aside0 (w.heap[g]? = some (.cells cs t (0, 0)))) : Aside0 (w1.heap[g]? = some (.cells cs t (0, 0))) := ⟨blk_at hq h.out⟩
theorem rb_ {w w1 w0 : World} {n s : Nat} (hq : w.drewN n = w1) (h : Aside0 (Below s w0 w)) : Aside0 (Below s w0 w1) := ⟨below_at hq h.out⟩
theorem sa_ {α : Type} (l : List α) (i : Nat) (a : α) : l.toArray.setIfInBounds i a = (l.set i a).toArray := List.setIfInBounds_toArray ..
theorem sb_ {α : Type} (x : α) (l : List α) (b : α) : (x :: l).set 0 b = b :: l := rfl
theorem sc_ {α : Type} (x : α) (l : List α) (n : Nat) (b : α) : (x :: l).set (n + 1) b = x :: l.set n b := rfl
theorem an_ {md : Region.Mode} {ops : Array Oper} {T : Bool × List (List Nat × List Nat)} {l l' : Array Bool} {i : Nat} (hT : Aside0 (rtab md ops = T)) (h : anyT T l.toList l'.toList i = true := by kernel_rfl) : anyB md ops l l' i = true := any_of hT.out h
theorem on_ {md : Region.Mode} {ops : Array Oper} {T : Bool × List (List Nat × List Nat)} {l l' : Array Bool} {i : Nat} (hT : Aside0 (rtab md ops = T)) (h : (readyT T.2 l.toList == [i] && l.toList.set i true == l'.toList) = true := by kernel_rfl) : readyB md ops l l' i = true := one_of hT.out h
theorem tk_ {md : Region.Mode} {ops : Array Oper} {T : Bool × List (List Nat × List Nat)} {l l' : Array Bool} {ds : List Nat} {i : Nat} {B : List Nat} (hT : Aside0 (rtab md ops = T)) (hB : Aside0 (waitsOk T.2 B = true)) (h : takeW T B ds l.toList l'.toList i = true := by kernel_rfl) : takeB md ops ds l l' i = true := take_ofW hT.out hB.out h
theorem w64_0 : wrap64 0 = 0 := by decide +kernel
theorem w64_1 : wrap64 1 = 1 := by decide +kernel
theorem w64_2 : wrap64 2 = 2 := by decide +kernel
theorem w64_3 : wrap64 3 = 3 := by decide +kernel
theorem w64_4 : wrap64 4 = 4 := by decide +kernel
theorem w64_5 : wrap64 5 = 5 := by decide +kernel
theorem w64_6 : wrap64 6 = 6 := by decide +kernel
theorem w64_7 : wrap64 7 = 7 := by decide +kernel
theorem tm4_0 : Int.tmod 0 4 = 0 := by decide
theorem tm4_1 : Int.tmod 1 4 = 1 := by decide
theorem tm4_2 : Int.tmod 2 4 = 2 := by decide
theorem tm4_3 : Int.tmod 3 4 = 3 := by decide
theorem tm4_4 : Int.tmod 4 4 = 0 := by decide
theorem tm4_5 : Int.tmod 5 4 = 1 := by decide
theorem tm4_6 : Int.tmod 6 4 = 2 := by decide
theorem tm4_7 : Int.tmod 7 4 = 3 := by decide
end Go.Proofs.YtpnpmeogffodgaaDoor.Q
end
section
namespace Go.Proofs.YtpnpmeogffodgaaDoor.Q
open Go.RowKit Go.Proofs.YtpnpmeogffodgaaDoorW.PrintWords Go.Proofs.YtpnpmeogffodgaaDoorW.PrintLast Go.Proofs.YtpnpmeogffodgaaDoorW.PrintMore
theorem sel_cell {w : World} {g : Nat} {t : TypeId} {k : IntKind} {cs : Array Value} {l : List Int} {x : Int} (h : w.heap[g]? = some (.cells cs t (0, 0))) (e : cs = (l.map (Value.int k)).toArray) (h0 : 0 ≤ x) (h1 : x < l.length) :
    w.cell? ⟨g, x.toNat, none⟩ = some (.int k (rd l x)) := by
  rw [blk_cell h, e]
  have hx : x.toNat < l.length := by omega
  simp [rd, hx]
/-- A cell of an array behind a store at the place x: this one is cell z. -/
def updv (o : Int) (z : Nat) (x v : Int) : Int := if x = (z : Int) then v else o
def updl : List Int → Nat → Int → Int → List Int
  | [], _, _, _ => []
  | o :: l, z, x, v => updv o z x v :: updl l (z + 1) x v
theorem updl_set : ∀ (l : List Int) (z : Nat) (x v : Int), (z : Int) ≤ x → updl l z x v = l.set (x.toNat - z) v
  | [], _, _, _, _ => rfl
  | o :: l, z, x, v, h => by
    by_cases e : x = (z : Int)
    · subst e
      have : ∀ (l : List Int) (y : Nat), z < y → updl l y (z : Int) v = l := by
        intro l
        induction l with
        | nil => intro y _; rfl
        | cons a l ih =>
          intro y hy
          show updv a y z v :: updl l (y + 1) z v = a :: l
          rw [ih _ (by omega)]
          unfold updv
          rw [if_neg (by omega)]
      show updv o z z v :: updl l (z + 1) z v = _
      rw [this l (z + 1) (by omega)]
      unfold updv
      rw [if_pos rfl]
      simp
    · show updv o z x v :: updl l (z + 1) x v = _
      rw [updl_set l (z + 1) x v (by omega)]
      unfold updv
      rw [if_neg e]
      have : x.toNat - z = (x.toNat - (z + 1)) + 1 := by omega
      rw [this]
      rfl
theorem sel_at {w : World} {g : Nat} {t : TypeId} {k : IntKind} {cs : Array Value} {pre post : List Value} {l : List Int} {x : Int} {o : Nat} (h : w.heap[g]? = some (.cells cs t (0, 0))) (e : cs = (pre ++ l.map (Value.int k) ++ post).toArray) (eo : o = pre.length + x.toNat) (h0 : 0 ≤ x) (h1 : x < l.length) :
    w.cell? ⟨g, o, none⟩ = some (.int k (rd l x)) := by
  rw [blk_cell h, e, eo]
  have hx : x.toNat < l.length := by omega
  simp [rd, hx, List.getElem?_append]
theorem sel_put {w : World} {g : Nat} {t : TypeId} {k : IntKind} {cs cs' : Array Value} {pre post : List Value} {l : List Int} {x v : Int} {o : Nat} (h : w.heap[g]? = some (.cells cs t (0, 0))) (e : cs = (pre ++ l.map (Value.int k) ++ post).toArray) (e' : cs' = (pre ++ (updl l 0 x v).map (Value.int k) ++ post).toArray) (eo : o = pre.length + x.toNat) (h0 : 0 ≤ x) (h1 : x < l.length) :
    (w.setCell ⟨g, o, none⟩ (.int k v)).heap[g]? = some (.cells cs' t (0, 0)) := by
  refine blk_put h o _ ?_
  rw [e, e', eo, updl_set l 0 x v (by simpa using h0)]
  have hx : x.toNat < l.length := by omega
  rw [List.setIfInBounds_toArray, List.append_assoc, List.set_append_right _ _ (by omega), List.append_assoc, Nat.add_sub_cancel_left, List.set_append_left _ _ (by simpa using hx), Nat.sub_zero, ← List.map_set]
end Go.Proofs.YtpnpmeogffodgaaDoor.Q
end
section
namespace Go.Proofs.YtpnpmeogffodgaaDoor.Q
open Go.RowKit Go.Proofs.YtpnpmeogffodgaaDoorW.PrintWords Go.Proofs.YtpnpmeogffodgaaDoorW.PrintLast Go.Proofs.YtpnpmeogffodgaaDoorW.PrintMore
attribute [local go_sem] max2_int min2_int max_two min_two max_three min_three max_four min_four run_store_fnV run_store_fnc run_store_nfn   -- for this text's walks alone
set_option linter.unusedVariables false
set_option linter.unusedSimpArgs false

abbrev z55_0_ : Array Bool := #[false, false, false, false, false, false, false, false]
abbrev z55_1_ : Array Bool := #[true, false, false, false, false, false, false, false]
abbrev z55_2_ : Array Bool := #[true, true, false, false, false, false, false, false]
abbrev z55_3_ : Array Bool := #[true, true, false, true, false, false, false, false]
abbrev z55_4_ : Array Bool := #[true, true, true, true, false, false, false, false]
abbrev z55_5_ : Array Bool := #[true, true, true, true, true, false, false, false]
abbrev z55_6_ : Array Bool := #[true, true, true, true, true, true, false, false]
abbrev z55_7_ : Array Bool := #[true, true, true, true, true, true, true, false]
abbrev z55_8_ : Array Bool := #[true, true, true, true, true, true, true, true]
/-! ### sponge_mixer_reduced: function 55 -/
def sponge_mixer_reduced.l0 : Nat → Int → Int → Int → Bool → Int → Int → Int → Int → Option (Int × Int × Int × Int)
  | 0, _, _, _, _, _, _, _, _ => none
  | k + 1, x6, x118000, x118001, x118002, x119000, x119001, x119002, x119003 => if x6 < 4 then (if 0 ≤ x6 then (if x118000 = 0 then (none) else (sponge_mixer_reduced.l0 k (wrap64 (x6 + 1)) x118000 x118001 x118002 (updv x119000 0 x6 (Int.tmod (rd ([x119000, x119001, x119002, x119003] : List Int) x6) x118000)) (updv x119001 1 x6 (Int.tmod (rd ([x119000, x119001, x119002, x119003] : List Int) x6) x118000)) (updv x119002 2 x6 (Int.tmod (rd ([x119000, x119001, x119002, x119003] : List Int) x6) x118000)) (updv x119003 3 x6 (Int.tmod (rd ([x119000, x119001, x119002, x119003] : List Int) x6) x118000)))) else (none)) else (some (x119000, x119001, x119002, x119003))
def sponge_mixer_reduced.f (k : Nat) (a0_0 : Int) (a0_1 : Int) (a0_2 : Bool) (a1_0 : Int) (a1_1 : Int) (a1_2 : Int) (a1_3 : Int) : Option (Int × Int × Int × Int) := sponge_mixer_reduced.l0 k 0 a0_0 a0_1 a0_2 a1_0 a1_1 a1_2 a1_3
theorem sponge_mixer_reduced.mono_l : ∀ k, (∀ y0 y1 y2 y3 y4 y5 y6 y7, LeO (sponge_mixer_reduced.l0 k y0 y1 y2 y3 y4 y5 y6 y7) (sponge_mixer_reduced.l0 (k + 1) y0 y1 y2 y3 y4 y5 y6 y7))
  | 0 => fun _ _ _ _ _ _ _ _ r h => by simp [sponge_mixer_reduced.l0] at h
  | k + 1 => by
    have ih0 := sponge_mixer_reduced.mono_l k
    · intro y0 y1 y2 y3 y4 y5 y6 y7
      unfold sponge_mixer_reduced.l0
      repeat' first
      | (with_reducible exact ih0 _ _ _ _ _ _ _ _)
      | (with_reducible exact LeO.refl _)
      | (with_reducible exact LeO.none _)
      | (with_reducible refine LeO.ite ?_ ?_)
      | (with_reducible refine LeO.bind ?_ (fun _ => ?_))
      | exact ih0 _ _ _ _ _ _ _ _
      | exact LeO.none _
      | refine LeO.ite ?_ ?_
      | refine LeO.bind ?_ (fun _ => ?_)
theorem sponge_mixer_reduced.mono : ∀ a0 a1 a2 a3 a4 a5 a6 k, LeO (sponge_mixer_reduced.f k a0 a1 a2 a3 a4 a5 a6) (sponge_mixer_reduced.f (k + 1) a0 a1 a2 a3 a4 a5 a6) := by
  intro a0 a1 a2 a3 a4 a5 a6 k
  have ih0 := sponge_mixer_reduced.mono_l k
  unfold sponge_mixer_reduced.f
  repeat' first
      | (with_reducible exact ih0 _ _ _ _ _ _ _ _)
      | (with_reducible exact LeO.refl _)
      | (with_reducible exact LeO.none _)
      | (with_reducible refine LeO.ite ?_ ?_)
      | (with_reducible refine LeO.bind ?_ (fun _ => ?_))
      | exact ih0 _ _ _ _ _ _ _ _
      | exact LeO.none _
      | refine LeO.ite ?_ ?_
      | refine LeO.bind ?_ (fun _ => ?_)
def sponge_mixer_reduced.T4 : Bool × List (List Nat × List Nat) := (true, [([], []), ([0], [0]), ([1], [1]), ([], []), ([3], [3]), ([2, 4], [2, 4]), ([0, 0, 1, 2, 3, 4, 5], [0]), ([6, 5, 0, 1, 2, 3, 4, 5], [5, 6])])
def sponge_mixer_reduced.B4 : List Nat := [0, 1, 3, 0, 8, 31, 63, 127]
theorem sponge_mixer_reduced.tab4 : rtab .any (opsOf Tryd.f55 4) = sponge_mixer_reduced.T4 := by kernel_rfl
theorem sponge_mixer_reduced.bits4 : waitsOk sponge_mixer_reduced.T4.2 sponge_mixer_reduced.B4 = true := by kernel_rfl
set_option maxHeartbeats 8000000 in
set_option maxRecDepth 100000 in
theorem sponge_mixer_reduced.calls (k : Nat) (a0_0 : Int) (a0_1 : Int) (a0_2 : Bool) (a1_0 : Int) (a1_1 : Int) (a1_2 : Int) (a1_3 : Int) (r1 : Int) (r2 : Int) (r3 : Int) (r4 : Int) (w : World) (h : sponge_mixer_reduced.f k a0_0 a0_1 a0_2 a1_0 a1_1 a1_2 a1_3 = some (r1, r2, r3, r4)) :
  Calls Tryd.prog 55 #[.agg #[.int .u64 a0_0, .int .u64 a0_1, .bool a0_2], .agg #[.int .u64 a1_0, .int .u64 a1_1, .int .u64 a1_2, .int .u64 a1_3]] w fun e w' => e = .returned (.agg #[.int .u64 r1, .int .u64 r2, .int .u64 r3, .int .u64 r4]) ∧ Below w.heap.size w w' := by
 have hu78 := Tryd.underlying78
 have hu80 := Tryd.underlying80
 have HB := Aside0.mk (Below.refl w.heap.size w)
 have H : (sponge_mixer_reduced.l0 k 0 a0_0 a0_1 a0_2 a1_0 a1_1 a1_2 a1_3) = some (r1, r2, r3, r4) := h
 clear h
 have H' := Aside0.mk H
 clear H
 go_enter Tryd.func55, Tryd.ntmps55
 go_wp2_with (first | ((with_reducible refine gate_dst (N := 2) rfl ?_); refine box_event ?hg (N := 2) ?hd (cs := #[.int .u64 a0_0, .int .u64 a0_1, .bool a0_2]) (t := 78) ?hr ?_; (case hd => rfl); (case hg => rfl); (case hr => first | (go_simp; done) | (go_simp; rfl)); intro g117 hg w3 hbox hb; have n0_ := Aside0.mk (below_step (by repeat (first | (with_reducible first | exact HB.out | apply below_alloc | apply pw_below_drewN | apply below_drew1) | exact HB.out)) hb); have n1_ := Aside0.mk (hbox); have n2_ := Aside0.mk ((by rw [hg]; exact (below_size (by repeat (first | (with_reducible first | exact HB.out | apply below_alloc | apply pw_below_drewN | apply below_drew1) | exact HB.out))) : w.heap.size ≤ g117)); have n3_ := Aside0.mk ((by rw [hg]; exact (below_size (by repeat (first | (with_reducible first | exact HB.out | apply below_alloc | apply pw_below_drewN | apply below_drew1) | exact HB.out))) : w.heap.size ≤ g117)); clear HB; have HB := n0_; have B117 := n1_; have GW117 := n2_; have GE117 := n3_; clear n0_ n1_ n2_ n3_; clear hb hbox hg) | ((with_reducible refine gate_dst (N := 3) rfl ?_); refine box_event ?hg (N := 3) ?hd (cs := #[.int .u64 a1_0, .int .u64 a1_1, .int .u64 a1_2, .int .u64 a1_3]) (t := 80) ?hr ?_; (case hd => rfl); (case hg => rfl); (case hr => first | (go_simp; done) | (go_simp; rfl)); intro g118 hg w4 hbox hb; have n0_ := Aside0.mk (blk_below (g := g117) (o := .cells #[.int .u64 a0_0, .int .u64 a0_1, .bool a0_2] 78 (0, 0)) (by exact B117.out) hb); have n1_ := Aside0.mk (below_step (by repeat (first | (with_reducible first | exact HB.out | apply below_alloc | apply pw_below_drewN | apply below_drew1 | refine below_set ?_ GE117.out) | exact HB.out)) hb); have n2_ := Aside0.mk (hbox); have n3_ := Aside0.mk ((by rw [hg]; exact (below_size (by repeat (first | (with_reducible first | exact HB.out | apply below_alloc | apply pw_below_drewN | apply below_drew1 | refine below_set ?_ GE117.out) | exact HB.out))) : w.heap.size ≤ g118)); have n4_ := Aside0.mk ((by rw [hg]; exact (below_size (by repeat (first | (with_reducible first | exact HB.out | apply below_alloc | apply pw_below_drewN | apply below_drew1 | refine below_set ?_ GE117.out) | exact HB.out))) : w.heap.size ≤ g118)); have n5_ := Aside0.mk ((by rw [hg]; exact Nat.ne_of_lt (blk_lt (g := g117) (o := .cells #[.int .u64 a0_0, .int .u64 a0_1, .bool a0_2] 78 (0, 0)) (by exact B117.out)) : g117 ≠ g118)); have n6_ := Aside0.mk ((by rw [hg]; exact Nat.ne_of_gt (blk_lt (g := g117) (o := .cells #[.int .u64 a0_0, .int .u64 a0_1, .bool a0_2] 78 (0, 0)) (by exact B117.out)) : g118 ≠ g117)); clear B117; clear HB; have B117 := n0_; have HB := n1_; have B118 := n2_; have GW118 := n3_; have GE118 := n4_; have NB117_118 := n5_; have NB118_117 := n6_; clear n0_ n1_ n2_ n3_ n4_ n5_ n6_; clear hb hbox hg) | ((with_reducible refine gate_dst (N := 4) rfl ?_); refine box_event ?hg (N := 4) ?hd (cs := #[.int .u64 0, .int .u64 0, .int .u64 0, .int .u64 0]) (t := 80) ?hr ?_; (case hd => rfl); (case hg => rfl); (case hr => first | (go_simp; done) | (go_simp; rfl)); intro g119 hg w5 hbox hb; have n0_ := Aside0.mk (blk_below (g := g117) (o := .cells #[.int .u64 a0_0, .int .u64 a0_1, .bool a0_2] 78 (0, 0)) (by exact B117.out) hb); have n1_ := Aside0.mk (blk_below (g := g118) (o := .cells #[.int .u64 a1_0, .int .u64 a1_1, .int .u64 a1_2, .int .u64 a1_3] 80 (0, 0)) (by exact B118.out) hb); have n2_ := Aside0.mk (below_step (by repeat (first | (with_reducible first | exact HB.out | apply below_alloc | apply pw_below_drewN | apply below_drew1 | refine below_set ?_ GE117.out | refine below_set ?_ GE118.out) | exact HB.out)) hb); have n3_ := Aside0.mk (hbox); have n4_ := Aside0.mk ((by rw [hg]; exact (below_size (by repeat (first | (with_reducible first | exact HB.out | apply below_alloc | apply pw_below_drewN | apply below_drew1 | refine below_set ?_ GE117.out | refine below_set ?_ GE118.out) | exact HB.out))) : w.heap.size ≤ g119)); have n5_ := Aside0.mk ((by rw [hg]; exact (below_size (by repeat (first | (with_reducible first | exact HB.out | apply below_alloc | apply pw_below_drewN | apply below_drew1 | refine below_set ?_ GE117.out | refine below_set ?_ GE118.out) | exact HB.out))) : w.heap.size ≤ g119)); have n6_ := Aside0.mk ((by rw [hg]; exact Nat.ne_of_lt (blk_lt (g := g117) (o := .cells #[.int .u64 a0_0, .int .u64 a0_1, .bool a0_2] 78 (0, 0)) (by exact B117.out)) : g117 ≠ g119)); have n7_ := Aside0.mk ((by rw [hg]; exact Nat.ne_of_gt (blk_lt (g := g117) (o := .cells #[.int .u64 a0_0, .int .u64 a0_1, .bool a0_2] 78 (0, 0)) (by exact B117.out)) : g119 ≠ g117)); have n8_ := Aside0.mk ((by rw [hg]; exact Nat.ne_of_lt (blk_lt (g := g118) (o := .cells #[.int .u64 a1_0, .int .u64 a1_1, .int .u64 a1_2, .int .u64 a1_3] 80 (0, 0)) (by exact B118.out)) : g118 ≠ g119)); have n9_ := Aside0.mk ((by rw [hg]; exact Nat.ne_of_gt (blk_lt (g := g118) (o := .cells #[.int .u64 a1_0, .int .u64 a1_1, .int .u64 a1_2, .int .u64 a1_3] 80 (0, 0)) (by exact B118.out)) : g119 ≠ g118)); clear B117; clear B118; clear HB; have B117 := n0_; have B118 := n1_; have HB := n2_; have B119 := n3_; have GW119 := n4_; have GE119 := n5_; have NB117_119 := n6_; have NB119_117 := n7_; have NB118_119 := n8_; have NB119_118 := n9_; clear n0_ n1_ n2_ n3_ n4_ n5_ n6_ n7_ n8_ n9_; clear hb hbox hg))
 go_loopg [6] k (fun kq v6 w' => ∃ (x6_1 : Int) (x119000_1 : Int) (x119001_1 : Int) (x119002_1 : Int) (x119003_1 : Int), v6 = .int .i64 x6_1 ∧ Aside0 (sponge_mixer_reduced.l0 kq x6_1 a0_0 a0_1 a0_2 x119000_1 x119001_1 x119002_1 x119003_1 = some (r1, r2, r3, r4)) ∧ Aside0 (kq ≤ k) ∧ Aside0 (w'.heap[g117]? = some (.cells #[.int .u64 a0_0, .int .u64 a0_1, .bool a0_2] 78 (0, 0))) ∧ Aside0 (w'.heap[g118]? = some (.cells #[.int .u64 x119000_1, .int .u64 x119001_1, .int .u64 x119002_1, .int .u64 x119003_1] 80 (0, 0))) ∧ Aside0 (w'.heap[g119]? = some (.cells #[.int .u64 0, .int .u64 0, .int .u64 0, .int .u64 0] 80 (0, 0))) ∧ Aside0 (Below w.heap.size w w'))
 case atStart => exact ⟨(0), (a1_0), (a1_1), (a1_2), (a1_3), (by first | rfl | (simp; done) | (simp [*]; done) | (simp; rfl) | (simp; decide +kernel)), H', ⟨Nat.le_refl _⟩, ⟨by exact B117.out⟩, ⟨by exact B118.out⟩, ⟨by exact B119.out⟩, ⟨by repeat (first | (with_reducible first | exact HB.out | apply below_alloc | apply pw_below_drewN | apply below_drew1 | refine below_set ?_ GE117.out | refine below_set ?_ GE118.out | refine below_set ?_ GE119.out) | exact HB.out)⟩⟩
 case round =>
  clear H'
  try clear p2
  try clear c5
  obtain ⟨x6_1, x119000_1, x119001_1, x119002_1, x119003_1, rfl, HA, HK1, B117, B118, B119, HB⟩ := hrel
  cases gk with
  | zero => exact absurd HA.out (by simp [sponge_mixer_reduced.l0])
  | succ k1 =>
   have H := HA.out
   clear HA
   simp only [sponge_mixer_reduced.l0] at H
   by_cases c6 : x6_1 < 4
   ·rw [if_pos c6] at H
    have c6b0 : decide (x6_1 < 4) = true := decide_eq_true c6
    clear c6
    by_cases c7 : 0 ≤ x6_1
    ·rw [if_pos c7] at H
     have c7b0 := eq_true c7
     have c7b1 : decide (0 ≤ x6_1) = true := decide_eq_true c7
     clear c7
     by_cases c8 : a0_0 = 0
     ·rw [if_pos c8] at H
      exact absurd H (by simp)
     ·rw [if_neg c8] at H
      have c8b0 : (a0_0 == 0) = false := beq_eq_false_iff_ne.mpr c8
      have c8b1 : (a0_0 != 0) = true := bne_iff_ne.mpr c8
      have H' := Aside0.mk H
      clear H
      try go_wp2
      have n0_ := Aside0.mk (blk_drew B117.out)
      have n1_ := Aside0.mk (blk_drew B118.out)
      have n2_ := Aside0.mk (blk_drew B119.out)
      have n3_ := Aside0.mk (below_drew1 HB.out)
      clear B117
      clear B118
      clear B119
      clear HB
      have B117 := n0_
      have B118 := n1_
      have B119 := n2_
      have HB := n3_
      clear n0_ n1_ n2_ n3_
      have hlt10 : (x6_1 < 4) = True := eq_true (of_decide_eq_true (by first | (with_reducible assumption) | assumption))
      have hge11 : (0 ≤ x6_1) = True := eq_true (of_decide_eq_true (by first | (with_reducible assumption) | assumption))
      have hlt14 : (x6_1 < 4) = True := eq_true (of_decide_eq_true (by first | (with_reducible assumption) | assumption))
      have hge15 : (0 ≤ x6_1) = True := eq_true (of_decide_eq_true (by first | (with_reducible assumption) | assumption))
      refine start_ (n := 8) (S := fun w' => w'.cell? ⟨g117, 0, none⟩ = some (.int .u64 a0_0) ∧ w'.cell? ⟨g117, 1, none⟩ = some (.int .u64 a0_1) ∧ w'.cell? ⟨g117, 2, none⟩ = some (.bool a0_2) ∧ w'.cell? ⟨g118, (x6_1).toNat, none⟩ = some (.int .u64 (rd ([x119000_1, x119001_1, x119002_1, x119003_1] : List Int) x6_1))) (ds := [7]) z55_0_ (by kernel_rfl) rfl rfl ⟨bq_ B117 0, bq_ B117 1, bq_ B117 2, (sel_at (pre := []) (l := ([x119000_1, x119001_1, x119002_1, x119003_1] : List Int)) (post := []) B118.out rfl (by simp) (of_decide_eq_true (by first | (with_reducible assumption) | assumption)) (of_decide_eq_true (by first | (with_reducible assumption) | assumption)))⟩ (fun hL => ?_); refine with_tabW sponge_mixer_reduced.tab4 sponge_mixer_reduced.bits4 (fun T_ W_ => ?_)
      generalize wr.drew = w9 at B117 B118 B119 HB hL ⊢
      refine pure_ (i := 0) (N := some 9) (v := ?_) (a' := ?_) z55_1_ rfl rfl (an_ T_) (fun _ _ _ h => h) (Or.inl ⟨by rfl, ?_⟩) ?_ ?_
      rotate_left; · intro w'; go_simp; with_reducible rfl
      rotate_left; · simp only [Act.put, sa_, sb_, sc_, i64_w, i32_w]; rfl
      refine pure_ (i := 1) (N := some 10) (v := ?_) (a' := ?_) z55_2_ rfl rfl (an_ T_) (fun _ _ _ h => h) (Or.inl ⟨by rfl, ?_⟩) ?_ ?_
      rotate_left; · intro w'; go_simp; with_reducible rfl
      rotate_left; · simp only [Act.put, sa_, sb_, sc_, i64_w, i32_w]; rfl
      refine pure_ (i := 3) (N := some 12) (v := ?_) (a' := ?_) z55_3_ rfl rfl (an_ T_) (fun _ _ _ h => h) (Or.inl ⟨by rfl, ?_⟩) ?_ ?_
      rotate_left; · intro w'; go_simp; with_reducible rfl
      rotate_left; · simp only [Act.put, sa_, sb_, sc_, i64_w, i32_w]; rfl
      refine take_ (i := 2) (N := some 11) (v := ?_) (a' := ?_) z55_4_ rfl rfl (tk_ T_ W_) (fun _ _ _ h => h) (Or.inl ⟨by rfl, ?_⟩) hL ?_ ?_
      rotate_left
      ·rintro w' ⟨s0, s1, s2, s3⟩
       go_simp
       with_reducible rfl
      rotate_left
      ·simp only [Act.put, sa_, sb_, sc_, i64_w, i32_w]
       rfl
      refine take_ (i := 4) (N := some 13) (v := ?_) (a' := ?_) z55_5_ rfl rfl (tk_ T_ W_) (fun _ _ _ h => h) (Or.inl ⟨by rfl, ?_⟩) hL ?_ ?_
      rotate_left
      ·rintro w' ⟨s0, s1, s2, s3⟩
       go_simp
       with_reducible rfl
      rotate_left
      ·simp only [Act.put, sa_, sb_, sc_, i64_w, i32_w]
       rfl
      refine pure_ (i := 5) (N := some 14) (v := ?_) (a' := ?_) z55_6_ rfl rfl (an_ T_) (fun _ _ _ h => h) (Or.inl ⟨by rfl, ?_⟩) ?_ ?_
      rotate_left; · intro w'; go_simp; with_reducible rfl
      rotate_left; · simp only [Act.put, sa_, sb_, sc_, i64_w, i32_w]; rfl
      refine pure_ (i := 6) (N := some 15) (v := ?_) (a' := ?_) z55_7_ rfl rfl (an_ T_) (fun _ _ _ h => h) (Or.inl ⟨by rfl, ?_⟩) ?_ ?_
      rotate_left; · intro w'; go_simp; with_reducible rfl
      rotate_left; · simp only [Act.put, sa_, sb_, sc_, i64_w, i32_w]; rfl
      refine last_ (i := 7) (N := none) z55_8_ rfl rfl (on_ T_) (by decide) (fun K hK => ?_)
      have hsv12 : w9.cell? ⟨g118, (x6_1).toNat, none⟩ = some (.int .u64 (rd ([x119000_1, x119001_1, x119002_1, x119003_1] : List Int) x6_1)) := (sel_at (pre := []) (l := ([x119000_1, x119001_1, x119002_1, x119003_1] : List Int)) (post := []) B118.out rfl (by simp) (of_decide_eq_true (by first | (with_reducible assumption) | assumption)) (of_decide_eq_true (by first | (with_reducible assumption) | assumption)))
      have hfv13 := blk_frozen B118.out ((x6_1).toNat)
      have hns16_0 := NB117_118.out
      have hns16_2 := NB119_118.out
      have hms16_0 := NB118_117.out
      have hms16_2 := NB118_119.out
      refine skip_ (w1 := ?_) (by rfl) rfl ?_ ?_
      rotate_left
      ·go_simp
       rfl
      refine hK.out _ _ ?_
      clear hK K
      refine done_ (done_of T_.out (by kernel_rfl)) ?_
      try go_wp2
      go_roundg k1
      case measure => have := HK1.out; omega
      case rel => exact ⟨(wrap64 (x6_1 + 1)), ((updv x119000_1 0 x6_1 (Int.tmod (rd ([x119000_1, x119001_1, x119002_1, x119003_1] : List Int) x6_1) a0_0))), ((updv x119001_1 1 x6_1 (Int.tmod (rd ([x119000_1, x119001_1, x119002_1, x119003_1] : List Int) x6_1) a0_0))), ((updv x119002_1 2 x6_1 (Int.tmod (rd ([x119000_1, x119001_1, x119002_1, x119003_1] : List Int) x6_1) a0_0))), ((updv x119003_1 3 x6_1 (Int.tmod (rd ([x119000_1, x119001_1, x119002_1, x119003_1] : List Int) x6_1) a0_0))), (by first | rfl | (simp; done) | (simp [*]; done) | (simp; rfl) | (simp; decide +kernel)), H', ⟨by have := HK1.out; omega⟩, ⟨by refine blk_far ?_ NB117_118.out _; exact B117.out⟩, ⟨by refine sel_put (pre := []) (l := ([x119000_1, x119001_1, x119002_1, x119003_1] : List Int)) (post := []) ?_ rfl rfl (by simp) (of_decide_eq_true (by first | (with_reducible assumption) | assumption)) (of_decide_eq_true (by first | (with_reducible assumption) | assumption)); exact B118.out⟩, ⟨by refine blk_far ?_ NB119_118.out _; exact B119.out⟩, ⟨by repeat (first | (with_reducible first | exact HB.out | apply below_alloc | apply pw_below_drewN | apply below_drew1 | refine below_set ?_ GE117.out | refine below_set ?_ GE118.out | refine below_set ?_ GE119.out) | exact HB.out)⟩⟩
    ·rw [if_neg c7] at H
     exact absurd H (by simp)
   ·rw [if_neg c6] at H
    have c6b0 : decide (x6_1 < 4) = false := decide_eq_false c6
    clear c6
    simp only [Option.some.injEq, Prod.mk.injEq] at H
    obtain ⟨rfl, rfl, rfl, rfl⟩ := H
    have hnb17 := NB118_117.out
    have hnc17 := NB117_118.out
    have hnb18 := NB118_119.out
    have hnc18 := NB119_118.out
    have hcz19_0 : wr.cell? ⟨g118, 0, none⟩ = some (.int .u64 x119000_1) := bq_ B118 0
    have hcz19_1 : wr.cell? ⟨g118, 1, none⟩ = some (.int .u64 x119001_1) := bq_ B118 1
    have hcz19_2 : wr.cell? ⟨g118, 2, none⟩ = some (.int .u64 x119002_1) := bq_ B118 2
    have hcz19_3 : wr.cell? ⟨g118, 3, none⟩ = some (.int .u64 x119003_1) := bq_ B118 3
    have hfz19_0 := blk_frozen B118.out 0
    have hfz19_1 := blk_frozen B118.out 1
    have hfz19_2 := blk_frozen B118.out 2
    have hfz19_3 := blk_frozen B118.out 3
    have hnb20 := NB119_117.out
    have hnc20 := NB117_119.out
    have hcz21_0 : wr.cell? ⟨g119, 0, none⟩ = some (.int .u64 0) := bq_ B119 0
    have hcz21_1 : wr.cell? ⟨g119, 1, none⟩ = some (.int .u64 0) := bq_ B119 1
    have hcz21_2 : wr.cell? ⟨g119, 2, none⟩ = some (.int .u64 0) := bq_ B119 2
    have hcz21_3 : wr.cell? ⟨g119, 3, none⟩ = some (.int .u64 0) := bq_ B119 3
    have hfz21_0 := blk_frozen B119.out 0
    have hfz21_1 := blk_frozen B119.out 1
    have hfz21_2 := blk_frozen B119.out 2
    have hfz21_3 := blk_frozen B119.out 3
    go_wp2
    refine bodyPost_ret (results_cell_row rfl _ _ g119 80 #[.int .u64 x119000_1, .int .u64 x119001_1, .int .u64 x119002_1, .int .u64 x119003_1] (0, 0) _ rfl (by refine blk_put (cs := #[.int .u64 x119000_1, .int .u64 x119001_1, .int .u64 x119002_1, .int .u64 0]) ?_ 3 _ rfl; refine blk_put (cs := #[.int .u64 x119000_1, .int .u64 x119001_1, .int .u64 0, .int .u64 0]) ?_ 2 _ rfl; refine blk_put (cs := #[.int .u64 x119000_1, .int .u64 0, .int .u64 0, .int .u64 0]) ?_ 1 _ rfl; refine blk_put (cs := #[.int .u64 0, .int .u64 0, .int .u64 0, .int .u64 0]) ?_ 0 _ rfl; exact B119.out) Tryd.underlying80 rfl (by kernel_rfl)) rfl ?_
    exact ⟨by first | rfl | (simp [errW_none, errW_some] <;> rfl) | (simp [*, errW_none, errW_some] <;> rfl), by repeat (first | (with_reducible first | exact HB.out | apply below_alloc | apply pw_below_drewN | apply below_drew1 | refine below_set ?_ GE117.out | refine below_set ?_ GE118.out | refine below_set ?_ GE119.out) | exact HB.out)⟩

end Go.Proofs.YtpnpmeogffodgaaDoor.Q
end
section
namespace Go.Proofs.YtpnpmeogffodgaaDoor.Q
open Go.RowKit Go.Proofs.YtpnpmeogffodgaaDoorW.PrintWords Go.Proofs.YtpnpmeogffodgaaDoorW.PrintLast Go.Proofs.YtpnpmeogffodgaaDoorW.PrintMore
attribute [local go_sem] max2_int min2_int max_two min_two max_three min_three max_four min_four run_store_fnV run_store_fnc run_store_nfn   -- for this text's walks alone
set_option linter.unusedVariables false
set_option linter.unusedSimpArgs false

/-! ### sponge_mixer_power: function 73 -/
def sponge_mixer_power.f (a0_0 : Int) (a0_1 : Int) (a0_2 : Bool) (a1 : Int) : Option (Int) := if a0_0 = 0 then (none) else (if a0_2 = true then (some (Int.tmod (IntKind.u64.wrap ((Int.tmod (IntKind.u64.wrap ((Int.tmod (IntKind.u64.wrap (a1 * a1)) a0_0) * (Int.tmod (IntKind.u64.wrap (a1 * a1)) a0_0))) a0_0) * a1)) a0_0)) else (some (Int.tmod (IntKind.u64.wrap ((Int.tmod (IntKind.u64.wrap (a1 * a1)) a0_0) * a1)) a0_0)))
set_option maxHeartbeats 8000000 in
set_option maxRecDepth 100000 in
theorem sponge_mixer_power.calls (a0_0 : Int) (a0_1 : Int) (a0_2 : Bool) (a1 : Int) (r : Int) (w : World) (h : sponge_mixer_power.f a0_0 a0_1 a0_2 a1 = some r) :
    Calls Tryd.prog 73 #[.agg #[.int .u64 a0_0, .int .u64 a0_1, .bool a0_2], .int .u64 a1] w fun e w' => e = .returned (.int .u64 r) ∧ Below w.heap.size w w' := by
  have hu78 := Tryd.underlying78
  have HB := Aside0.mk (Below.refl w.heap.size w)
  have H : (if a0_0 = 0 then (none) else (if a0_2 = true then (some (Int.tmod (IntKind.u64.wrap ((Int.tmod (IntKind.u64.wrap ((Int.tmod (IntKind.u64.wrap (a1 * a1)) a0_0) * (Int.tmod (IntKind.u64.wrap (a1 * a1)) a0_0))) a0_0) * a1)) a0_0)) else (some (Int.tmod (IntKind.u64.wrap ((Int.tmod (IntKind.u64.wrap (a1 * a1)) a0_0) * a1)) a0_0)))) = some r := h
  clear h
  by_cases c3 : a0_0 = 0
  · rw [if_pos c3] at H
    exact absurd H (by simp)
  · rw [if_neg c3] at H
    have c3b0 : (a0_0 == 0) = false := beq_eq_false_iff_ne.mpr c3
    have c3b1 : (a0_0 != 0) = true := bne_iff_ne.mpr c3
    by_cases c4 : a0_2 = true
    · subst c4
      have H1 : (some (Int.tmod (IntKind.u64.wrap ((Int.tmod (IntKind.u64.wrap ((Int.tmod (IntKind.u64.wrap (a1 * a1)) a0_0) * (Int.tmod (IntKind.u64.wrap (a1 * a1)) a0_0))) a0_0) * a1)) a0_0)) = some r := by rw [if_pos rfl] at H; exact H
      clear H
      have H := H1
      clear H1
      obtain rfl := Option.some.inj H
      go_enter Tryd.func73, Tryd.ntmps73
      go_wp2_with (first | ((with_reducible refine gate_dst (N := 2) rfl ?_); refine box_event ?hg (N := 2) ?hd (cs := #[.int .u64 a0_0, .int .u64 a0_1, .bool true]) (t := 78) ?hr ?_; (case hd => rfl); (case hg => rfl); (case hr => first | (go_simp; done) | (go_simp; rfl)); intro gb120 hg w5 hbox hb; have n0_ := Aside0.mk (below_step (by repeat (first | (with_reducible first | exact HB.out | apply below_alloc | apply pw_below_drewN | apply below_drew1) | exact HB.out)) hb); have n1_ := Aside0.mk (hbox); have n2_ := Aside0.mk ((by rw [hg]; exact (below_size (by repeat (first | (with_reducible first | exact HB.out | apply below_alloc | apply pw_below_drewN | apply below_drew1) | exact HB.out))) : w.heap.size ≤ gb120)); have n3_ := Aside0.mk ((by rw [hg]; exact (below_size (by repeat (first | (with_reducible first | exact HB.out | apply below_alloc | apply pw_below_drewN | apply below_drew1) | exact HB.out))) : w.heap.size ≤ gb120)); clear HB; have HB := n0_; have BK120 := n1_; have GW120 := n2_; have GE120 := n3_; clear n0_ n1_ n2_ n3_; clear hb hbox hg; have hcz6_0 : w5.cell? ⟨gb120, 0, none⟩ = some (.int .u64 a0_0) := (blk_cell BK120.out 0).trans rfl; have hcz6_1 : w5.cell? ⟨gb120, 1, none⟩ = some (.int .u64 a0_1) := (blk_cell BK120.out 1).trans rfl; have hcz6_2 : w5.cell? ⟨gb120, 2, none⟩ = some (.bool true) := (blk_cell BK120.out 2).trans rfl; have hfz6_0 := blk_frozen BK120.out 0; have hfz6_1 := blk_frozen BK120.out 1; have hfz6_2 := blk_frozen BK120.out 2))
      go_ret
      exact ⟨by first | rfl | (simp [errW_none, errW_some] <;> rfl) | (simp [*, errW_none, errW_some] <;> rfl), by repeat (first | (with_reducible first | exact HB.out | apply below_alloc | apply pw_below_drewN | apply below_drew1 | refine below_set ?_ GE120.out) | exact HB.out)⟩
    · replace c4 := Bool.eq_false_iff.mpr c4
      subst c4
      have H1 : (some (Int.tmod (IntKind.u64.wrap ((Int.tmod (IntKind.u64.wrap (a1 * a1)) a0_0) * a1)) a0_0)) = some r := by rw [if_neg (show ¬ (false = true) by decide)] at H; exact H
      clear H
      have H := H1
      clear H1
      obtain rfl := Option.some.inj H
      go_enter Tryd.func73, Tryd.ntmps73
      go_wp2_with (first | ((with_reducible refine gate_dst (N := 2) rfl ?_); refine box_event ?hg (N := 2) ?hd (cs := #[.int .u64 a0_0, .int .u64 a0_1, .bool false]) (t := 78) ?hr ?_; (case hd => rfl); (case hg => rfl); (case hr => first | (go_simp; done) | (go_simp; rfl)); intro gb120 hg w7 hbox hb; have n0_ := Aside0.mk (below_step (by repeat (first | (with_reducible first | exact HB.out | apply below_alloc | apply pw_below_drewN | apply below_drew1) | exact HB.out)) hb); have n1_ := Aside0.mk (hbox); have n2_ := Aside0.mk ((by rw [hg]; exact (below_size (by repeat (first | (with_reducible first | exact HB.out | apply below_alloc | apply pw_below_drewN | apply below_drew1) | exact HB.out))) : w.heap.size ≤ gb120)); have n3_ := Aside0.mk ((by rw [hg]; exact (below_size (by repeat (first | (with_reducible first | exact HB.out | apply below_alloc | apply pw_below_drewN | apply below_drew1) | exact HB.out))) : w.heap.size ≤ gb120)); clear HB; have HB := n0_; have BK120 := n1_; have GW120 := n2_; have GE120 := n3_; clear n0_ n1_ n2_ n3_; clear hb hbox hg; have hcz8_0 : w7.cell? ⟨gb120, 0, none⟩ = some (.int .u64 a0_0) := (blk_cell BK120.out 0).trans rfl; have hcz8_1 : w7.cell? ⟨gb120, 1, none⟩ = some (.int .u64 a0_1) := (blk_cell BK120.out 1).trans rfl; have hcz8_2 : w7.cell? ⟨gb120, 2, none⟩ = some (.bool false) := (blk_cell BK120.out 2).trans rfl; have hfz8_0 := blk_frozen BK120.out 0; have hfz8_1 := blk_frozen BK120.out 1; have hfz8_2 := blk_frozen BK120.out 2))
      go_ret
      exact ⟨by first | rfl | (simp [errW_none, errW_some] <;> rfl) | (simp [*, errW_none, errW_some] <;> rfl), by repeat (first | (with_reducible first | exact HB.out | apply below_alloc | apply pw_below_drewN | apply below_drew1 | refine below_set ?_ GE120.out) | exact HB.out)⟩

end Go.Proofs.YtpnpmeogffodgaaDoor.Q
end
section
namespace Go.Proofs.YtpnpmeogffodgaaDoor.Q
open Go.RowKit Go.Proofs.YtpnpmeogffodgaaDoorW.PrintWords Go.Proofs.YtpnpmeogffodgaaDoorW.PrintLast Go.Proofs.YtpnpmeogffodgaaDoorW.PrintMore
attribute [local go_sem] max2_int min2_int max_two min_two max_three min_three max_four min_four run_store_fnV run_store_fnc run_store_nfn   -- for this text's walks alone
set_option linter.unusedVariables false
set_option linter.unusedSimpArgs false

abbrev z67_0_ : Array Bool := #[false, false, false, false, false, false, false, false, false, false, false, false, false, false]
abbrev z67_1_ : Array Bool := #[true, false, false, false, false, false, false, false, false, false, false, false, false, false]
abbrev z67_2_ : Array Bool := #[true, false, true, false, false, false, false, false, false, false, false, false, false, false]
abbrev z67_3_ : Array Bool := #[true, false, true, true, false, false, false, false, false, false, false, false, false, false]
abbrev z67_4_ : Array Bool := #[true, false, true, true, false, true, false, false, false, false, false, false, false, false]
abbrev z67_5_ : Array Bool := #[true, false, true, true, false, true, false, false, true, false, false, false, false, false]
abbrev z67_6_ : Array Bool := #[true, true, true, true, false, true, false, false, true, false, false, false, false, false]
abbrev z67_7_ : Array Bool := #[true, true, true, true, true, true, false, false, true, false, false, false, false, false]
abbrev z67_8_ : Array Bool := #[true, true, true, true, true, true, true, false, true, false, false, false, false, false]
abbrev z67_9_ : Array Bool := #[true, true, true, true, true, true, true, true, true, false, false, false, false, false]
abbrev z67_10_ : Array Bool := #[true, true, true, true, true, true, true, true, true, true, false, false, false, false]
abbrev z67_11_ : Array Bool := #[true, true, true, true, true, true, true, true, true, true, true, false, false, false]
abbrev z67_12_ : Array Bool := #[true, true, true, true, true, true, true, true, true, true, true, true, false, false]
abbrev z67_13_ : Array Bool := #[true, true, true, true, true, true, true, true, true, true, true, true, true, false]
abbrev z67_14_ : Array Bool := #[true, true, true, true, true, true, true, true, true, true, true, true, true, true]
abbrev z67_15_ : Array Bool := #[false, false, false, false, false, false, false, false, false, false, false, false, false, false, false, false, false, false, false, false, false, false, false, false, false, false, false, false, false, false, false, false, false, false, false, false, false, false, false, false, false, false, false, false, false, false, false, false]
abbrev z67_16_ : Array Bool := #[true, false, false, false, false, false, false, false, false, false, false, false, false, false, false, false, false, false, false, false, false, false, false, false, false, false, false, false, false, false, false, false, false, false, false, false, false, false, false, false, false, false, false, false, false, false, false, false]
abbrev z67_17_ : Array Bool := #[true, true, false, false, false, false, false, false, false, false, false, false, false, false, false, false, false, false, false, false, false, false, false, false, false, false, false, false, false, false, false, false, false, false, false, false, false, false, false, false, false, false, false, false, false, false, false, false]
abbrev z67_18_ : Array Bool := #[true, true, true, false, false, false, false, false, false, false, false, false, false, false, false, false, false, false, false, false, false, false, false, false, false, false, false, false, false, false, false, false, false, false, false, false, false, false, false, false, false, false, false, false, false, false, false, false]
abbrev z67_19_ : Array Bool := #[true, true, true, false, false, true, false, false, false, false, false, false, false, false, false, false, false, false, false, false, false, false, false, false, false, false, false, false, false, false, false, false, false, false, false, false, false, false, false, false, false, false, false, false, false, false, false, false]
abbrev z67_20_ : Array Bool := #[true, true, true, false, false, true, false, false, false, true, false, false, false, false, false, false, false, false, false, false, false, false, false, false, false, false, false, false, false, false, false, false, false, false, false, false, false, false, false, false, false, false, false, false, false, false, false, false]
abbrev z67_21_ : Array Bool := #[true, true, true, false, false, true, false, false, false, true, false, false, true, false, false, false, false, false, false, false, false, false, false, false, false, false, false, false, false, false, false, false, false, false, false, false, false, false, false, false, false, false, false, false, false, false, false, false]
abbrev z67_22_ : Array Bool := #[true, true, true, false, false, true, false, false, false, true, false, false, true, true, false, false, false, false, false, false, false, false, false, false, false, false, false, false, false, false, false, false, false, false, false, false, false, false, false, false, false, false, false, false, false, false, false, false]
abbrev z67_23_ : Array Bool := #[true, true, true, false, false, true, false, false, false, true, false, false, true, true, false, false, true, false, false, false, false, false, false, false, false, false, false, false, false, false, false, false, false, false, false, false, false, false, false, false, false, false, false, false, false, false, false, false]
abbrev z67_24_ : Array Bool := #[true, true, true, false, false, true, false, false, false, true, false, false, true, true, false, false, true, false, false, false, true, false, false, false, false, false, false, false, false, false, false, false, false, false, false, false, false, false, false, false, false, false, false, false, false, false, false, false]
abbrev z67_25_ : Array Bool := #[true, true, true, false, false, true, false, false, false, true, false, false, true, true, false, false, true, false, false, false, true, false, false, true, false, false, false, false, false, false, false, false, false, false, false, false, false, false, false, false, false, false, false, false, false, false, false, false]
abbrev z67_26_ : Array Bool := #[true, true, true, false, false, true, false, false, false, true, false, false, true, true, false, false, true, false, false, false, true, false, false, true, true, false, false, false, false, false, false, false, false, false, false, false, false, false, false, false, false, false, false, false, false, false, false, false]
abbrev z67_27_ : Array Bool := #[true, true, true, false, false, true, false, false, false, true, false, false, true, true, false, false, true, false, false, false, true, false, false, true, true, false, false, true, false, false, false, false, false, false, false, false, false, false, false, false, false, false, false, false, false, false, false, false]
abbrev z67_28_ : Array Bool := #[true, true, true, false, false, true, false, false, false, true, false, false, true, true, false, false, true, false, false, false, true, false, false, true, true, false, false, true, false, false, false, true, false, false, false, false, false, false, false, false, false, false, false, false, false, false, false, false]
abbrev z67_29_ : Array Bool := #[true, true, true, false, false, true, false, false, false, true, false, false, true, true, false, false, true, false, false, false, true, false, false, true, true, false, false, true, false, false, false, true, false, false, true, false, false, false, false, false, false, false, false, false, false, false, false, false]
abbrev z67_30_ : Array Bool := #[true, true, true, false, false, true, false, false, false, true, false, false, true, true, false, false, true, false, false, false, true, false, false, true, true, false, false, true, false, false, false, true, false, false, true, true, false, false, false, false, false, false, false, false, false, false, false, false]
abbrev z67_31_ : Array Bool := #[true, true, true, false, false, true, false, false, false, true, false, false, true, true, false, false, true, false, false, false, true, false, false, true, true, false, false, true, false, false, false, true, false, false, true, true, false, false, true, false, false, false, false, false, false, false, false, false]
abbrev z67_32_ : Array Bool := #[true, true, true, false, false, true, false, false, false, true, false, false, true, true, false, false, true, false, false, false, true, false, false, true, true, false, false, true, false, false, false, true, false, false, true, true, false, false, true, false, false, false, true, false, false, false, false, false]
abbrev z67_33_ : Array Bool := #[true, true, true, false, false, true, false, false, false, true, false, false, true, true, false, false, true, false, false, false, true, false, false, true, true, false, false, true, false, false, false, true, false, false, true, true, false, false, true, false, false, false, true, false, false, false, true, false]
abbrev z67_34_ : Array Bool := #[true, true, true, true, false, true, false, false, false, true, false, false, true, true, false, false, true, false, false, false, true, false, false, true, true, false, false, true, false, false, false, true, false, false, true, true, false, false, true, false, false, false, true, false, false, false, true, false]
abbrev z67_35_ : Array Bool := #[true, true, true, true, true, true, false, false, false, true, false, false, true, true, false, false, true, false, false, false, true, false, false, true, true, false, false, true, false, false, false, true, false, false, true, true, false, false, true, false, false, false, true, false, false, false, true, false]
abbrev z67_36_ : Array Bool := #[true, true, true, true, true, true, true, false, false, true, false, false, true, true, false, false, true, false, false, false, true, false, false, true, true, false, false, true, false, false, false, true, false, false, true, true, false, false, true, false, false, false, true, false, false, false, true, false]
abbrev z67_37_ : Array Bool := #[true, true, true, true, true, true, true, true, false, true, false, false, true, true, false, false, true, false, false, false, true, false, false, true, true, false, false, true, false, false, false, true, false, false, true, true, false, false, true, false, false, false, true, false, false, false, true, false]
abbrev z67_38_ : Array Bool := #[true, true, true, true, true, true, true, true, true, true, false, false, true, true, false, false, true, false, false, false, true, false, false, true, true, false, false, true, false, false, false, true, false, false, true, true, false, false, true, false, false, false, true, false, false, false, true, false]
abbrev z67_39_ : Array Bool := #[true, true, true, true, true, true, true, true, true, true, true, false, true, true, false, false, true, false, false, false, true, false, false, true, true, false, false, true, false, false, false, true, false, false, true, true, false, false, true, false, false, false, true, false, false, false, true, false]
abbrev z67_40_ : Array Bool := #[true, true, true, true, true, true, true, true, true, true, true, true, true, true, false, false, true, false, false, false, true, false, false, true, true, false, false, true, false, false, false, true, false, false, true, true, false, false, true, false, false, false, true, false, false, false, true, false]
abbrev z67_41_ : Array Bool := #[true, true, true, true, true, true, true, true, true, true, true, true, true, true, true, false, true, false, false, false, true, false, false, true, true, false, false, true, false, false, false, true, false, false, true, true, false, false, true, false, false, false, true, false, false, false, true, false]
abbrev z67_42_ : Array Bool := #[true, true, true, true, true, true, true, true, true, true, true, true, true, true, true, true, true, false, false, false, true, false, false, true, true, false, false, true, false, false, false, true, false, false, true, true, false, false, true, false, false, false, true, false, false, false, true, false]
abbrev z67_43_ : Array Bool := #[true, true, true, true, true, true, true, true, true, true, true, true, true, true, true, true, true, true, false, false, true, false, false, true, true, false, false, true, false, false, false, true, false, false, true, true, false, false, true, false, false, false, true, false, false, false, true, false]
abbrev z67_44_ : Array Bool := #[true, true, true, true, true, true, true, true, true, true, true, true, true, true, true, true, true, true, true, false, true, false, false, true, true, false, false, true, false, false, false, true, false, false, true, true, false, false, true, false, false, false, true, false, false, false, true, false]
abbrev z67_45_ : Array Bool := #[true, true, true, true, true, true, true, true, true, true, true, true, true, true, true, true, true, true, true, true, true, false, false, true, true, false, false, true, false, false, false, true, false, false, true, true, false, false, true, false, false, false, true, false, false, false, true, false]
abbrev z67_46_ : Array Bool := #[true, true, true, true, true, true, true, true, true, true, true, true, true, true, true, true, true, true, true, true, true, true, false, true, true, false, false, true, false, false, false, true, false, false, true, true, false, false, true, false, false, false, true, false, false, false, true, false]
abbrev z67_47_ : Array Bool := #[true, true, true, true, true, true, true, true, true, true, true, true, true, true, true, true, true, true, true, true, true, true, true, true, true, false, false, true, false, false, false, true, false, false, true, true, false, false, true, false, false, false, true, false, false, false, true, false]
abbrev z67_48_ : Array Bool := #[true, true, true, true, true, true, true, true, true, true, true, true, true, true, true, true, true, true, true, true, true, true, true, true, true, true, false, true, false, false, false, true, false, false, true, true, false, false, true, false, false, false, true, false, false, false, true, false]
abbrev z67_49_ : Array Bool := #[true, true, true, true, true, true, true, true, true, true, true, true, true, true, true, true, true, true, true, true, true, true, true, true, true, true, true, true, false, false, false, true, false, false, true, true, false, false, true, false, false, false, true, false, false, false, true, false]
abbrev z67_50_ : Array Bool := #[true, true, true, true, true, true, true, true, true, true, true, true, true, true, true, true, true, true, true, true, true, true, true, true, true, true, true, true, true, false, false, true, false, false, true, true, false, false, true, false, false, false, true, false, false, false, true, false]
abbrev z67_51_ : Array Bool := #[true, true, true, true, true, true, true, true, true, true, true, true, true, true, true, true, true, true, true, true, true, true, true, true, true, true, true, true, true, true, false, true, false, false, true, true, false, false, true, false, false, false, true, false, false, false, true, false]
abbrev z67_52_ : Array Bool := #[true, true, true, true, true, true, true, true, true, true, true, true, true, true, true, true, true, true, true, true, true, true, true, true, true, true, true, true, true, true, true, true, false, false, true, true, false, false, true, false, false, false, true, false, false, false, true, false]
abbrev z67_53_ : Array Bool := #[true, true, true, true, true, true, true, true, true, true, true, true, true, true, true, true, true, true, true, true, true, true, true, true, true, true, true, true, true, true, true, true, true, false, true, true, false, false, true, false, false, false, true, false, false, false, true, false]
abbrev z67_54_ : Array Bool := #[true, true, true, true, true, true, true, true, true, true, true, true, true, true, true, true, true, true, true, true, true, true, true, true, true, true, true, true, true, true, true, true, true, true, true, true, false, false, true, false, false, false, true, false, false, false, true, false]
abbrev z67_55_ : Array Bool := #[true, true, true, true, true, true, true, true, true, true, true, true, true, true, true, true, true, true, true, true, true, true, true, true, true, true, true, true, true, true, true, true, true, true, true, true, true, false, true, false, false, false, true, false, false, false, true, false]
abbrev z67_56_ : Array Bool := #[true, true, true, true, true, true, true, true, true, true, true, true, true, true, true, true, true, true, true, true, true, true, true, true, true, true, true, true, true, true, true, true, true, true, true, true, true, true, true, false, false, false, true, false, false, false, true, false]
abbrev z67_57_ : Array Bool := #[true, true, true, true, true, true, true, true, true, true, true, true, true, true, true, true, true, true, true, true, true, true, true, true, true, true, true, true, true, true, true, true, true, true, true, true, true, true, true, true, false, false, true, false, false, false, true, false]
abbrev z67_58_ : Array Bool := #[true, true, true, true, true, true, true, true, true, true, true, true, true, true, true, true, true, true, true, true, true, true, true, true, true, true, true, true, true, true, true, true, true, true, true, true, true, true, true, true, true, false, true, false, false, false, true, false]
abbrev z67_59_ : Array Bool := #[true, true, true, true, true, true, true, true, true, true, true, true, true, true, true, true, true, true, true, true, true, true, true, true, true, true, true, true, true, true, true, true, true, true, true, true, true, true, true, true, true, true, true, false, false, false, true, false]
abbrev z67_60_ : Array Bool := #[true, true, true, true, true, true, true, true, true, true, true, true, true, true, true, true, true, true, true, true, true, true, true, true, true, true, true, true, true, true, true, true, true, true, true, true, true, true, true, true, true, true, true, true, false, false, true, false]
abbrev z67_61_ : Array Bool := #[true, true, true, true, true, true, true, true, true, true, true, true, true, true, true, true, true, true, true, true, true, true, true, true, true, true, true, true, true, true, true, true, true, true, true, true, true, true, true, true, true, true, true, true, true, false, true, false]
abbrev z67_62_ : Array Bool := #[true, true, true, true, true, true, true, true, true, true, true, true, true, true, true, true, true, true, true, true, true, true, true, true, true, true, true, true, true, true, true, true, true, true, true, true, true, true, true, true, true, true, true, true, true, true, true, false]
abbrev z67_63_ : Array Bool := #[true, true, true, true, true, true, true, true, true, true, true, true, true, true, true, true, true, true, true, true, true, true, true, true, true, true, true, true, true, true, true, true, true, true, true, true, true, true, true, true, true, true, true, true, true, true, true, true]
/-! ### sponge_mixer_round: function 67 -/
def sponge_mixer_round.l0 : Nat → Int → Int → Int → Int → Bool → Int → Int → Int → Int → Option (Int × Int × Int × Int × Int)
  | 0, _, _, _, _, _, _, _, _, _ => none
  | k + 1, x1, x10, x122000, x122001, x122002, x123000, x123001, x123002, x123003 => if x10 < 4 then (if x122000 = 0 then (none) else (if 0 ≤ x10 then ((sponge_mixer_power.f x122000 x122001 x122002 (Int.tmod (IntKind.u64.wrap ((IntKind.u64.wrap ((rd ([x123000, x123001, x123002, x123003] : List Int) x10) + (Int.tmod (IntKind.u64.wrap (x1 * x122001)) x122000))) + 7)) x122000)).bind fun t124 => (sponge_mixer_round.l0 k (Int.tmod (IntKind.u64.wrap (x1 * x122001)) x122000) (wrap64 (x10 + 1)) x122000 x122001 x122002 (updv x123000 0 x10 t124) (updv x123001 1 x10 t124) (updv x123002 2 x10 t124) (updv x123003 3 x10 t124))) else (none))) else (if x122000 = 0 then (none) else (some (x1, Int.tmod (IntKind.u64.wrap ((IntKind.u64.wrap ((IntKind.u64.wrap ((IntKind.u64.wrap ((IntKind.u64.wrap (x123000 + x123001)) + x123002)) + x123003)) + x123000)) + (IntKind.u64.wrap (2 * x123001)))) x122000, Int.tmod (IntKind.u64.wrap ((IntKind.u64.wrap ((IntKind.u64.wrap ((IntKind.u64.wrap ((IntKind.u64.wrap (x123000 + x123001)) + x123002)) + x123003)) + x123001)) + (IntKind.u64.wrap (2 * x123002)))) x122000, Int.tmod (IntKind.u64.wrap ((IntKind.u64.wrap ((IntKind.u64.wrap ((IntKind.u64.wrap ((IntKind.u64.wrap (x123000 + x123001)) + x123002)) + x123003)) + x123002)) + (IntKind.u64.wrap (2 * x123003)))) x122000, Int.tmod (IntKind.u64.wrap ((IntKind.u64.wrap ((IntKind.u64.wrap ((IntKind.u64.wrap ((IntKind.u64.wrap (x123000 + x123001)) + x123002)) + x123003)) + x123003)) + (IntKind.u64.wrap (2 * x123000)))) x122000)))
def sponge_mixer_round.f (k : Nat) (a0_0 : Int) (a0_1 : Int) (a0_2 : Bool) (a1 : Int) (a2_0 : Int) (a2_1 : Int) (a2_2 : Int) (a2_3 : Int) : Option (Int × Int × Int × Int × Int) := sponge_mixer_round.l0 k a1 0 a0_0 a0_1 a0_2 a2_0 a2_1 a2_2 a2_3
theorem sponge_mixer_round.mono_l : ∀ k, (∀ y0 y1 y2 y3 y4 y5 y6 y7 y8, LeO (sponge_mixer_round.l0 k y0 y1 y2 y3 y4 y5 y6 y7 y8) (sponge_mixer_round.l0 (k + 1) y0 y1 y2 y3 y4 y5 y6 y7 y8))
  | 0 => fun _ _ _ _ _ _ _ _ _ r h => by simp [sponge_mixer_round.l0] at h
  | k + 1 => by
    have ih0 := sponge_mixer_round.mono_l k
    · intro y0 y1 y2 y3 y4 y5 y6 y7 y8
      unfold sponge_mixer_round.l0
      repeat' first
      | (with_reducible exact ih0 _ _ _ _ _ _ _ _ _)
      | (with_reducible exact LeO.refl _)
      | (with_reducible exact LeO.none _)
      | (with_reducible refine LeO.ite ?_ ?_)
      | (with_reducible refine LeO.bind ?_ (fun _ => ?_))
      | exact ih0 _ _ _ _ _ _ _ _ _
      | exact LeO.none _
      | refine LeO.ite ?_ ?_
      | refine LeO.bind ?_ (fun _ => ?_)
theorem sponge_mixer_round.mono : ∀ a0 a1 a2 a3 a4 a5 a6 a7 k, LeO (sponge_mixer_round.f k a0 a1 a2 a3 a4 a5 a6 a7) (sponge_mixer_round.f (k + 1) a0 a1 a2 a3 a4 a5 a6 a7) := by
  intro a0 a1 a2 a3 a4 a5 a6 a7 k
  have ih0 := sponge_mixer_round.mono_l k
  unfold sponge_mixer_round.f
  repeat' first
      | (with_reducible exact ih0 _ _ _ _ _ _ _ _ _)
      | (with_reducible exact LeO.refl _)
      | (with_reducible exact LeO.none _)
      | (with_reducible refine LeO.ite ?_ ?_)
      | (with_reducible refine LeO.bind ?_ (fun _ => ?_))
      | exact ih0 _ _ _ _ _ _ _ _ _
      | exact LeO.none _
      | refine LeO.ite ?_ ?_
      | refine LeO.bind ?_ (fun _ => ?_)
def sponge_mixer_round.T5 : Bool × List (List Nat × List Nat) := (true, [([], []), ([], []), ([], []), ([2], [2]), ([3], [3]), ([], []), ([4, 5], [4, 5]), ([6], [6]), ([], []), ([8], [8]), ([7, 9], [7, 9]), ([1, 10], [1, 10]), ([0, 0, 1, 2, 3, 4, 5, 6, 7, 8, 9, 10, 11], [0]), ([12, 11, 11, 0, 1, 2, 3, 4, 5, 6, 7, 8, 9, 10, 11], [11, 12])])
def sponge_mixer_round.B5 : List Nat := [0, 0, 0, 4, 12, 0, 60, 124, 0, 256, 1020, 2046, 4095, 8191]
theorem sponge_mixer_round.tab5 : rtab .any (opsOf Tryd.f67 5) = sponge_mixer_round.T5 := by kernel_rfl
theorem sponge_mixer_round.bits5 : waitsOk sponge_mixer_round.T5.2 sponge_mixer_round.B5 = true := by kernel_rfl
def sponge_mixer_round.T8 : Bool × List (List Nat × List Nat) := (true, [([], []), ([], []), ([], []), ([2], [2]), ([1, 3], [1, 3]), ([], []), ([5], [5]), ([6], [6]), ([4, 7], [4, 7]), ([], []), ([9], [9]), ([8, 10], [8, 10]), ([], []), ([], []), ([13], [13]), ([12, 14], [12, 14]), ([], []), ([16], [16]), ([17], [17]), ([15, 18], [15, 18]), ([], []), ([20], [20]), ([19, 21], [19, 21]), ([], []), ([], []), ([24], [24]), ([23, 25], [23, 25]), ([], []), ([27], [27]), ([28], [28]), ([26, 29], [26, 29]), ([], []), ([31], [31]), ([30, 32], [30, 32]), ([], []), ([], []), ([35], [35]), ([34, 36], [34, 36]), ([], []), ([38], [38]), ([39], [39]), ([37, 40], [37, 40]), ([], []), ([42], [42]), ([41, 43], [41, 43]), ([11, 22, 33, 44], [11, 22, 33, 44]), ([0, 0], [0]), ([45, 46, 0, 1, 2, 3, 4, 5, 6, 7, 8, 9, 10, 11, 12, 13, 14, 15, 16, 17, 18, 19, 20, 21, 22, 23, 24, 25, 26, 27, 28, 29, 30, 31, 32, 33, 34, 35, 36, 37, 38, 39, 40, 41, 42, 43, 44, 45, 46], [45])])
def sponge_mixer_round.B8 : List Nat := [0, 0, 0, 4, 14, 0, 32, 96, 254, 0, 512, 2046, 0, 0, 8192, 28672, 0, 65536, 196608, 520192, 0, 1048576, 4190208, 0, 0, 16777216, 58720256, 0, 134217728, 402653184, 1065353216, 0, 2147483648, 8581545984, 0, 0, 34359738368, 120259084288, 0, 274877906944, 824633720832, 2181843386368, 0, 4398046511104, 17575006175232, 35184372088830, 1, 140737488355327]
theorem sponge_mixer_round.tab8 : rtab .any (opsOf Tryd.f67 8) = sponge_mixer_round.T8 := by kernel_rfl
theorem sponge_mixer_round.bits8 : waitsOk sponge_mixer_round.T8.2 sponge_mixer_round.B8 = true := by kernel_rfl
set_option maxHeartbeats 8000000 in
set_option maxRecDepth 100000 in
theorem sponge_mixer_round.calls (k : Nat) (a0_0 : Int) (a0_1 : Int) (a0_2 : Bool) (a1 : Int) (a2_0 : Int) (a2_1 : Int) (a2_2 : Int) (a2_3 : Int) (r1 : Int) (r2 : Int) (r3 : Int) (r4 : Int) (r5 : Int) (w : World) (h : sponge_mixer_round.f k a0_0 a0_1 a0_2 a1 a2_0 a2_1 a2_2 a2_3 = some (r1, r2, r3, r4, r5)) :
  Calls Tryd.prog 67 #[.agg #[.int .u64 a0_0, .int .u64 a0_1, .bool a0_2], .int .u64 a1, .agg #[.int .u64 a2_0, .int .u64 a2_1, .int .u64 a2_2, .int .u64 a2_3]] w fun e w' => e = .returned (.tuple #[.int .u64 r1, .agg #[.int .u64 r2, .int .u64 r3, .int .u64 r4, .int .u64 r5]]) ∧ Below w.heap.size w w' := by
 have hu78 := Tryd.underlying78
 have hu80 := Tryd.underlying80
 have HB := Aside0.mk (Below.refl w.heap.size w)
 have H : (sponge_mixer_round.l0 k a1 0 a0_0 a0_1 a0_2 a2_0 a2_1 a2_2 a2_3) = some (r1, r2, r3, r4, r5) := h
 clear h
 have H' := Aside0.mk H
 clear H
 go_enter Tryd.func67, Tryd.ntmps67
 go_wp2_with (first | ((with_reducible refine gate_dst (N := 3) rfl ?_); refine box_event ?hg (N := 3) ?hd (cs := #[.int .u64 a0_0, .int .u64 a0_1, .bool a0_2]) (t := 78) ?hr ?_; (case hd => rfl); (case hg => rfl); (case hr => first | (go_simp; done) | (go_simp; rfl)); intro g121 hg w4 hbox hb; have n0_ := Aside0.mk (below_step (by repeat (first | (with_reducible first | exact HB.out | apply below_alloc | apply pw_below_drewN | apply below_drew1) | exact HB.out)) hb); have n1_ := Aside0.mk (hbox); have n2_ := Aside0.mk ((by rw [hg]; exact (below_size (by repeat (first | (with_reducible first | exact HB.out | apply below_alloc | apply pw_below_drewN | apply below_drew1) | exact HB.out))) : w.heap.size ≤ g121)); have n3_ := Aside0.mk ((by rw [hg]; exact (below_size (by repeat (first | (with_reducible first | exact HB.out | apply below_alloc | apply pw_below_drewN | apply below_drew1) | exact HB.out))) : w.heap.size ≤ g121)); clear HB; have HB := n0_; have B121 := n1_; have GW121 := n2_; have GE121 := n3_; clear n0_ n1_ n2_ n3_; clear hb hbox hg) | ((with_reducible refine gate_dst (N := 5) rfl ?_); refine box_event ?hg (N := 5) ?hd (cs := #[.int .u64 a2_0, .int .u64 a2_1, .int .u64 a2_2, .int .u64 a2_3]) (t := 80) ?hr ?_; (case hd => rfl); (case hg => rfl); (case hr => first | (go_simp; done) | (go_simp; rfl)); intro g122 hg w5 hbox hb; have n0_ := Aside0.mk (blk_below (g := g121) (o := .cells #[.int .u64 a0_0, .int .u64 a0_1, .bool a0_2] 78 (0, 0)) (by exact B121.out) hb); have n1_ := Aside0.mk (below_step (by repeat (first | (with_reducible first | exact HB.out | apply below_alloc | apply pw_below_drewN | apply below_drew1 | refine below_set ?_ GE121.out) | exact HB.out)) hb); have n2_ := Aside0.mk (hbox); have n3_ := Aside0.mk ((by rw [hg]; exact (below_size (by repeat (first | (with_reducible first | exact HB.out | apply below_alloc | apply pw_below_drewN | apply below_drew1 | refine below_set ?_ GE121.out) | exact HB.out))) : w.heap.size ≤ g122)); have n4_ := Aside0.mk ((by rw [hg]; exact (below_size (by repeat (first | (with_reducible first | exact HB.out | apply below_alloc | apply pw_below_drewN | apply below_drew1 | refine below_set ?_ GE121.out) | exact HB.out))) : w.heap.size ≤ g122)); have n5_ := Aside0.mk ((by rw [hg]; exact Nat.ne_of_lt (blk_lt (g := g121) (o := .cells #[.int .u64 a0_0, .int .u64 a0_1, .bool a0_2] 78 (0, 0)) (by exact B121.out)) : g121 ≠ g122)); have n6_ := Aside0.mk ((by rw [hg]; exact Nat.ne_of_gt (blk_lt (g := g121) (o := .cells #[.int .u64 a0_0, .int .u64 a0_1, .bool a0_2] 78 (0, 0)) (by exact B121.out)) : g122 ≠ g121)); clear B121; clear HB; have B121 := n0_; have HB := n1_; have B122 := n2_; have GW122 := n3_; have GE122 := n4_; have NB121_122 := n5_; have NB122_121 := n6_; clear n0_ n1_ n2_ n3_ n4_ n5_ n6_; clear hb hbox hg) | ((with_reducible refine gate_dst (N := 7) rfl ?_); refine box_event ?hg (N := 7) ?hd (cs := #[.int .u64 0, .int .u64 0, .int .u64 0, .int .u64 0]) (t := 80) ?hr ?_; (case hd => rfl); (case hg => rfl); (case hr => first | (go_simp; done) | (go_simp; rfl)); intro g123 hg w6 hbox hb; have n0_ := Aside0.mk (blk_below (g := g121) (o := .cells #[.int .u64 a0_0, .int .u64 a0_1, .bool a0_2] 78 (0, 0)) (by exact B121.out) hb); have n1_ := Aside0.mk (blk_below (g := g122) (o := .cells #[.int .u64 a2_0, .int .u64 a2_1, .int .u64 a2_2, .int .u64 a2_3] 80 (0, 0)) (by exact B122.out) hb); have n2_ := Aside0.mk (below_step (by repeat (first | (with_reducible first | exact HB.out | apply below_alloc | apply pw_below_drewN | apply below_drew1 | refine below_set ?_ GE121.out | refine below_set ?_ GE122.out) | exact HB.out)) hb); have n3_ := Aside0.mk (hbox); have n4_ := Aside0.mk ((by rw [hg]; exact (below_size (by repeat (first | (with_reducible first | exact HB.out | apply below_alloc | apply pw_below_drewN | apply below_drew1 | refine below_set ?_ GE121.out | refine below_set ?_ GE122.out) | exact HB.out))) : w.heap.size ≤ g123)); have n5_ := Aside0.mk ((by rw [hg]; exact (below_size (by repeat (first | (with_reducible first | exact HB.out | apply below_alloc | apply pw_below_drewN | apply below_drew1 | refine below_set ?_ GE121.out | refine below_set ?_ GE122.out) | exact HB.out))) : w.heap.size ≤ g123)); have n6_ := Aside0.mk ((by rw [hg]; exact Nat.ne_of_lt (blk_lt (g := g121) (o := .cells #[.int .u64 a0_0, .int .u64 a0_1, .bool a0_2] 78 (0, 0)) (by exact B121.out)) : g121 ≠ g123)); have n7_ := Aside0.mk ((by rw [hg]; exact Nat.ne_of_gt (blk_lt (g := g121) (o := .cells #[.int .u64 a0_0, .int .u64 a0_1, .bool a0_2] 78 (0, 0)) (by exact B121.out)) : g123 ≠ g121)); have n8_ := Aside0.mk ((by rw [hg]; exact Nat.ne_of_lt (blk_lt (g := g122) (o := .cells #[.int .u64 a2_0, .int .u64 a2_1, .int .u64 a2_2, .int .u64 a2_3] 80 (0, 0)) (by exact B122.out)) : g122 ≠ g123)); have n9_ := Aside0.mk ((by rw [hg]; exact Nat.ne_of_gt (blk_lt (g := g122) (o := .cells #[.int .u64 a2_0, .int .u64 a2_1, .int .u64 a2_2, .int .u64 a2_3] 80 (0, 0)) (by exact B122.out)) : g123 ≠ g122)); clear B121; clear B122; clear HB; have B121 := n0_; have B122 := n1_; have HB := n2_; have B123 := n3_; have GW123 := n4_; have GE123 := n5_; have NB121_123 := n6_; have NB123_121 := n7_; have NB122_123 := n8_; have NB123_122 := n9_; clear n0_ n1_ n2_ n3_ n4_ n5_ n6_ n7_ n8_ n9_; clear hb hbox hg))
 go_loopg [1, 10] k (fun kq v1 v10 w' => ∃ (x1_1 : Int) (x10_1 : Int) (x123000_1 : Int) (x123001_1 : Int) (x123002_1 : Int) (x123003_1 : Int), v1 = .int .u64 x1_1 ∧ v10 = .int .i64 x10_1 ∧ Aside0 (sponge_mixer_round.l0 kq x1_1 x10_1 a0_0 a0_1 a0_2 x123000_1 x123001_1 x123002_1 x123003_1 = some (r1, r2, r3, r4, r5)) ∧ Aside0 (kq ≤ k) ∧ Aside0 (w'.heap[g121]? = some (.cells #[.int .u64 a0_0, .int .u64 a0_1, .bool a0_2] 78 (0, 0))) ∧ Aside0 (w'.heap[g122]? = some (.cells #[.int .u64 x123000_1, .int .u64 x123001_1, .int .u64 x123002_1, .int .u64 x123003_1] 80 (0, 0))) ∧ Aside0 (w'.heap[g123]? = some (.cells #[.int .u64 0, .int .u64 0, .int .u64 0, .int .u64 0] 80 (0, 0))) ∧ Aside0 (Below w.heap.size w w'))
 case atStart => exact ⟨(a1), (0), (a2_0), (a2_1), (a2_2), (a2_3), (by first | rfl | (simp; done) | (simp [*]; done) | (simp; rfl) | (simp; decide +kernel)), (by first | rfl | (simp; done) | (simp [*]; done) | (simp; rfl) | (simp; decide +kernel)), H', ⟨Nat.le_refl _⟩, ⟨by exact B121.out⟩, ⟨by exact B122.out⟩, ⟨by exact B123.out⟩, ⟨by repeat (first | (with_reducible first | exact HB.out | apply below_alloc | apply pw_below_drewN | apply below_drew1 | refine below_set ?_ GE121.out | refine below_set ?_ GE122.out | refine below_set ?_ GE123.out) | exact HB.out)⟩⟩
 case round =>
  clear H'
  try clear p2
  try clear c6
  obtain ⟨x1_1, x10_1, x123000_1, x123001_1, x123002_1, x123003_1, rfl, rfl, HA, HK1, B121, B122, B123, HB⟩ := hrel
  cases gk with
  | zero => exact absurd HA.out (by simp [sponge_mixer_round.l0])
  | succ k1 =>
   have H := HA.out
   clear HA
   simp only [sponge_mixer_round.l0] at H
   by_cases c7 : x10_1 < 4
   ·rw [if_pos c7] at H
    have c7b0 : decide (x10_1 < 4) = true := decide_eq_true c7
    clear c7
    by_cases c8 : a0_0 = 0
    ·rw [if_pos c8] at H
     exact absurd H (by simp)
    ·rw [if_neg c8] at H
     have c8b0 : (a0_0 == 0) = false := beq_eq_false_iff_ne.mpr c8
     have c8b1 : (a0_0 != 0) = true := bne_iff_ne.mpr c8
     by_cases c9 : 0 ≤ x10_1
     ·rw [if_pos c9] at H
      have c9b0 := eq_true c9
      have c9b1 : decide (0 ≤ x10_1) = true := decide_eq_true c9
      clear c9
      replace H := Option.bind_eq_some_iff.mp H
      obtain ⟨t124, A100, H⟩ := H
      have A10 := Aside0.mk A100
      clear A100
      have H' := Aside0.mk H
      clear H
      have hnb11 := NB121_122.out
      have hnc11 := NB122_121.out
      have hnb12 := NB121_123.out
      have hnc12 := NB123_121.out
      have hcz13_0 : wr.cell? ⟨g121, 0, none⟩ = some (.int .u64 a0_0) := bq_ B121 0
      have hcz13_1 : wr.cell? ⟨g121, 1, none⟩ = some (.int .u64 a0_1) := bq_ B121 1
      have hcz13_2 : wr.cell? ⟨g121, 2, none⟩ = some (.bool a0_2) := bq_ B121 2
      have hfz13_0 := blk_frozen B121.out 0
      have hfz13_1 := blk_frozen B121.out 1
      have hfz13_2 := blk_frozen B121.out 2
      try go_wp2
      have n0_ := Aside0.mk (blk_drew B121.out)
      have n1_ := Aside0.mk (blk_drew B122.out)
      have n2_ := Aside0.mk (blk_drew B123.out)
      have n3_ := Aside0.mk (below_drew1 HB.out)
      clear B121
      clear B122
      clear B123
      clear HB
      have B121 := n0_
      have B122 := n1_
      have B123 := n2_
      have HB := n3_
      clear n0_ n1_ n2_ n3_
      have hlt15 : (x10_1 < 4) = True := eq_true (of_decide_eq_true (by first | (with_reducible assumption) | assumption))
      have hge16 : (0 ≤ x10_1) = True := eq_true (of_decide_eq_true (by first | (with_reducible assumption) | assumption))
      have hlt20 : (x10_1 < 4) = True := eq_true (of_decide_eq_true (by first | (with_reducible assumption) | assumption))
      have hge21 : (0 ≤ x10_1) = True := eq_true (of_decide_eq_true (by first | (with_reducible assumption) | assumption))
      refine start_ (n := 14) (S := fun w' => w'.cell? ⟨g121, 0, none⟩ = some (.int .u64 a0_0) ∧ w'.cell? ⟨g121, 1, none⟩ = some (.int .u64 a0_1) ∧ w'.cell? ⟨g121, 2, none⟩ = some (.bool a0_2) ∧ w'.cell? ⟨g122, (x10_1).toNat, none⟩ = some (.int .u64 (rd ([x123000_1, x123001_1, x123002_1, x123003_1] : List Int) x10_1))) (ds := [13]) z67_0_ (by kernel_rfl) rfl rfl ⟨bq_ B121 0, bq_ B121 1, bq_ B121 2, (sel_at (pre := []) (l := ([x123000_1, x123001_1, x123002_1, x123003_1] : List Int)) (post := []) B122.out rfl (by simp) (of_decide_eq_true (by first | (with_reducible assumption) | assumption)) (of_decide_eq_true (by first | (with_reducible assumption) | assumption)))⟩ (fun hL => ?_); refine with_tabW sponge_mixer_round.tab5 sponge_mixer_round.bits5 (fun T_ W_ => ?_)
      generalize wr.drew = w14 at B121 B122 B123 HB hL ⊢
      refine pure_ (i := 0) (N := some 20) (v := ?_) (a' := ?_) z67_1_ rfl rfl (an_ T_) (fun _ _ _ h => h) (Or.inl ⟨by rfl, ?_⟩) ?_ ?_
      rotate_left; · intro w'; go_simp; with_reducible rfl
      rotate_left; · simp only [Act.put, sa_, sb_, sc_, i64_w, i32_w]; rfl
      refine pure_ (i := 2) (N := some 22) (v := ?_) (a' := ?_) z67_2_ rfl rfl (an_ T_) (fun _ _ _ h => h) (Or.inl ⟨by rfl, ?_⟩) ?_ ?_
      rotate_left; · intro w'; go_simp; with_reducible rfl
      rotate_left; · simp only [Act.put, sa_, sb_, sc_, i64_w, i32_w]; rfl
      refine pure_ (i := 3) (N := some 23) (v := ?_) (a' := ?_) z67_3_ rfl rfl (an_ T_) (fun _ _ _ h => h) (Or.inl ⟨by rfl, ?_⟩) ?_ ?_
      rotate_left; · intro w'; go_simp; with_reducible rfl
      rotate_left; · simp only [Act.put, sa_, sb_, sc_, i64_w, i32_w]; rfl
      refine pure_ (i := 5) (N := some 25) (v := ?_) (a' := ?_) z67_4_ rfl rfl (an_ T_) (fun _ _ _ h => h) (Or.inl ⟨by rfl, ?_⟩) ?_ ?_
      rotate_left; · intro w'; go_simp; with_reducible rfl
      rotate_left; · simp only [Act.put, sa_, sb_, sc_, i64_w, i32_w]; rfl
      refine pure_ (i := 8) (N := some 28) (v := ?_) (a' := ?_) z67_5_ rfl rfl (an_ T_) (fun _ _ _ h => h) (Or.inl ⟨by rfl, ?_⟩) ?_ ?_
      rotate_left; · intro w'; go_simp; with_reducible rfl
      rotate_left; · simp only [Act.put, sa_, sb_, sc_, i64_w, i32_w]; rfl
      refine take_ (i := 1) (N := some 21) (v := ?_) (a' := ?_) z67_6_ rfl rfl (tk_ T_ W_) (fun _ _ _ h => h) (Or.inl ⟨by rfl, ?_⟩) hL ?_ ?_
      rotate_left
      ·rintro w' ⟨s0, s1, s2, s3⟩
       go_simp
       with_reducible rfl
      rotate_left
      ·simp only [Act.put, sa_, sb_, sc_, i64_w, i32_w]
       rfl
      refine take_ (i := 4) (N := some 24) (v := ?_) (a' := ?_) z67_7_ rfl rfl (tk_ T_ W_) (fun _ _ _ h => h) (Or.inl ⟨by rfl, ?_⟩) hL ?_ ?_
      rotate_left
      ·rintro w' ⟨s0, s1, s2, s3⟩
       go_simp
       with_reducible rfl
      rotate_left
      ·simp only [Act.put, sa_, sb_, sc_, i64_w, i32_w]
       rfl
      refine pure_ (i := 6) (N := some 26) (v := ?_) (a' := ?_) z67_8_ rfl rfl (an_ T_) (fun _ _ _ h => h) (Or.inl ⟨by rfl, ?_⟩) ?_ ?_
      rotate_left; · intro w'; go_simp; with_reducible rfl
      rotate_left; · simp only [Act.put, sa_, sb_, sc_, i64_w, i32_w]; rfl
      refine pure_ (i := 7) (N := some 27) (v := ?_) (a' := ?_) z67_9_ rfl rfl (an_ T_) (fun _ _ _ h => h) (Or.inl ⟨by rfl, ?_⟩) ?_ ?_
      rotate_left; · intro w'; go_simp; with_reducible rfl
      rotate_left; · simp only [Act.put, sa_, sb_, sc_, i64_w, i32_w]; rfl
      refine take_ (i := 9) (N := some 29) (v := ?_) (a' := ?_) z67_10_ rfl rfl (tk_ T_ W_) (fun _ _ _ h => h) (Or.inl ⟨by rfl, ?_⟩) hL ?_ ?_
      rotate_left
      ·rintro w' ⟨s0, s1, s2, s3⟩
       go_simp
       with_reducible rfl
      rotate_left
      ·simp only [Act.put, sa_, sb_, sc_, i64_w, i32_w]
       rfl
      refine pure_ (i := 10) (N := some 30) (v := ?_) (a' := ?_) z67_11_ rfl rfl (an_ T_) (fun _ _ _ h => h) (Or.inl ⟨by rfl, ?_⟩) ?_ ?_
      rotate_left; · intro w'; go_simp; with_reducible rfl
      rotate_left; · simp only [Act.put, sa_, sb_, sc_, i64_w, i32_w]; rfl
      refine one_ (i := 11) (N := some 31) z67_12_ rfl rfl (on_ T_) (by decide) (fun K hK => ?_)
      refine goes_ Tryd.func73 (by kernel_rfl) rfl #[.agg #[.int .u64 a0_0, .int .u64 a0_1, .bool a0_2], .int .u64 (Int.tmod (IntKind.u64.wrap ((IntKind.u64.wrap ((rd ([x123000_1, x123001_1, x123002_1, x123003_1] : List Int) x10_1) + (Int.tmod (IntKind.u64.wrap (x1_1 * a0_1)) a0_0))) + 7)) a0_0)] (by rfl) rfl rfl (by (try simp only [List.map_toArray, List.map_cons, List.map_nil]); first | done | rfl | (go_simp; done)) ?_
      with_reducible refine (sponge_mixer_power.calls a0_0 a0_1 a0_2 (Int.tmod (IntKind.u64.wrap ((IntKind.u64.wrap ((rd ([x123000_1, x123001_1, x123002_1, x123003_1] : List Int) x10_1) + (Int.tmod (IntKind.u64.wrap (x1_1 * a0_1)) a0_0))) + 7)) a0_0) t124 _ A10.out).mono ?_
      rintro e w17 ⟨rfl, hb⟩
      refine ⟨_, rfl, ?_⟩
      have n0_ := Aside0.mk (blk_below (g := g121) (o := .cells #[.int .u64 a0_0, .int .u64 a0_1, .bool a0_2] 78 (0, 0)) (by exact B121.out) hb)
      have n1_ := Aside0.mk (blk_below (g := g122) (o := .cells #[.int .u64 x123000_1, .int .u64 x123001_1, .int .u64 x123002_1, .int .u64 x123003_1] 80 (0, 0)) (by exact B122.out) hb)
      have n2_ := Aside0.mk (blk_below (g := g123) (o := .cells #[.int .u64 0, .int .u64 0, .int .u64 0, .int .u64 0] 80 (0, 0)) (by exact B123.out) hb)
      have n3_ := Aside0.mk (below_step (by repeat (first | (with_reducible first | exact HB.out | apply below_alloc | apply pw_below_drewN | apply below_drew1 | refine below_set ?_ GE121.out | refine below_set ?_ GE122.out | refine below_set ?_ GE123.out) | exact HB.out)) hb)
      clear B121
      clear B122
      clear B123
      clear HB
      have B121 := n0_
      have B122 := n1_
      have B123 := n2_
      have HB := n3_
      clear n0_ n1_ n2_ n3_
      (try clear hb)
      (try clear hb2)
      (try clear hk)
      (try clear hi)
      refine hK.out _ _ ⟨bq_ B121 0, bq_ B121 1, bq_ B121 2, (sel_at (pre := []) (l := ([x123000_1, x123001_1, x123002_1, x123003_1] : List Int)) (post := []) B122.out rfl (by simp) (of_decide_eq_true (by first | (with_reducible assumption) | assumption)) (of_decide_eq_true (by first | (with_reducible assumption) | assumption)))⟩ (fun hL => ?_)
      clear hK K
      refine norm_ (a' := ?_) ?_ ?_
      rotate_left
      ·show Act.put _ (some 31) _ = _
       simp only [Act.put, sa_, sb_, sc_, i64_w, i32_w]
       rfl
      refine pure_ (i := 12) (N := some 32) (v := ?_) (a' := ?_) z67_13_ rfl rfl (an_ T_) (fun _ _ _ h => h) (Or.inl ⟨by rfl, ?_⟩) ?_ ?_
      rotate_left; · intro w'; go_simp; with_reducible rfl
      rotate_left; · simp only [Act.put, sa_, sb_, sc_, i64_w, i32_w]; rfl
      refine last_ (i := 13) (N := none) z67_14_ rfl rfl (on_ T_) (by decide) (fun K hK => ?_)
      have hsv18 : w17.cell? ⟨g122, (x10_1).toNat, none⟩ = some (.int .u64 (rd ([x123000_1, x123001_1, x123002_1, x123003_1] : List Int) x10_1)) := (sel_at (pre := []) (l := ([x123000_1, x123001_1, x123002_1, x123003_1] : List Int)) (post := []) B122.out rfl (by simp) (of_decide_eq_true (by first | (with_reducible assumption) | assumption)) (of_decide_eq_true (by first | (with_reducible assumption) | assumption)))
      have hfv19 := blk_frozen B122.out ((x10_1).toNat)
      have hns22_0 := NB121_122.out
      have hns22_2 := NB123_122.out
      have hms22_0 := NB122_121.out
      have hms22_2 := NB122_123.out
      refine skip_ (w1 := ?_) (by rfl) rfl ?_ ?_
      rotate_left
      ·go_simp
       rfl
      refine hK.out _ _ ?_
      clear hK K
      refine done_ (done_of T_.out (by kernel_rfl)) ?_
      try go_wp2
      go_roundg k1
      case measure => have := HK1.out; omega
      case rel => exact ⟨(Int.tmod (IntKind.u64.wrap (x1_1 * a0_1)) a0_0), (wrap64 (x10_1 + 1)), ((updv x123000_1 0 x10_1 t124)), ((updv x123001_1 1 x10_1 t124)), ((updv x123002_1 2 x10_1 t124)), ((updv x123003_1 3 x10_1 t124)), (by first | rfl | (simp; done) | (simp [*]; done) | (simp; rfl) | (simp; decide +kernel)), (by first | rfl | (simp; done) | (simp [*]; done) | (simp; rfl) | (simp; decide +kernel)), H', ⟨by have := HK1.out; omega⟩, ⟨by refine blk_far ?_ NB121_122.out _; exact B121.out⟩, ⟨by refine sel_put (pre := []) (l := ([x123000_1, x123001_1, x123002_1, x123003_1] : List Int)) (post := []) ?_ rfl rfl (by simp) (of_decide_eq_true (by first | (with_reducible assumption) | assumption)) (of_decide_eq_true (by first | (with_reducible assumption) | assumption)); exact B122.out⟩, ⟨by refine blk_far ?_ NB123_122.out _; exact B123.out⟩, ⟨by repeat (first | (with_reducible first | exact HB.out | apply below_alloc | apply pw_below_drewN | apply below_drew1 | refine below_set ?_ GE121.out | refine below_set ?_ GE122.out | refine below_set ?_ GE123.out) | exact HB.out)⟩⟩
     ·rw [if_neg c9] at H
      exact absurd H (by simp)
   ·rw [if_neg c7] at H
    have c7b0 : decide (x10_1 < 4) = false := decide_eq_false c7
    clear c7
    by_cases c23 : a0_0 = 0
    ·rw [if_pos c23] at H
     exact absurd H (by simp)
    ·rw [if_neg c23] at H
     have c23b0 : (a0_0 == 0) = false := beq_eq_false_iff_ne.mpr c23
     have c23b1 : (a0_0 != 0) = true := bne_iff_ne.mpr c23
     simp only [Option.some.injEq, Prod.mk.injEq] at H
     obtain ⟨rfl, rfl, rfl, rfl, rfl⟩ := H
     have hnb24 := NB122_121.out
     have hnc24 := NB121_122.out
     have hnb25 := NB122_123.out
     have hnc25 := NB123_122.out
     have hcz26_0 : wr.cell? ⟨g122, 0, none⟩ = some (.int .u64 x123000_1) := bq_ B122 0
     have hcz26_1 : wr.cell? ⟨g122, 1, none⟩ = some (.int .u64 x123001_1) := bq_ B122 1
     have hcz26_2 : wr.cell? ⟨g122, 2, none⟩ = some (.int .u64 x123002_1) := bq_ B122 2
     have hcz26_3 : wr.cell? ⟨g122, 3, none⟩ = some (.int .u64 x123003_1) := bq_ B122 3
     have hfz26_0 := blk_frozen B122.out 0
     have hfz26_1 := blk_frozen B122.out 1
     have hfz26_2 := blk_frozen B122.out 2
     have hfz26_3 := blk_frozen B122.out 3
     try go_wp2
     have n0_ := Aside0.mk (blk_drew B121.out)
     have n1_ := Aside0.mk (blk_drew B122.out)
     have n2_ := Aside0.mk (blk_drew B123.out)
     have n3_ := Aside0.mk (below_drew1 HB.out)
     clear B121
     clear B122
     clear B123
     clear HB
     have B121 := n0_
     have B122 := n1_
     have B123 := n2_
     have HB := n3_
     clear n0_ n1_ n2_ n3_
     refine start_ (n := 48) (S := fun w' => w'.cell? ⟨g122, 0, none⟩ = some (.int .u64 x123000_1) ∧ w'.cell? ⟨g122, 1, none⟩ = some (.int .u64 x123001_1) ∧ w'.cell? ⟨g122, 2, none⟩ = some (.int .u64 x123002_1) ∧ w'.cell? ⟨g122, 3, none⟩ = some (.int .u64 x123003_1) ∧ w'.cell? ⟨g121, 0, none⟩ = some (.int .u64 a0_0) ∧ w'.cell? ⟨g121, 1, none⟩ = some (.int .u64 a0_1) ∧ w'.cell? ⟨g121, 2, none⟩ = some (.bool a0_2)) (ds := []) z67_15_ (by kernel_rfl) rfl rfl ⟨bq_ B122 0, bq_ B122 1, bq_ B122 2, bq_ B122 3, bq_ B121 0, bq_ B121 1, bq_ B121 2⟩ (fun hL => ?_); refine with_tabW sponge_mixer_round.tab8 sponge_mixer_round.bits8 (fun T_ W_ => ?_)
     generalize wr.drew = w27 at B121 B122 B123 HB hL ⊢
     refine pure_ (i := 0) (N := some 45) (v := ?_) (a' := ?_) z67_16_ rfl rfl (an_ T_) (fun _ _ _ h => h) (Or.inl ⟨by rfl, ?_⟩) ?_ ?_
     rotate_left; · intro w'; go_simp; with_reducible rfl
     rotate_left; · simp only [Act.put, sa_, sb_, sc_, i64_w, i32_w]; rfl
     refine pure_ (i := 1) (N := some 46) (v := ?_) (a' := ?_) z67_17_ rfl rfl (an_ T_) (fun _ _ _ h => h) (Or.inl ⟨by rfl, ?_⟩) ?_ ?_
     rotate_left; · intro w'; go_simp; with_reducible rfl
     rotate_left; · simp only [Act.put, sa_, sb_, sc_, i64_w, i32_w]; rfl
     refine pure_ (i := 2) (N := some 47) (v := ?_) (a' := ?_) z67_18_ rfl rfl (an_ T_) (fun _ _ _ h => h) (Or.inl ⟨by rfl, ?_⟩) ?_ ?_
     rotate_left; · intro w'; go_simp; with_reducible rfl
     rotate_left; · simp only [Act.put, sa_, sb_, sc_, i64_w, i32_w]; rfl
     refine pure_ (i := 5) (N := some 50) (v := ?_) (a' := ?_) z67_19_ rfl rfl (an_ T_) (fun _ _ _ h => h) (Or.inl ⟨by rfl, ?_⟩) ?_ ?_
     rotate_left; · intro w'; go_simp; with_reducible rfl
     rotate_left; · simp only [Act.put, sa_, sb_, sc_, i64_w, i32_w]; rfl
     refine pure_ (i := 9) (N := some 54) (v := ?_) (a' := ?_) z67_20_ rfl rfl (an_ T_) (fun _ _ _ h => h) (Or.inl ⟨by rfl, ?_⟩) ?_ ?_
     rotate_left; · intro w'; go_simp; with_reducible rfl
     rotate_left; · simp only [Act.put, sa_, sb_, sc_, i64_w, i32_w]; rfl
     refine pure_ (i := 12) (N := some 57) (v := ?_) (a' := ?_) z67_21_ rfl rfl (an_ T_) (fun _ _ _ h => h) (Or.inl ⟨by rfl, ?_⟩) ?_ ?_
     rotate_left; · intro w'; go_simp; with_reducible rfl
     rotate_left; · simp only [Act.put, sa_, sb_, sc_, i64_w, i32_w]; rfl
     refine pure_ (i := 13) (N := some 58) (v := ?_) (a' := ?_) z67_22_ rfl rfl (an_ T_) (fun _ _ _ h => h) (Or.inl ⟨by rfl, ?_⟩) ?_ ?_
     rotate_left; · intro w'; go_simp; with_reducible rfl
     rotate_left; · simp only [Act.put, sa_, sb_, sc_, i64_w, i32_w]; rfl
     refine pure_ (i := 16) (N := some 61) (v := ?_) (a' := ?_) z67_23_ rfl rfl (an_ T_) (fun _ _ _ h => h) (Or.inl ⟨by rfl, ?_⟩) ?_ ?_
     rotate_left; · intro w'; go_simp; with_reducible rfl
     rotate_left; · simp only [Act.put, sa_, sb_, sc_, i64_w, i32_w]; rfl
     refine pure_ (i := 20) (N := some 65) (v := ?_) (a' := ?_) z67_24_ rfl rfl (an_ T_) (fun _ _ _ h => h) (Or.inl ⟨by rfl, ?_⟩) ?_ ?_
     rotate_left; · intro w'; go_simp; with_reducible rfl
     rotate_left; · simp only [Act.put, sa_, sb_, sc_, i64_w, i32_w]; rfl
     refine pure_ (i := 23) (N := some 68) (v := ?_) (a' := ?_) z67_25_ rfl rfl (an_ T_) (fun _ _ _ h => h) (Or.inl ⟨by rfl, ?_⟩) ?_ ?_
     rotate_left; · intro w'; go_simp; with_reducible rfl
     rotate_left; · simp only [Act.put, sa_, sb_, sc_, i64_w, i32_w]; rfl
     refine pure_ (i := 24) (N := some 69) (v := ?_) (a' := ?_) z67_26_ rfl rfl (an_ T_) (fun _ _ _ h => h) (Or.inl ⟨by rfl, ?_⟩) ?_ ?_
     rotate_left; · intro w'; go_simp; with_reducible rfl
     rotate_left; · simp only [Act.put, sa_, sb_, sc_, i64_w, i32_w]; rfl
     refine pure_ (i := 27) (N := some 72) (v := ?_) (a' := ?_) z67_27_ rfl rfl (an_ T_) (fun _ _ _ h => h) (Or.inl ⟨by rfl, ?_⟩) ?_ ?_
     rotate_left; · intro w'; go_simp; with_reducible rfl
     rotate_left; · simp only [Act.put, sa_, sb_, sc_, i64_w, i32_w]; rfl
     refine pure_ (i := 31) (N := some 76) (v := ?_) (a' := ?_) z67_28_ rfl rfl (an_ T_) (fun _ _ _ h => h) (Or.inl ⟨by rfl, ?_⟩) ?_ ?_
     rotate_left; · intro w'; go_simp; with_reducible rfl
     rotate_left; · simp only [Act.put, sa_, sb_, sc_, i64_w, i32_w]; rfl
     refine pure_ (i := 34) (N := some 79) (v := ?_) (a' := ?_) z67_29_ rfl rfl (an_ T_) (fun _ _ _ h => h) (Or.inl ⟨by rfl, ?_⟩) ?_ ?_
     rotate_left; · intro w'; go_simp; with_reducible rfl
     rotate_left; · simp only [Act.put, sa_, sb_, sc_, i64_w, i32_w]; rfl
     refine pure_ (i := 35) (N := some 80) (v := ?_) (a' := ?_) z67_30_ rfl rfl (an_ T_) (fun _ _ _ h => h) (Or.inl ⟨by rfl, ?_⟩) ?_ ?_
     rotate_left; · intro w'; go_simp; with_reducible rfl
     rotate_left; · simp only [Act.put, sa_, sb_, sc_, i64_w, i32_w]; rfl
     refine pure_ (i := 38) (N := some 83) (v := ?_) (a' := ?_) z67_31_ rfl rfl (an_ T_) (fun _ _ _ h => h) (Or.inl ⟨by rfl, ?_⟩) ?_ ?_
     rotate_left; · intro w'; go_simp; with_reducible rfl
     rotate_left; · simp only [Act.put, sa_, sb_, sc_, i64_w, i32_w]; rfl
     refine pure_ (i := 42) (N := some 87) (v := ?_) (a' := ?_) z67_32_ rfl rfl (an_ T_) (fun _ _ _ h => h) (Or.inl ⟨by rfl, ?_⟩) ?_ ?_
     rotate_left; · intro w'; go_simp; with_reducible rfl
     rotate_left; · simp only [Act.put, sa_, sb_, sc_, i64_w, i32_w]; rfl
     refine pure_ (i := 46) (N := some 6) (v := ?_) (a' := ?_) z67_33_ rfl rfl (an_ T_) (fun _ _ _ h => h) (Or.inl ⟨by rfl, ?_⟩) ?_ ?_
     rotate_left; · intro w'; go_simp; with_reducible rfl
     rotate_left; · simp only [Act.put, sa_, sb_, sc_, i64_w, i32_w]; rfl
     refine take_ (i := 3) (N := some 48) (v := ?_) (a' := ?_) z67_34_ rfl rfl (tk_ T_ W_) (fun _ _ _ h => h) (Or.inl ⟨by rfl, ?_⟩) hL ?_ ?_
     rotate_left
     ·rintro w' ⟨s0, s1, s2, s3, s4, s5, s6⟩
      go_simp
      with_reducible rfl
     rotate_left
     ·simp only [Act.put, sa_, sb_, sc_, i64_w, i32_w]
      rfl
     refine pure_ (i := 4) (N := some 49) (v := ?_) (a' := ?_) z67_35_ rfl rfl (an_ T_) (fun _ _ _ h => h) (Or.inl ⟨by rfl, ?_⟩) ?_ ?_
     rotate_left; · intro w'; go_simp; with_reducible rfl
     rotate_left; · simp only [Act.put, sa_, sb_, sc_, i64_w, i32_w]; rfl
     refine take_ (i := 6) (N := some 51) (v := ?_) (a' := ?_) z67_36_ rfl rfl (tk_ T_ W_) (fun _ _ _ h => h) (Or.inl ⟨by rfl, ?_⟩) hL ?_ ?_
     rotate_left
     ·rintro w' ⟨s0, s1, s2, s3, s4, s5, s6⟩
      go_simp
      with_reducible rfl
     rotate_left
     ·simp only [Act.put, sa_, sb_, sc_, i64_w, i32_w]
      rfl
     refine pure_ (i := 7) (N := some 52) (v := ?_) (a' := ?_) z67_37_ rfl rfl (an_ T_) (fun _ _ _ h => h) (Or.inl ⟨by rfl, ?_⟩) ?_ ?_
     rotate_left; · intro w'; go_simp; with_reducible rfl
     rotate_left; · simp only [Act.put, sa_, sb_, sc_, i64_w, i32_w]; rfl
     refine pure_ (i := 8) (N := some 53) (v := ?_) (a' := ?_) z67_38_ rfl rfl (an_ T_) (fun _ _ _ h => h) (Or.inl ⟨by rfl, ?_⟩) ?_ ?_
     rotate_left; · intro w'; go_simp; with_reducible rfl
     rotate_left; · simp only [Act.put, sa_, sb_, sc_, i64_w, i32_w]; rfl
     refine take_ (i := 10) (N := some 55) (v := ?_) (a' := ?_) z67_39_ rfl rfl (tk_ T_ W_) (fun _ _ _ h => h) (Or.inl ⟨by rfl, ?_⟩) hL ?_ ?_
     rotate_left
     ·rintro w' ⟨s0, s1, s2, s3, s4, s5, s6⟩
      go_simp
      with_reducible rfl
     rotate_left
     ·simp only [Act.put, sa_, sb_, sc_, i64_w, i32_w]
      rfl
     refine pure_ (i := 11) (N := some 56) (v := ?_) (a' := ?_) z67_40_ rfl rfl (an_ T_) (fun _ _ _ h => h) (Or.inl ⟨by rfl, ?_⟩) ?_ ?_
     rotate_left; · intro w'; go_simp; with_reducible rfl
     rotate_left; · simp only [Act.put, sa_, sb_, sc_, i64_w, i32_w]; rfl
     refine take_ (i := 14) (N := some 59) (v := ?_) (a' := ?_) z67_41_ rfl rfl (tk_ T_ W_) (fun _ _ _ h => h) (Or.inl ⟨by rfl, ?_⟩) hL ?_ ?_
     rotate_left
     ·rintro w' ⟨s0, s1, s2, s3, s4, s5, s6⟩
      go_simp
      with_reducible rfl
     rotate_left
     ·simp only [Act.put, sa_, sb_, sc_, i64_w, i32_w]
      rfl
     refine pure_ (i := 15) (N := some 60) (v := ?_) (a' := ?_) z67_42_ rfl rfl (an_ T_) (fun _ _ _ h => h) (Or.inl ⟨by rfl, ?_⟩) ?_ ?_
     rotate_left; · intro w'; go_simp; with_reducible rfl
     rotate_left; · simp only [Act.put, sa_, sb_, sc_, i64_w, i32_w]; rfl
     refine take_ (i := 17) (N := some 62) (v := ?_) (a' := ?_) z67_43_ rfl rfl (tk_ T_ W_) (fun _ _ _ h => h) (Or.inl ⟨by rfl, ?_⟩) hL ?_ ?_
     rotate_left
     ·rintro w' ⟨s0, s1, s2, s3, s4, s5, s6⟩
      go_simp
      with_reducible rfl
     rotate_left
     ·simp only [Act.put, sa_, sb_, sc_, i64_w, i32_w]
      rfl
     refine pure_ (i := 18) (N := some 63) (v := ?_) (a' := ?_) z67_44_ rfl rfl (an_ T_) (fun _ _ _ h => h) (Or.inl ⟨by rfl, ?_⟩) ?_ ?_
     rotate_left; · intro w'; go_simp; with_reducible rfl
     rotate_left; · simp only [Act.put, sa_, sb_, sc_, i64_w, i32_w]; rfl
     refine pure_ (i := 19) (N := some 64) (v := ?_) (a' := ?_) z67_45_ rfl rfl (an_ T_) (fun _ _ _ h => h) (Or.inl ⟨by rfl, ?_⟩) ?_ ?_
     rotate_left; · intro w'; go_simp; with_reducible rfl
     rotate_left; · simp only [Act.put, sa_, sb_, sc_, i64_w, i32_w]; rfl
     refine take_ (i := 21) (N := some 66) (v := ?_) (a' := ?_) z67_46_ rfl rfl (tk_ T_ W_) (fun _ _ _ h => h) (Or.inl ⟨by rfl, ?_⟩) hL ?_ ?_
     rotate_left
     ·rintro w' ⟨s0, s1, s2, s3, s4, s5, s6⟩
      go_simp
      with_reducible rfl
     rotate_left
     ·simp only [Act.put, sa_, sb_, sc_, i64_w, i32_w]
      rfl
     refine pure_ (i := 22) (N := some 67) (v := ?_) (a' := ?_) z67_47_ rfl rfl (an_ T_) (fun _ _ _ h => h) (Or.inl ⟨by rfl, ?_⟩) ?_ ?_
     rotate_left; · intro w'; go_simp; with_reducible rfl
     rotate_left; · simp only [Act.put, sa_, sb_, sc_, i64_w, i32_w]; rfl
     refine take_ (i := 25) (N := some 70) (v := ?_) (a' := ?_) z67_48_ rfl rfl (tk_ T_ W_) (fun _ _ _ h => h) (Or.inl ⟨by rfl, ?_⟩) hL ?_ ?_
     rotate_left
     ·rintro w' ⟨s0, s1, s2, s3, s4, s5, s6⟩
      go_simp
      with_reducible rfl
     rotate_left
     ·simp only [Act.put, sa_, sb_, sc_, i64_w, i32_w]
      rfl
     refine pure_ (i := 26) (N := some 71) (v := ?_) (a' := ?_) z67_49_ rfl rfl (an_ T_) (fun _ _ _ h => h) (Or.inl ⟨by rfl, ?_⟩) ?_ ?_
     rotate_left; · intro w'; go_simp; with_reducible rfl
     rotate_left; · simp only [Act.put, sa_, sb_, sc_, i64_w, i32_w]; rfl
     refine take_ (i := 28) (N := some 73) (v := ?_) (a' := ?_) z67_50_ rfl rfl (tk_ T_ W_) (fun _ _ _ h => h) (Or.inl ⟨by rfl, ?_⟩) hL ?_ ?_
     rotate_left
     ·rintro w' ⟨s0, s1, s2, s3, s4, s5, s6⟩
      go_simp
      with_reducible rfl
     rotate_left
     ·simp only [Act.put, sa_, sb_, sc_, i64_w, i32_w]
      rfl
     refine pure_ (i := 29) (N := some 74) (v := ?_) (a' := ?_) z67_51_ rfl rfl (an_ T_) (fun _ _ _ h => h) (Or.inl ⟨by rfl, ?_⟩) ?_ ?_
     rotate_left; · intro w'; go_simp; with_reducible rfl
     rotate_left; · simp only [Act.put, sa_, sb_, sc_, i64_w, i32_w]; rfl
     refine pure_ (i := 30) (N := some 75) (v := ?_) (a' := ?_) z67_52_ rfl rfl (an_ T_) (fun _ _ _ h => h) (Or.inl ⟨by rfl, ?_⟩) ?_ ?_
     rotate_left; · intro w'; go_simp; with_reducible rfl
     rotate_left; · simp only [Act.put, sa_, sb_, sc_, i64_w, i32_w]; rfl
     refine take_ (i := 32) (N := some 77) (v := ?_) (a' := ?_) z67_53_ rfl rfl (tk_ T_ W_) (fun _ _ _ h => h) (Or.inl ⟨by rfl, ?_⟩) hL ?_ ?_
     rotate_left
     ·rintro w' ⟨s0, s1, s2, s3, s4, s5, s6⟩
      go_simp
      with_reducible rfl
     rotate_left
     ·simp only [Act.put, sa_, sb_, sc_, i64_w, i32_w]
      rfl
     refine pure_ (i := 33) (N := some 78) (v := ?_) (a' := ?_) z67_54_ rfl rfl (an_ T_) (fun _ _ _ h => h) (Or.inl ⟨by rfl, ?_⟩) ?_ ?_
     rotate_left; · intro w'; go_simp; with_reducible rfl
     rotate_left; · simp only [Act.put, sa_, sb_, sc_, i64_w, i32_w]; rfl
     refine take_ (i := 36) (N := some 81) (v := ?_) (a' := ?_) z67_55_ rfl rfl (tk_ T_ W_) (fun _ _ _ h => h) (Or.inl ⟨by rfl, ?_⟩) hL ?_ ?_
     rotate_left
     ·rintro w' ⟨s0, s1, s2, s3, s4, s5, s6⟩
      go_simp
      with_reducible rfl
     rotate_left
     ·simp only [Act.put, sa_, sb_, sc_, i64_w, i32_w]
      rfl
     refine pure_ (i := 37) (N := some 82) (v := ?_) (a' := ?_) z67_56_ rfl rfl (an_ T_) (fun _ _ _ h => h) (Or.inl ⟨by rfl, ?_⟩) ?_ ?_
     rotate_left; · intro w'; go_simp; with_reducible rfl
     rotate_left; · simp only [Act.put, sa_, sb_, sc_, i64_w, i32_w]; rfl
     refine take_ (i := 39) (N := some 84) (v := ?_) (a' := ?_) z67_57_ rfl rfl (tk_ T_ W_) (fun _ _ _ h => h) (Or.inl ⟨by rfl, ?_⟩) hL ?_ ?_
     rotate_left
     ·rintro w' ⟨s0, s1, s2, s3, s4, s5, s6⟩
      go_simp
      with_reducible rfl
     rotate_left
     ·simp only [Act.put, sa_, sb_, sc_, i64_w, i32_w]
      rfl
     refine pure_ (i := 40) (N := some 85) (v := ?_) (a' := ?_) z67_58_ rfl rfl (an_ T_) (fun _ _ _ h => h) (Or.inl ⟨by rfl, ?_⟩) ?_ ?_
     rotate_left; · intro w'; go_simp; with_reducible rfl
     rotate_left; · simp only [Act.put, sa_, sb_, sc_, i64_w, i32_w]; rfl
     refine pure_ (i := 41) (N := some 86) (v := ?_) (a' := ?_) z67_59_ rfl rfl (an_ T_) (fun _ _ _ h => h) (Or.inl ⟨by rfl, ?_⟩) ?_ ?_
     rotate_left; · intro w'; go_simp; with_reducible rfl
     rotate_left; · simp only [Act.put, sa_, sb_, sc_, i64_w, i32_w]; rfl
     refine take_ (i := 43) (N := some 88) (v := ?_) (a' := ?_) z67_60_ rfl rfl (tk_ T_ W_) (fun _ _ _ h => h) (Or.inl ⟨by rfl, ?_⟩) hL ?_ ?_
     rotate_left
     ·rintro w' ⟨s0, s1, s2, s3, s4, s5, s6⟩
      go_simp
      with_reducible rfl
     rotate_left
     ·simp only [Act.put, sa_, sb_, sc_, i64_w, i32_w]
      rfl
     refine pure_ (i := 44) (N := some 89) (v := ?_) (a' := ?_) z67_61_ rfl rfl (an_ T_) (fun _ _ _ h => h) (Or.inl ⟨by rfl, ?_⟩) ?_ ?_
     rotate_left; · intro w'; go_simp; with_reducible rfl
     rotate_left; · simp only [Act.put, sa_, sb_, sc_, i64_w, i32_w]; rfl
     refine pure_ (i := 45) (N := some 90) (v := ?_) (a' := ?_) z67_62_ rfl rfl (an_ T_) (fun _ _ _ h => h) (Or.inl ⟨by rfl, ?_⟩) ?_ ?_
     rotate_left; · intro w'; go_simp; with_reducible rfl
     rotate_left; · simp only [Act.put, sa_, sb_, sc_, i64_w, i32_w]; rfl
     refine one_ (i := 47) (N := none) z67_63_ rfl rfl (on_ T_) (by decide) (fun K hK => ?_)
     have hs28 : w27.cell? ⟨g123, 0, none⟩ = some (.int .u64 0) := bq_ B123 0
     have hfs28 := blk_frozen B123.out 0
     have hns28_0 := NB121_123.out
     have hns28_1 := NB122_123.out
     have hms28_0 := NB123_121.out
     have hms28_1 := NB123_122.out
     have hs29 : w27.cell? ⟨g123, 1, none⟩ = some (.int .u64 0) := bq_ B123 1
     have hfs29 := blk_frozen B123.out 1
     have hns29_0 := NB121_123.out
     have hns29_1 := NB122_123.out
     have hms29_0 := NB123_121.out
     have hms29_1 := NB123_122.out
     have hs30 : w27.cell? ⟨g123, 2, none⟩ = some (.int .u64 0) := bq_ B123 2
     have hfs30 := blk_frozen B123.out 2
     have hns30_0 := NB121_123.out
     have hns30_1 := NB122_123.out
     have hms30_0 := NB123_121.out
     have hms30_1 := NB123_122.out
     have hs31 : w27.cell? ⟨g123, 3, none⟩ = some (.int .u64 0) := bq_ B123 3
     have hfs31 := blk_frozen B123.out 3
     have hns31_0 := NB121_123.out
     have hns31_1 := NB122_123.out
     have hms31_0 := NB123_121.out
     have hms31_1 := NB123_122.out
     refine skip_ (w1 := ?_) (by rfl) rfl ?_ ?_
     rotate_left
     ·go_simp
      rfl
     refine hK.out _ _ ⟨((cell_far (p := ⟨g123, _, none⟩) NB122_123.out _).trans (((cell_far (p := ⟨g123, _, none⟩) NB122_123.out _).trans (((cell_far (p := ⟨g123, _, none⟩) NB122_123.out _).trans (((cell_far (p := ⟨g123, _, none⟩) NB122_123.out _).trans (hL.1)))))))), ((cell_far (p := ⟨g123, _, none⟩) NB122_123.out _).trans (((cell_far (p := ⟨g123, _, none⟩) NB122_123.out _).trans (((cell_far (p := ⟨g123, _, none⟩) NB122_123.out _).trans (((cell_far (p := ⟨g123, _, none⟩) NB122_123.out _).trans (hL.2.1)))))))), ((cell_far (p := ⟨g123, _, none⟩) NB122_123.out _).trans (((cell_far (p := ⟨g123, _, none⟩) NB122_123.out _).trans (((cell_far (p := ⟨g123, _, none⟩) NB122_123.out _).trans (((cell_far (p := ⟨g123, _, none⟩) NB122_123.out _).trans (hL.2.2.1)))))))), ((cell_far (p := ⟨g123, _, none⟩) NB122_123.out _).trans (((cell_far (p := ⟨g123, _, none⟩) NB122_123.out _).trans (((cell_far (p := ⟨g123, _, none⟩) NB122_123.out _).trans (((cell_far (p := ⟨g123, _, none⟩) NB122_123.out _).trans (hL.2.2.2.1)))))))), ((cell_far (p := ⟨g123, _, none⟩) NB121_123.out _).trans (((cell_far (p := ⟨g123, _, none⟩) NB121_123.out _).trans (((cell_far (p := ⟨g123, _, none⟩) NB121_123.out _).trans (((cell_far (p := ⟨g123, _, none⟩) NB121_123.out _).trans (hL.2.2.2.2.1)))))))), ((cell_far (p := ⟨g123, _, none⟩) NB121_123.out _).trans (((cell_far (p := ⟨g123, _, none⟩) NB121_123.out _).trans (((cell_far (p := ⟨g123, _, none⟩) NB121_123.out _).trans (((cell_far (p := ⟨g123, _, none⟩) NB121_123.out _).trans (hL.2.2.2.2.2.1)))))))), ((cell_far (p := ⟨g123, _, none⟩) NB121_123.out _).trans (((cell_far (p := ⟨g123, _, none⟩) NB121_123.out _).trans (((cell_far (p := ⟨g123, _, none⟩) NB121_123.out _).trans (((cell_far (p := ⟨g123, _, none⟩) NB121_123.out _).trans (hL.2.2.2.2.2.2))))))))⟩ (fun hL => ?_)
     clear hK K
     refine done_ (done_of T_.out (by kernel_rfl)) ?_
     try go_wp2
     refine bodyPost_ret (results_tc rfl _ _ g123 80 #[.int .u64 (Int.tmod (IntKind.u64.wrap ((IntKind.u64.wrap ((IntKind.u64.wrap ((IntKind.u64.wrap ((IntKind.u64.wrap (x123000_1 + x123001_1)) + x123002_1)) + x123003_1)) + x123000_1)) + (IntKind.u64.wrap (2 * x123001_1)))) a0_0), .int .u64 (Int.tmod (IntKind.u64.wrap ((IntKind.u64.wrap ((IntKind.u64.wrap ((IntKind.u64.wrap ((IntKind.u64.wrap (x123000_1 + x123001_1)) + x123002_1)) + x123003_1)) + x123001_1)) + (IntKind.u64.wrap (2 * x123002_1)))) a0_0), .int .u64 (Int.tmod (IntKind.u64.wrap ((IntKind.u64.wrap ((IntKind.u64.wrap ((IntKind.u64.wrap ((IntKind.u64.wrap (x123000_1 + x123001_1)) + x123002_1)) + x123003_1)) + x123002_1)) + (IntKind.u64.wrap (2 * x123003_1)))) a0_0), .int .u64 (Int.tmod (IntKind.u64.wrap ((IntKind.u64.wrap ((IntKind.u64.wrap ((IntKind.u64.wrap ((IntKind.u64.wrap (x123000_1 + x123001_1)) + x123002_1)) + x123003_1)) + x123003_1)) + (IntKind.u64.wrap (2 * x123000_1)))) a0_0)] (0, 0) _ rfl (by refine blk_put (cs := #[.int .u64 (Int.tmod (IntKind.u64.wrap ((IntKind.u64.wrap ((IntKind.u64.wrap ((IntKind.u64.wrap ((IntKind.u64.wrap (x123000_1 + x123001_1)) + x123002_1)) + x123003_1)) + x123000_1)) + (IntKind.u64.wrap (2 * x123001_1)))) a0_0), .int .u64 (Int.tmod (IntKind.u64.wrap ((IntKind.u64.wrap ((IntKind.u64.wrap ((IntKind.u64.wrap ((IntKind.u64.wrap (x123000_1 + x123001_1)) + x123002_1)) + x123003_1)) + x123001_1)) + (IntKind.u64.wrap (2 * x123002_1)))) a0_0), .int .u64 (Int.tmod (IntKind.u64.wrap ((IntKind.u64.wrap ((IntKind.u64.wrap ((IntKind.u64.wrap ((IntKind.u64.wrap (x123000_1 + x123001_1)) + x123002_1)) + x123003_1)) + x123002_1)) + (IntKind.u64.wrap (2 * x123003_1)))) a0_0), .int .u64 0]) ?_ 3 _ rfl; refine blk_put (cs := #[.int .u64 (Int.tmod (IntKind.u64.wrap ((IntKind.u64.wrap ((IntKind.u64.wrap ((IntKind.u64.wrap ((IntKind.u64.wrap (x123000_1 + x123001_1)) + x123002_1)) + x123003_1)) + x123000_1)) + (IntKind.u64.wrap (2 * x123001_1)))) a0_0), .int .u64 (Int.tmod (IntKind.u64.wrap ((IntKind.u64.wrap ((IntKind.u64.wrap ((IntKind.u64.wrap ((IntKind.u64.wrap (x123000_1 + x123001_1)) + x123002_1)) + x123003_1)) + x123001_1)) + (IntKind.u64.wrap (2 * x123002_1)))) a0_0), .int .u64 0, .int .u64 0]) ?_ 2 _ rfl; refine blk_put (cs := #[.int .u64 (Int.tmod (IntKind.u64.wrap ((IntKind.u64.wrap ((IntKind.u64.wrap ((IntKind.u64.wrap ((IntKind.u64.wrap (x123000_1 + x123001_1)) + x123002_1)) + x123003_1)) + x123000_1)) + (IntKind.u64.wrap (2 * x123001_1)))) a0_0), .int .u64 0, .int .u64 0, .int .u64 0]) ?_ 1 _ rfl; refine blk_put (cs := #[.int .u64 0, .int .u64 0, .int .u64 0, .int .u64 0]) ?_ 0 _ rfl; exact B123.out) Tryd.underlying80 rfl (by kernel_rfl)) rfl ?_
     exact ⟨by first | rfl | (simp [errW_none, errW_some] <;> rfl) | (simp [*, errW_none, errW_some] <;> rfl), by repeat (first | (with_reducible first | exact HB.out | apply below_alloc | apply pw_below_drewN | apply below_drew1 | refine below_set ?_ GE121.out | refine below_set ?_ GE122.out | refine below_set ?_ GE123.out) | exact HB.out)⟩

end Go.Proofs.YtpnpmeogffodgaaDoor.Q
end
section
namespace Go.Proofs.YtpnpmeogffodgaaDoor.Q
open Go.RowKit Go.Proofs.YtpnpmeogffodgaaDoorW.PrintWords Go.Proofs.YtpnpmeogffodgaaDoorW.PrintLast Go.Proofs.YtpnpmeogffodgaaDoorW.PrintMore
attribute [local go_sem] max2_int min2_int max_two min_two max_three min_three max_four min_four run_store_fnV run_store_fnc run_store_nfn   -- for this text's walks alone
set_option linter.unusedVariables false
set_option linter.unusedSimpArgs false

/-! ### sponge_mixer_perm: function 56 -/
def sponge_mixer_perm.l0 : Nat → Int → Int → Int → Int → Bool → Int → Int → Int → Int → Option (Int × Int × Int × Int)
  | 0, _, _, _, _, _, _, _, _, _ => none
  | k + 1, x5, x6, x126000, x126001, x126002, x127000, x127001, x127002, x127003 => if x6 < 8 then ((sponge_mixer_round.f k x126000 x126001 x126002 x5 x127000 x127001 x127002 x127003).bind fun bt128 => (sponge_mixer_perm.l0 k bt128.1 (wrap64 (x6 + 1)) x126000 x126001 x126002 bt128.2.1 bt128.2.2.1 bt128.2.2.2.1 bt128.2.2.2.2)) else (some (x127000, x127001, x127002, x127003))
def sponge_mixer_perm.f (k : Nat) (a0_0 : Int) (a0_1 : Int) (a0_2 : Bool) (a1_0 : Int) (a1_1 : Int) (a1_2 : Int) (a1_3 : Int) : Option (Int × Int × Int × Int) := sponge_mixer_perm.l0 k 1 0 a0_0 a0_1 a0_2 a1_0 a1_1 a1_2 a1_3
theorem sponge_mixer_perm.mono_l : ∀ k, (∀ y0 y1 y2 y3 y4 y5 y6 y7 y8, LeO (sponge_mixer_perm.l0 k y0 y1 y2 y3 y4 y5 y6 y7 y8) (sponge_mixer_perm.l0 (k + 1) y0 y1 y2 y3 y4 y5 y6 y7 y8))
  | 0 => fun _ _ _ _ _ _ _ _ _ r h => by simp [sponge_mixer_perm.l0] at h
  | k + 1 => by
    have ih0 := sponge_mixer_perm.mono_l k
    · intro y0 y1 y2 y3 y4 y5 y6 y7 y8
      unfold sponge_mixer_perm.l0
      repeat' first
      | (with_reducible exact ih0 _ _ _ _ _ _ _ _ _)
      | (with_reducible exact sponge_mixer_round.mono _ _ _ _ _ _ _ _ _)
      | (with_reducible exact LeO.refl _)
      | (with_reducible exact LeO.none _)
      | (with_reducible refine LeO.ite ?_ ?_)
      | (with_reducible refine LeO.bind ?_ (fun _ => ?_))
      | exact ih0 _ _ _ _ _ _ _ _ _
      | exact sponge_mixer_round.mono _ _ _ _ _ _ _ _ _
      | exact LeO.none _
      | refine LeO.ite ?_ ?_
      | refine LeO.bind ?_ (fun _ => ?_)
theorem sponge_mixer_perm.mono : ∀ a0 a1 a2 a3 a4 a5 a6 k, LeO (sponge_mixer_perm.f k a0 a1 a2 a3 a4 a5 a6) (sponge_mixer_perm.f (k + 1) a0 a1 a2 a3 a4 a5 a6) := by
  intro a0 a1 a2 a3 a4 a5 a6 k
  have ih0 := sponge_mixer_perm.mono_l k
  unfold sponge_mixer_perm.f
  repeat' first
      | (with_reducible exact ih0 _ _ _ _ _ _ _ _ _)
      | (with_reducible exact sponge_mixer_round.mono _ _ _ _ _ _ _ _ _)
      | (with_reducible exact LeO.refl _)
      | (with_reducible exact LeO.none _)
      | (with_reducible refine LeO.ite ?_ ?_)
      | (with_reducible refine LeO.bind ?_ (fun _ => ?_))
      | exact ih0 _ _ _ _ _ _ _ _ _
      | exact sponge_mixer_round.mono _ _ _ _ _ _ _ _ _
      | exact LeO.none _
      | refine LeO.ite ?_ ?_
      | refine LeO.bind ?_ (fun _ => ?_)
set_option maxHeartbeats 8000000 in
set_option maxRecDepth 100000 in
theorem sponge_mixer_perm.calls (k : Nat) (a0_0 : Int) (a0_1 : Int) (a0_2 : Bool) (a1_0 : Int) (a1_1 : Int) (a1_2 : Int) (a1_3 : Int) (r1 : Int) (r2 : Int) (r3 : Int) (r4 : Int) (w : World) (h : sponge_mixer_perm.f k a0_0 a0_1 a0_2 a1_0 a1_1 a1_2 a1_3 = some (r1, r2, r3, r4)) :
  Calls Tryd.prog 56 #[.agg #[.int .u64 a0_0, .int .u64 a0_1, .bool a0_2], .agg #[.int .u64 a1_0, .int .u64 a1_1, .int .u64 a1_2, .int .u64 a1_3]] w fun e w' => e = .returned (.agg #[.int .u64 r1, .int .u64 r2, .int .u64 r3, .int .u64 r4]) ∧ Below w.heap.size w w' := by
 have hu78 := Tryd.underlying78
 have hu80 := Tryd.underlying80
 have HB := Aside0.mk (Below.refl w.heap.size w)
 have H : (sponge_mixer_perm.l0 k 1 0 a0_0 a0_1 a0_2 a1_0 a1_1 a1_2 a1_3) = some (r1, r2, r3, r4) := h
 clear h
 have H' := Aside0.mk H
 clear H
 go_enter Tryd.func56, Tryd.ntmps56
 go_wp2_with (first | ((with_reducible refine gate_dst (N := 2) rfl ?_); refine box_event ?hg (N := 2) ?hd (cs := #[.int .u64 a0_0, .int .u64 a0_1, .bool a0_2]) (t := 78) ?hr ?_; (case hd => rfl); (case hg => rfl); (case hr => first | (go_simp; done) | (go_simp; rfl)); intro g125 hg w3 hbox hb; have n0_ := Aside0.mk (below_step (by repeat (first | (with_reducible first | exact HB.out | apply below_alloc | apply pw_below_drewN | apply below_drew1) | exact HB.out)) hb); have n1_ := Aside0.mk (hbox); have n2_ := Aside0.mk ((by rw [hg]; exact (below_size (by repeat (first | (with_reducible first | exact HB.out | apply below_alloc | apply pw_below_drewN | apply below_drew1) | exact HB.out))) : w.heap.size ≤ g125)); have n3_ := Aside0.mk ((by rw [hg]; exact (below_size (by repeat (first | (with_reducible first | exact HB.out | apply below_alloc | apply pw_below_drewN | apply below_drew1) | exact HB.out))) : w.heap.size ≤ g125)); clear HB; have HB := n0_; have B125 := n1_; have GW125 := n2_; have GE125 := n3_; clear n0_ n1_ n2_ n3_; clear hb hbox hg) | ((with_reducible refine gate_dst (N := 3) rfl ?_); refine box_event ?hg (N := 3) ?hd (cs := #[.int .u64 a1_0, .int .u64 a1_1, .int .u64 a1_2, .int .u64 a1_3]) (t := 80) ?hr ?_; (case hd => rfl); (case hg => rfl); (case hr => first | (go_simp; done) | (go_simp; rfl)); intro g126 hg w4 hbox hb; have n0_ := Aside0.mk (blk_below (g := g125) (o := .cells #[.int .u64 a0_0, .int .u64 a0_1, .bool a0_2] 78 (0, 0)) (by exact B125.out) hb); have n1_ := Aside0.mk (below_step (by repeat (first | (with_reducible first | exact HB.out | apply below_alloc | apply pw_below_drewN | apply below_drew1 | refine below_set ?_ GE125.out) | exact HB.out)) hb); have n2_ := Aside0.mk (hbox); have n3_ := Aside0.mk ((by rw [hg]; exact (below_size (by repeat (first | (with_reducible first | exact HB.out | apply below_alloc | apply pw_below_drewN | apply below_drew1 | refine below_set ?_ GE125.out) | exact HB.out))) : w.heap.size ≤ g126)); have n4_ := Aside0.mk ((by rw [hg]; exact (below_size (by repeat (first | (with_reducible first | exact HB.out | apply below_alloc | apply pw_below_drewN | apply below_drew1 | refine below_set ?_ GE125.out) | exact HB.out))) : w.heap.size ≤ g126)); have n5_ := Aside0.mk ((by rw [hg]; exact Nat.ne_of_lt (blk_lt (g := g125) (o := .cells #[.int .u64 a0_0, .int .u64 a0_1, .bool a0_2] 78 (0, 0)) (by exact B125.out)) : g125 ≠ g126)); have n6_ := Aside0.mk ((by rw [hg]; exact Nat.ne_of_gt (blk_lt (g := g125) (o := .cells #[.int .u64 a0_0, .int .u64 a0_1, .bool a0_2] 78 (0, 0)) (by exact B125.out)) : g126 ≠ g125)); clear B125; clear HB; have B125 := n0_; have HB := n1_; have B126 := n2_; have GW126 := n3_; have GE126 := n4_; have NB125_126 := n5_; have NB126_125 := n6_; clear n0_ n1_ n2_ n3_ n4_ n5_ n6_; clear hb hbox hg) | ((with_reducible refine gate_dst (N := 4) rfl ?_); refine box_event ?hg (N := 4) ?hd (cs := #[.int .u64 0, .int .u64 0, .int .u64 0, .int .u64 0]) (t := 80) ?hr ?_; (case hd => rfl); (case hg => rfl); (case hr => first | (go_simp; done) | (go_simp; rfl)); intro g127 hg w5 hbox hb; have n0_ := Aside0.mk (blk_below (g := g125) (o := .cells #[.int .u64 a0_0, .int .u64 a0_1, .bool a0_2] 78 (0, 0)) (by exact B125.out) hb); have n1_ := Aside0.mk (blk_below (g := g126) (o := .cells #[.int .u64 a1_0, .int .u64 a1_1, .int .u64 a1_2, .int .u64 a1_3] 80 (0, 0)) (by exact B126.out) hb); have n2_ := Aside0.mk (below_step (by repeat (first | (with_reducible first | exact HB.out | apply below_alloc | apply pw_below_drewN | apply below_drew1 | refine below_set ?_ GE125.out | refine below_set ?_ GE126.out) | exact HB.out)) hb); have n3_ := Aside0.mk (hbox); have n4_ := Aside0.mk ((by rw [hg]; exact (below_size (by repeat (first | (with_reducible first | exact HB.out | apply below_alloc | apply pw_below_drewN | apply below_drew1 | refine below_set ?_ GE125.out | refine below_set ?_ GE126.out) | exact HB.out))) : w.heap.size ≤ g127)); have n5_ := Aside0.mk ((by rw [hg]; exact (below_size (by repeat (first | (with_reducible first | exact HB.out | apply below_alloc | apply pw_below_drewN | apply below_drew1 | refine below_set ?_ GE125.out | refine below_set ?_ GE126.out) | exact HB.out))) : w.heap.size ≤ g127)); have n6_ := Aside0.mk ((by rw [hg]; exact Nat.ne_of_lt (blk_lt (g := g125) (o := .cells #[.int .u64 a0_0, .int .u64 a0_1, .bool a0_2] 78 (0, 0)) (by exact B125.out)) : g125 ≠ g127)); have n7_ := Aside0.mk ((by rw [hg]; exact Nat.ne_of_gt (blk_lt (g := g125) (o := .cells #[.int .u64 a0_0, .int .u64 a0_1, .bool a0_2] 78 (0, 0)) (by exact B125.out)) : g127 ≠ g125)); have n8_ := Aside0.mk ((by rw [hg]; exact Nat.ne_of_lt (blk_lt (g := g126) (o := .cells #[.int .u64 a1_0, .int .u64 a1_1, .int .u64 a1_2, .int .u64 a1_3] 80 (0, 0)) (by exact B126.out)) : g126 ≠ g127)); have n9_ := Aside0.mk ((by rw [hg]; exact Nat.ne_of_gt (blk_lt (g := g126) (o := .cells #[.int .u64 a1_0, .int .u64 a1_1, .int .u64 a1_2, .int .u64 a1_3] 80 (0, 0)) (by exact B126.out)) : g127 ≠ g126)); clear B125; clear B126; clear HB; have B125 := n0_; have B126 := n1_; have HB := n2_; have B127 := n3_; have GW127 := n4_; have GE127 := n5_; have NB125_127 := n6_; have NB127_125 := n7_; have NB126_127 := n8_; have NB127_126 := n9_; clear n0_ n1_ n2_ n3_ n4_ n5_ n6_ n7_ n8_ n9_; clear hb hbox hg))
 go_loopg [5, 6] k (fun kq v5 v6 w' => ∃ (x5_1 : Int) (x6_1 : Int) (x127000_1 : Int) (x127001_1 : Int) (x127002_1 : Int) (x127003_1 : Int), v5 = .int .u64 x5_1 ∧ v6 = .int .i64 x6_1 ∧ Aside0 (sponge_mixer_perm.l0 kq x5_1 x6_1 a0_0 a0_1 a0_2 x127000_1 x127001_1 x127002_1 x127003_1 = some (r1, r2, r3, r4)) ∧ Aside0 (kq ≤ k) ∧ Aside0 (w'.heap[g125]? = some (.cells #[.int .u64 a0_0, .int .u64 a0_1, .bool a0_2] 78 (0, 0))) ∧ Aside0 (w'.heap[g126]? = some (.cells #[.int .u64 x127000_1, .int .u64 x127001_1, .int .u64 x127002_1, .int .u64 x127003_1] 80 (0, 0))) ∧ Aside0 (w'.heap[g127]? = some (.cells #[.int .u64 0, .int .u64 0, .int .u64 0, .int .u64 0] 80 (0, 0))) ∧ Aside0 (Below w.heap.size w w'))
 case atStart => exact ⟨(1), (0), (a1_0), (a1_1), (a1_2), (a1_3), (by first | rfl | (simp; done) | (simp [*]; done) | (simp; rfl) | (simp; decide +kernel)), (by first | rfl | (simp; done) | (simp [*]; done) | (simp; rfl) | (simp; decide +kernel)), H', ⟨Nat.le_refl _⟩, ⟨by exact B125.out⟩, ⟨by exact B126.out⟩, ⟨by exact B127.out⟩, ⟨by repeat (first | (with_reducible first | exact HB.out | apply below_alloc | apply pw_below_drewN | apply below_drew1 | refine below_set ?_ GE125.out | refine below_set ?_ GE126.out | refine below_set ?_ GE127.out) | exact HB.out)⟩⟩
 case round =>
  clear H'
  try clear p2
  try clear c5
  obtain ⟨x5_1, x6_1, x127000_1, x127001_1, x127002_1, x127003_1, rfl, rfl, HA, HK1, B125, B126, B127, HB⟩ := hrel
  cases gk with
  | zero => exact absurd HA.out (by simp [sponge_mixer_perm.l0])
  | succ k1 =>
   have H := HA.out
   clear HA
   simp only [sponge_mixer_perm.l0] at H
   by_cases c6 : x6_1 < 8
   ·rw [if_pos c6] at H
    have c6b0 : decide (x6_1 < 8) = true := decide_eq_true c6
    clear c6
    replace H := Option.bind_eq_some_iff.mp H
    obtain ⟨⟨t128, t129, t130, t131, t132⟩, A70, H⟩ := H
    replace H : (sponge_mixer_perm.l0 k1 t128 (wrap64 (x6_1 + 1)) a0_0 a0_1 a0_2 t129 t130 t131 t132) = some (r1, r2, r3, r4) := H
    have A7 := Aside0.mk A70
    clear A70
    have H' := Aside0.mk H
    clear H
    have hnb8 := NB125_126.out
    have hnc8 := NB126_125.out
    have hnb9 := NB125_127.out
    have hnc9 := NB127_125.out
    have hcz10_0 : wr.cell? ⟨g125, 0, none⟩ = some (.int .u64 a0_0) := bq_ B125 0
    have hcz10_1 : wr.cell? ⟨g125, 1, none⟩ = some (.int .u64 a0_1) := bq_ B125 1
    have hcz10_2 : wr.cell? ⟨g125, 2, none⟩ = some (.bool a0_2) := bq_ B125 2
    have hfz10_0 := blk_frozen B125.out 0
    have hfz10_1 := blk_frozen B125.out 1
    have hfz10_2 := blk_frozen B125.out 2
    have hnb11 := NB126_127.out
    have hnc11 := NB127_126.out
    have hcz12_0 : wr.cell? ⟨g126, 0, none⟩ = some (.int .u64 x127000_1) := bq_ B126 0
    have hcz12_1 : wr.cell? ⟨g126, 1, none⟩ = some (.int .u64 x127001_1) := bq_ B126 1
    have hcz12_2 : wr.cell? ⟨g126, 2, none⟩ = some (.int .u64 x127002_1) := bq_ B126 2
    have hcz12_3 : wr.cell? ⟨g126, 3, none⟩ = some (.int .u64 x127003_1) := bq_ B126 3
    have hfz12_0 := blk_frozen B126.out 0
    have hfz12_1 := blk_frozen B126.out 1
    have hfz12_2 := blk_frozen B126.out 2
    have hfz12_3 := blk_frozen B126.out 3
    go_wp2_with (first | ((with_reducible refine gate_callee (f := 67) rfl ?_); refine goesL_ (some 12) rfl rfl Tryd.func67 (by kernel_rfl) rfl #[.agg #[.int .u64 a0_0, .int .u64 a0_1, .bool a0_2], .int .u64 x5_1, .agg #[.int .u64 x127000_1, .int .u64 x127001_1, .int .u64 x127002_1, .int .u64 x127003_1]] rfl (by (try simp only [List.map_toArray, List.map_cons, List.map_nil]); first | done | rfl | (go_simp; done)) ?_; (with_reducible refine (sponge_mixer_round.calls k1 a0_0 a0_1 a0_2 x5_1 x127000_1 x127001_1 x127002_1 x127003_1 t128 t129 t130 t131 t132 _ A7.out).mono ?_); rintro e w13 ⟨rfl, hb⟩; refine ⟨_, rfl, ?_⟩; have n0_ := Aside0.mk (blk_below (g := g125) (o := .cells #[.int .u64 a0_0, .int .u64 a0_1, .bool a0_2] 78 (0, 0)) (by exact B125.out) hb); have n1_ := Aside0.mk (blk_below (g := g126) (o := .cells #[.int .u64 x127000_1, .int .u64 x127001_1, .int .u64 x127002_1, .int .u64 x127003_1] 80 (0, 0)) (by exact B126.out) hb); have n2_ := Aside0.mk (blk_below (g := g127) (o := .cells #[.int .u64 0, .int .u64 0, .int .u64 0, .int .u64 0] 80 (0, 0)) (by exact B127.out) hb); have n3_ := Aside0.mk (below_step (by repeat (first | (with_reducible first | exact HB.out | apply below_alloc | apply pw_below_drewN | apply below_drew1 | refine below_set ?_ GE125.out | refine below_set ?_ GE126.out | refine below_set ?_ GE127.out) | exact HB.out)) hb); clear B125; clear B126; clear B127; clear HB; have B125 := n0_; have B126 := n1_; have B127 := n2_; have HB := n3_; clear n0_ n1_ n2_ n3_; (try clear hb); (try clear hb2); (try clear hk); (try clear hi); have hcz14_0 : w13.cell? ⟨g126, 0, none⟩ = some (.int .u64 x127000_1) := bq_ B126 0; have hcz14_1 : w13.cell? ⟨g126, 1, none⟩ = some (.int .u64 x127001_1) := bq_ B126 1; have hcz14_2 : w13.cell? ⟨g126, 2, none⟩ = some (.int .u64 x127002_1) := bq_ B126 2; have hcz14_3 : w13.cell? ⟨g126, 3, none⟩ = some (.int .u64 x127003_1) := bq_ B126 3; have hfz14_0 := blk_frozen B126.out 0; have hfz14_1 := blk_frozen B126.out 1; have hfz14_2 := blk_frozen B126.out 2; have hfz14_3 := blk_frozen B126.out 3))
    go_roundg k1
    case measure => have := HK1.out; omega
    case rel => exact ⟨(t128), (wrap64 (x6_1 + 1)), (t129), (t130), (t131), (t132), (by first | rfl | (simp; done) | (simp [*]; done) | (simp; rfl) | (simp; decide +kernel)), (by first | rfl | (simp; done) | (simp [*]; done) | (simp; rfl) | (simp; decide +kernel)), H', ⟨by have := HK1.out; omega⟩, ⟨by refine blk_far ?_ NB125_126.out _; refine blk_far ?_ NB125_126.out _; refine blk_far ?_ NB125_126.out _; refine blk_far ?_ NB125_126.out _; exact B125.out⟩, ⟨by refine blk_put (cs := #[.int .u64 t129, .int .u64 t130, .int .u64 t131, .int .u64 x127003_1]) ?_ 3 _ rfl; refine blk_put (cs := #[.int .u64 t129, .int .u64 t130, .int .u64 x127002_1, .int .u64 x127003_1]) ?_ 2 _ rfl; refine blk_put (cs := #[.int .u64 t129, .int .u64 x127001_1, .int .u64 x127002_1, .int .u64 x127003_1]) ?_ 1 _ rfl; refine blk_put (cs := #[.int .u64 x127000_1, .int .u64 x127001_1, .int .u64 x127002_1, .int .u64 x127003_1]) ?_ 0 _ rfl; exact B126.out⟩, ⟨by refine blk_far ?_ NB127_126.out _; refine blk_far ?_ NB127_126.out _; refine blk_far ?_ NB127_126.out _; refine blk_far ?_ NB127_126.out _; exact B127.out⟩, ⟨by repeat (first | (with_reducible first | exact HB.out | apply below_alloc | apply pw_below_drewN | apply below_drew1 | refine below_set ?_ GE125.out | refine below_set ?_ GE126.out | refine below_set ?_ GE127.out) | exact HB.out)⟩⟩
   ·rw [if_neg c6] at H
    have c6b0 : decide (x6_1 < 8) = false := decide_eq_false c6
    clear c6
    simp only [Option.some.injEq, Prod.mk.injEq] at H
    obtain ⟨rfl, rfl, rfl, rfl⟩ := H
    have hnb15 := NB126_125.out
    have hnc15 := NB125_126.out
    have hnb16 := NB126_127.out
    have hnc16 := NB127_126.out
    have hcz17_0 : wr.cell? ⟨g126, 0, none⟩ = some (.int .u64 x127000_1) := bq_ B126 0
    have hcz17_1 : wr.cell? ⟨g126, 1, none⟩ = some (.int .u64 x127001_1) := bq_ B126 1
    have hcz17_2 : wr.cell? ⟨g126, 2, none⟩ = some (.int .u64 x127002_1) := bq_ B126 2
    have hcz17_3 : wr.cell? ⟨g126, 3, none⟩ = some (.int .u64 x127003_1) := bq_ B126 3
    have hfz17_0 := blk_frozen B126.out 0
    have hfz17_1 := blk_frozen B126.out 1
    have hfz17_2 := blk_frozen B126.out 2
    have hfz17_3 := blk_frozen B126.out 3
    have hnb18 := NB127_125.out
    have hnc18 := NB125_127.out
    have hcz19_0 : wr.cell? ⟨g127, 0, none⟩ = some (.int .u64 0) := bq_ B127 0
    have hcz19_1 : wr.cell? ⟨g127, 1, none⟩ = some (.int .u64 0) := bq_ B127 1
    have hcz19_2 : wr.cell? ⟨g127, 2, none⟩ = some (.int .u64 0) := bq_ B127 2
    have hcz19_3 : wr.cell? ⟨g127, 3, none⟩ = some (.int .u64 0) := bq_ B127 3
    have hfz19_0 := blk_frozen B127.out 0
    have hfz19_1 := blk_frozen B127.out 1
    have hfz19_2 := blk_frozen B127.out 2
    have hfz19_3 := blk_frozen B127.out 3
    go_wp2
    refine bodyPost_ret (results_cell_row rfl _ _ g127 80 #[.int .u64 x127000_1, .int .u64 x127001_1, .int .u64 x127002_1, .int .u64 x127003_1] (0, 0) _ rfl (by refine blk_put (cs := #[.int .u64 x127000_1, .int .u64 x127001_1, .int .u64 x127002_1, .int .u64 0]) ?_ 3 _ rfl; refine blk_put (cs := #[.int .u64 x127000_1, .int .u64 x127001_1, .int .u64 0, .int .u64 0]) ?_ 2 _ rfl; refine blk_put (cs := #[.int .u64 x127000_1, .int .u64 0, .int .u64 0, .int .u64 0]) ?_ 1 _ rfl; refine blk_put (cs := #[.int .u64 0, .int .u64 0, .int .u64 0, .int .u64 0]) ?_ 0 _ rfl; exact B127.out) Tryd.underlying80 rfl (by kernel_rfl)) rfl ?_
    exact ⟨by first | rfl | (simp [errW_none, errW_some] <;> rfl) | (simp [*, errW_none, errW_some] <;> rfl), by repeat (first | (with_reducible first | exact HB.out | apply below_alloc | apply pw_below_drewN | apply below_drew1 | refine below_set ?_ GE125.out | refine below_set ?_ GE126.out | refine below_set ?_ GE127.out) | exact HB.out)⟩

end Go.Proofs.YtpnpmeogffodgaaDoor.Q
end
section
namespace Go.Proofs.YtpnpmeogffodgaaDoor.Q
open Go.RowKit Go.Proofs.YtpnpmeogffodgaaDoorW.PrintWords Go.Proofs.YtpnpmeogffodgaaDoorW.PrintLast Go.Proofs.YtpnpmeogffodgaaDoorW.PrintMore
open Go.Proofs.YtpnpmeogffodgaaDoor.Num
set_option linter.unusedVariables false
set_option linter.unusedSimpArgs false
structure S4 where
  a : Nat
  b : Nat
  c : Nat
  d : Nat
def S4.o (s : S4) : Int × Int × Int × Int := ((s.a : Int), (s.b : Int), (s.c : Int), (s.d : Int))
def S4.lt (s : S4) (p : Nat) : Prop := s.a < p ∧ s.b < p ∧ s.c < p ∧ s.d < p
def cst (p g n : Nat) : Nat := (g ^ n % p + 7) % p
def mixd (p a b c d : Nat) : S4 := ⟨(2 * a + 3 * b + c + d) % p, (a + 2 * b + 3 * c + d) % p, (a + b + 2 * c + 3 * d) % p, (3 * a + b + c + 2 * d) % p⟩
def rn (p g e n : Nat) (s : S4) : S4 := mixd p ((s.a + cst p g (n + 1)) ^ e % p) ((s.b + cst p g (n + 2)) ^ e % p) ((s.c + cst p g (n + 3)) ^ e % p) ((s.d + cst p g (n + 4)) ^ e % p)
def red (p : Nat) (s : S4) : S4 := ⟨s.a % p, s.b % p, s.c % p, s.d % p⟩
def prm (p g e : Nat) : Nat → S4 → S4
  | 0, s => s
  | n + 1, s => rn p g e (4 * n) (prm p g e n s)
theorem bnd {α β : Type} {o : Option α} {v : α} {F : α → Option β} {r : Option β} (h : o = some v) (g : F v = r) : o.bind F = r := by subst h; exact g
structure Fd (f : Int) (p g e : Nat) : Prop where
  F : Fld f p
  gen : fg f = (g : Int)
  exp : fe f = (e : Int)
  e53 : e = 5 ∨ e = 3
  glt : g < p
  p96 : 96 < p
theorem fd_of {f : Int} (h0 : 0 ≤ f) (h1 : f < 4) : ∃ p g e, Fd f p g e := by
  rcases (show f = 0 ∨ f = 1 ∨ f = 2 ∨ f = 3 by omega) with rfl | rfl | rfl | rfl
  · exact ⟨97, 5, 5, ⟨by decide, by decide, rfl, pr97, by decide⟩, rfl, rfl, Or.inl rfl, by decide, by decide⟩
  · exact ⟨257, 3, 3, ⟨by decide, by decide, rfl, pr257, by decide⟩, rfl, rfl, Or.inr rfl, by decide, by decide⟩
  · exact ⟨12289, 11, 5, ⟨by decide, by decide, rfl, pr12289, by decide⟩, rfl, rfl, Or.inl rfl, by decide, by decide⟩
  · exact ⟨998244353, 3, 3, ⟨by decide, by decide, rfl, pr998244353, by decide⟩, rfl, rfl, Or.inr rfl, by decide, by decide⟩
theorem rn_lt {p : Nat} (hp : 0 < p) (g e n : Nat) (s : S4) : (rn p g e n s).lt p := ⟨Nat.mod_lt _ hp, Nat.mod_lt _ hp, Nat.mod_lt _ hp, Nat.mod_lt _ hp⟩
theorem red_lt {p : Nat} (hp : 0 < p) (s : S4) : (red p s).lt p := ⟨Nat.mod_lt _ hp, Nat.mod_lt _ hp, Nat.mod_lt _ hp, Nat.mod_lt _ hp⟩
theorem prm_lt {p : Nat} (hp : 0 < p) (g e : Nat) (s : S4) (hs : s.lt p) : ∀ n, (prm p g e n s).lt p
  | 0 => hs
  | n + 1 => rn_lt hp _ _ _ _
theorem Fd.pos {f : Int} {p g e : Nat} (D : Fd f p g e) : 0 < p := by have := D.p96; omega
theorem pw5 (p x : Nat) : x * x % p * (x * x % p) % p * x % p = x ^ 5 % p := by
  rw [← Nat.mul_mod, Nat.mul_mod (x * x * (x * x) % p), Nat.mod_mod, ← Nat.mul_mod]
  congr 1
  simp only [Nat.pow_succ, Nat.pow_zero, Nat.one_mul, Nat.mul_assoc]
theorem pw3 (p x : Nat) : x * x % p * x % p = x ^ 3 % p := by
  rw [Nat.mul_mod (x * x % p), Nat.mod_mod, ← Nat.mul_mod]
  congr 1
  simp only [Nat.pow_succ, Nat.pow_zero, Nat.one_mul, Nat.mul_assoc]
theorem castM (a b : Nat) : (a : Int) * (b : Int) = ((a * b : Nat) : Int) := (Int.natCast_mul a b).symm
theorem castA (a b : Nat) : (a : Int) + (b : Int) = ((a + b : Nat) : Int) := (Int.natCast_add a b).symm
theorem power_f {f : Int} {p g e : Nat} (D : Fd f p g e) (x : Nat) (hx : x < p) : sponge_mixer_power.f p g ((e : Int) == 5) x = some ((x ^ e % p : Nat) : Int) := by
  unfold sponge_mixer_power.f
  have hb := D.F.big
  have h1 := mul_lt hb x x hx hx
  have m1 := D.F.md (x * x)
  have h3 := mul_lt hb _ x m1 hx
  rw [if_neg D.F.ne]
  rcases D.e53 with rfl | rfl
  · have h2 := mul_lt hb _ _ m1 m1
    have h4 := mul_lt hb _ x (D.F.md (x * x % p * (x * x % p))) hx
    rw [if_pos (by decide), castM, wrapU h1, tmodN, castM, wrapU h2, tmodN, castM, wrapU h4, tmodN, pw5]
  · rw [if_neg (by decide), castM, wrapU h1, tmodN, castM, wrapU h3, tmodN, pw3]
theorem kstep {f : Int} {p g e : Nat} (D : Fd f p g e) (n : Nat) : Int.tmod (IntKind.u64.wrap (((g ^ n % p : Nat) : Int) * (g : Int))) (p : Int) = ((g ^ (n + 1) % p : Nat) : Int) := by
  rw [castM, wrapU (mul_lt D.F.big _ _ (D.F.md _) D.glt), tmodN, Nat.pow_succ, Nat.mul_mod (g ^ n % p), Nat.mod_mod, ← Nat.mul_mod]
theorem astep {f : Int} {p g e : Nat} (D : Fd f p g e) (n s : Nat) (hs : s < p) : Int.tmod (IntKind.u64.wrap (IntKind.u64.wrap ((s : Int) + ((g ^ n % p : Nat) : Int)) + 7)) (p : Int) = (((s + cst p g n) % p : Nat) : Int) := by
  have h1 := D.F.md (g ^ n)
  have hb := D.F.big
  rw [castA, wrapU (by omega), show (7 : Int) = ((7 : Nat) : Int) from rfl, castA, wrapU (by omega), tmodN, cst, Nat.add_mod_mod, Nat.add_assoc]
theorem mstep {f : Int} {p g e : Nat} (D : Fd f p g e) (a b c d x y : Nat) (ha : a < p) (hb : b < p) (hc : c < p) (hd : d < p) (hx : x < p) (hy : y < p) :
    Int.tmod (IntKind.u64.wrap (IntKind.u64.wrap (IntKind.u64.wrap (IntKind.u64.wrap (IntKind.u64.wrap ((a : Int) + (b : Int)) + (c : Int)) + (d : Int)) + (x : Int)) + IntKind.u64.wrap (2 * (y : Int)))) (p : Int) = (((a + b + c + d + x + 2 * y) % p : Nat) : Int) := by
  have := D.F.big
  rw [castA, wrapU (by omega), castA, wrapU (by omega), castA, wrapU (by omega), castA, wrapU (by omega), show (2 : Int) = ((2 : Nat) : Int) from rfl, castM, wrapU (by omega), castA, wrapU (by omega), tmodN]
theorem v01 : wrap64 (0 + 1) = 1 := by decide +kernel
theorem v12 : wrap64 (1 + 1) = 2 := by decide +kernel
theorem v23 : wrap64 (2 + 1) = 3 := by decide +kernel
theorem v34 : wrap64 (3 + 1) = 4 := by decide +kernel
theorem mr_0 (k : Nat) (K p g : Int) (b : Bool) (s0 s1 s2 s3 : Int) (hp : ¬ p = 0) : sponge_mixer_round.l0 (k + 1) K 0 p g b s0 s1 s2 s3 = (sponge_mixer_power.f p g b (Int.tmod (IntKind.u64.wrap (IntKind.u64.wrap (s0 + Int.tmod (IntKind.u64.wrap (K * g)) p) + 7)) p)).bind fun v => sponge_mixer_round.l0 k (Int.tmod (IntKind.u64.wrap (K * g)) p) 1 p g b v s1 s2 s3 := by
  rw [sponge_mixer_round.l0, if_pos (by decide), if_neg hp, if_pos (by decide), v01]
  rfl
theorem md_0 (k : Nat) (p g : Int) (b : Bool) (s0 s1 s2 s3 : Int) (hp : ¬ p = 0) : sponge_mixer_reduced.l0 (k + 1) 0 p g b s0 s1 s2 s3 = sponge_mixer_reduced.l0 k 1 p g b (Int.tmod s0 p) s1 s2 s3 := by
  rw [sponge_mixer_reduced.l0, if_pos (by decide), if_pos (by decide), if_neg hp, v01]
  rfl
theorem mr_1 (k : Nat) (K p g : Int) (b : Bool) (s0 s1 s2 s3 : Int) (hp : ¬ p = 0) : sponge_mixer_round.l0 (k + 1) K 1 p g b s0 s1 s2 s3 = (sponge_mixer_power.f p g b (Int.tmod (IntKind.u64.wrap (IntKind.u64.wrap (s1 + Int.tmod (IntKind.u64.wrap (K * g)) p) + 7)) p)).bind fun v => sponge_mixer_round.l0 k (Int.tmod (IntKind.u64.wrap (K * g)) p) 2 p g b s0 v s2 s3 := by
  rw [sponge_mixer_round.l0, if_pos (by decide), if_neg hp, if_pos (by decide), v12]
  rfl
theorem md_1 (k : Nat) (p g : Int) (b : Bool) (s0 s1 s2 s3 : Int) (hp : ¬ p = 0) : sponge_mixer_reduced.l0 (k + 1) 1 p g b s0 s1 s2 s3 = sponge_mixer_reduced.l0 k 2 p g b s0 (Int.tmod s1 p) s2 s3 := by
  rw [sponge_mixer_reduced.l0, if_pos (by decide), if_pos (by decide), if_neg hp, v12]
  rfl
theorem mr_2 (k : Nat) (K p g : Int) (b : Bool) (s0 s1 s2 s3 : Int) (hp : ¬ p = 0) : sponge_mixer_round.l0 (k + 1) K 2 p g b s0 s1 s2 s3 = (sponge_mixer_power.f p g b (Int.tmod (IntKind.u64.wrap (IntKind.u64.wrap (s2 + Int.tmod (IntKind.u64.wrap (K * g)) p) + 7)) p)).bind fun v => sponge_mixer_round.l0 k (Int.tmod (IntKind.u64.wrap (K * g)) p) 3 p g b s0 s1 v s3 := by
  rw [sponge_mixer_round.l0, if_pos (by decide), if_neg hp, if_pos (by decide), v23]
  rfl
theorem md_2 (k : Nat) (p g : Int) (b : Bool) (s0 s1 s2 s3 : Int) (hp : ¬ p = 0) : sponge_mixer_reduced.l0 (k + 1) 2 p g b s0 s1 s2 s3 = sponge_mixer_reduced.l0 k 3 p g b s0 s1 (Int.tmod s2 p) s3 := by
  rw [sponge_mixer_reduced.l0, if_pos (by decide), if_pos (by decide), if_neg hp, v23]
  rfl
theorem mr_3 (k : Nat) (K p g : Int) (b : Bool) (s0 s1 s2 s3 : Int) (hp : ¬ p = 0) : sponge_mixer_round.l0 (k + 1) K 3 p g b s0 s1 s2 s3 = (sponge_mixer_power.f p g b (Int.tmod (IntKind.u64.wrap (IntKind.u64.wrap (s3 + Int.tmod (IntKind.u64.wrap (K * g)) p) + 7)) p)).bind fun v => sponge_mixer_round.l0 k (Int.tmod (IntKind.u64.wrap (K * g)) p) 4 p g b s0 s1 s2 v := by
  rw [sponge_mixer_round.l0, if_pos (by decide), if_neg hp, if_pos (by decide), v34]
  rfl
theorem md_3 (k : Nat) (p g : Int) (b : Bool) (s0 s1 s2 s3 : Int) (hp : ¬ p = 0) : sponge_mixer_reduced.l0 (k + 1) 3 p g b s0 s1 s2 s3 = sponge_mixer_reduced.l0 k 4 p g b s0 s1 s2 (Int.tmod s3 p) := by
  rw [sponge_mixer_reduced.l0, if_pos (by decide), if_pos (by decide), if_neg hp, v34]
  rfl
theorem round_f {f : Int} {p g e : Nat} (D : Fd f p g e) (k n : Nat) (hk : 4 < k) (s : S4) (hs : s.lt p) :
    sponge_mixer_round.f k p g ((e : Int) == 5) ((g ^ n % p : Nat) : Int) s.a s.b s.c s.d = some (((g ^ (n + 1 + 1 + 1 + 1) % p : Nat) : Int), (rn p g e n s).o) := by
  obtain ⟨h1, h2, h3, h4⟩ := hs
  obtain ⟨k, rfl⟩ : ∃ j, k = j + 1 + 1 + 1 + 1 + 1 := ⟨k - 5, by omega⟩
  unfold sponge_mixer_round.f
  rw [mr_0 _ _ _ _ _ _ _ _ _ D.F.ne, kstep D n, astep D _ _ h1]
  refine bnd (power_f D _ (D.F.md _)) ?_
  rw [mr_1 _ _ _ _ _ _ _ _ _ D.F.ne, kstep D (n + 1), astep D _ _ h2]
  refine bnd (power_f D _ (D.F.md _)) ?_
  rw [mr_2 _ _ _ _ _ _ _ _ _ D.F.ne, kstep D (n + 1 + 1), astep D _ _ h3]
  refine bnd (power_f D _ (D.F.md _)) ?_
  rw [mr_3 _ _ _ _ _ _ _ _ _ D.F.ne, kstep D (n + 1 + 1 + 1), astep D _ _ h4]
  refine bnd (power_f D _ (D.F.md _)) ?_
  rw [sponge_mixer_round.l0, if_neg (by decide), if_neg D.F.ne]
  rw [mstep D _ _ _ _ _ _ (D.F.md _) (D.F.md _) (D.F.md _) (D.F.md _) (D.F.md _) (D.F.md _), mstep D _ _ _ _ _ _ (D.F.md _) (D.F.md _) (D.F.md _) (D.F.md _) (D.F.md _) (D.F.md _), mstep D _ _ _ _ _ _ (D.F.md _) (D.F.md _) (D.F.md _) (D.F.md _) (D.F.md _) (D.F.md _), mstep D _ _ _ _ _ _ (D.F.md _) (D.F.md _) (D.F.md _) (D.F.md _) (D.F.md _) (D.F.md _)]
  simp only [← Nat.pow_mod, S4.o, rn, mixd]
  generalize (s.a + cst p g (n + 1)) ^ e % p = w
  generalize (s.b + cst p g (n + 2)) ^ e % p = x
  generalize (s.c + cst p g (n + 3)) ^ e % p = y
  generalize (s.d + cst p g (n + 4)) ^ e % p = z
  rw [show w + x + y + z + w + 2 * x = 2 * w + 3 * x + y + z by omega, show w + x + y + z + x + 2 * y = w + 2 * x + 3 * y + z by omega, show w + x + y + z + y + 2 * z = w + x + 2 * y + 3 * z by omega, show w + x + y + z + z + 2 * w = 3 * w + x + y + 2 * z by omega]
theorem perm_l0 {f : Int} {p g e : Nat} (D : Fd f p g e) (s : S4) (hs : s.lt p) : ∀ (m n k : Nat), n + m = 8 → 4 + m < k →
    sponge_mixer_perm.l0 k ((g ^ (4 * n) % p : Nat) : Int) n p g ((e : Int) == 5) (prm p g e n s).a (prm p g e n s).b (prm p g e n s).c (prm p g e n s).d = some (prm p g e 8 s).o := by
  intro m
  induction m with
  | zero =>
    intro n k hn hk
    obtain rfl : n = 8 := by omega
    obtain ⟨k, rfl⟩ : ∃ j, k = j + 1 := ⟨k - 1, by omega⟩
    rw [sponge_mixer_perm.l0, if_neg (by omega)]
    rfl
  | succ m ih =>
    intro n k hn hk
    obtain ⟨k, rfl⟩ : ∃ j, k = j + 1 := ⟨k - 1, by omega⟩
    rw [sponge_mixer_perm.l0, if_pos (by omega)]
    refine bnd (round_f D k (4 * n) (by omega) (prm p g e n s) (prm_lt D.pos g e s hs n)) ?_
    simp only [S4.o]
    rw [wrapS (x := (n : Int) + 1) (by omega) (by omega), show ((n : Int) + 1) = ((n + 1 : Nat) : Int) from rfl]
    exact ih (n + 1) k (by omega) (by omega)
theorem perm_f {f : Int} {p g e : Nat} (D : Fd f p g e) (k : Nat) (hk : 12 < k) (s : S4) (hs : s.lt p) : sponge_mixer_perm.f k p g ((e : Int) == 5) s.a s.b s.c s.d = some (prm p g e 8 s).o := by
  have one : (1 : Int) = ((g ^ (4 * 0) % p : Nat) : Int) := by rw [Nat.mul_zero, Nat.pow_zero, Nat.mod_eq_of_lt (by have := D.p96; omega)]; rfl
  unfold sponge_mixer_perm.f
  rw [one]
  exact perm_l0 D s hs 8 0 k rfl (by omega)
theorem in_f {f : Int} {p g e : Nat} (D : Fd f p g e) : sponge_in.f f = some ((p : Int), (g : Int), ((e : Int) == 5)) := by
  unfold sponge_in.f field_P.f field_Generator.f field_Exponent.f
  simp only [Option.bind_some, D.F.eq, D.gen, D.exp]
theorem red_f {f : Int} {p g e : Nat} (D : Fd f p g e) (k : Nat) (hk : 4 < k) (g' : Int) (b : Bool) (s : S4) : sponge_mixer_reduced.f k p g' b s.a s.b s.c s.d = some (red p s).o := by
  obtain ⟨k, rfl⟩ : ∃ j, k = j + 1 + 1 + 1 + 1 + 1 := ⟨k - 5, by omega⟩
  unfold sponge_mixer_reduced.f
  rw [md_0 _ _ _ _ _ _ _ _ D.F.ne, md_1 _ _ _ _ _ _ _ _ D.F.ne, md_2 _ _ _ _ _ _ _ _ D.F.ne, md_3 _ _ _ _ _ _ _ _ D.F.ne, sponge_mixer_reduced.l0, if_neg (by decide), tmodN, tmodN, tmodN, tmodN]
  rfl
end Go.Proofs.YtpnpmeogffodgaaDoor.Q
end
section
namespace Go.Proofs.YtpnpmeogffodgaaDoor.Q
open Go.RowKit Go.Proofs.YtpnpmeogffodgaaDoorW.PrintWords Go.Proofs.YtpnpmeogffodgaaDoorW.PrintLast Go.Proofs.YtpnpmeogffodgaaDoorW.PrintMore
open Go.Proofs.YtpnpmeogffodgaaDoor.Num
set_option linter.unusedVariables false
set_option linter.unusedSimpArgs false
end Go.Proofs.YtpnpmeogffodgaaDoor.Q
end
section
namespace Go.Proofs.YtpnpmeogffodgaaDoor.Q
open Go.RowKit Go.Proofs.YtpnpmeogffodgaaDoorW.PrintWords Go.Proofs.YtpnpmeogffodgaaDoorW.PrintLast Go.Proofs.YtpnpmeogffodgaaDoorW.PrintMore
attribute [local go_sem] max2_int min2_int max_two min_two max_three min_three max_four min_four run_store_fnV run_store_fnc run_store_nfn   -- for this text's walks alone
set_option linter.unusedVariables false
set_option linter.unusedSimpArgs false

abbrev z36_0_ : Array Bool := #[false, false, false, false, false, false, false, false, false, false, false, false, false, false, false, false, false, false]
abbrev z36_1_ : Array Bool := #[true, false, false, false, false, false, false, false, false, false, false, false, false, false, false, false, false, false]
abbrev z36_2_ : Array Bool := #[true, false, true, false, false, false, false, false, false, false, false, false, false, false, false, false, false, false]
abbrev z36_3_ : Array Bool := #[true, false, true, false, false, true, false, false, false, false, false, false, false, false, false, false, false, false]
abbrev z36_4_ : Array Bool := #[true, false, true, false, false, true, false, false, true, false, false, false, false, false, false, false, false, false]
abbrev z36_5_ : Array Bool := #[true, false, true, false, false, true, false, false, true, false, true, false, false, false, false, false, false, false]
abbrev z36_6_ : Array Bool := #[true, false, true, false, false, true, false, false, true, false, true, false, false, true, false, false, false, false]
abbrev z36_7_ : Array Bool := #[true, true, true, false, false, true, false, false, true, false, true, false, false, true, false, false, false, false]
abbrev z36_8_ : Array Bool := #[true, true, true, true, false, true, false, false, true, false, true, false, false, true, false, false, false, false]
abbrev z36_9_ : Array Bool := #[true, true, true, true, true, true, false, false, true, false, true, false, false, true, false, false, false, false]
abbrev z36_10_ : Array Bool := #[true, true, true, true, true, true, true, false, true, false, true, false, false, true, false, false, false, false]
abbrev z36_11_ : Array Bool := #[true, true, true, true, true, true, true, true, true, false, true, false, false, true, false, false, false, false]
abbrev z36_12_ : Array Bool := #[true, true, true, true, true, true, true, true, true, true, true, false, false, true, false, false, false, false]
abbrev z36_13_ : Array Bool := #[true, true, true, true, true, true, true, true, true, true, true, true, false, true, false, false, false, false]
abbrev z36_14_ : Array Bool := #[true, true, true, true, true, true, true, true, true, true, true, true, true, true, false, false, false, false]
abbrev z36_15_ : Array Bool := #[true, true, true, true, true, true, true, true, true, true, true, true, true, true, true, false, false, false]
abbrev z36_16_ : Array Bool := #[true, true, true, true, true, true, true, true, true, true, true, true, true, true, true, true, false, false]
abbrev z36_17_ : Array Bool := #[true, true, true, true, true, true, true, true, true, true, true, true, true, true, true, true, true, false]
abbrev z36_18_ : Array Bool := #[true, true, true, true, true, true, true, true, true, true, true, true, true, true, true, true, true, true]
/-! ### sponge_Node: function 36 -/
def sponge_Node.f (k : Nat) (a0 : Int) (a1_0 : Int) (a1_1 : Int) (a2_0 : Int) (a2_1 : Int) : Option (Int × Int) := (field_Valid.f a0).bind fun t136 => (if t136 = true then ((sponge_in.f a0).bind fun bt137 => ((sponge_mixer_reduced.f k bt137.1 bt137.2.1 bt137.2.2 a1_0 a1_1 a2_0 a2_1).bind fun bt141 => ((sponge_mixer_perm.f k bt137.1 bt137.2.1 bt137.2.2 bt141.1 bt141.2.1 bt141.2.2.1 bt141.2.2.2).bind fun bt146 => (if bt137.1 = 0 then (none) else (some (Int.tmod (IntKind.u64.wrap (bt146.1 + bt141.1)) bt137.1, Int.tmod (IntKind.u64.wrap (bt146.2.1 + bt141.2.1)) bt137.1)))))) else (some (0, 0)))
theorem sponge_Node.mono : ∀ a0 a1 a2 a3 a4 k, LeO (sponge_Node.f k a0 a1 a2 a3 a4) (sponge_Node.f (k + 1) a0 a1 a2 a3 a4) := by
  intro a0 a1 a2 a3 a4 k
  unfold sponge_Node.f
  repeat' first
      | (with_reducible exact sponge_mixer_perm.mono _ _ _ _ _ _ _ _)
      | (with_reducible exact sponge_mixer_reduced.mono _ _ _ _ _ _ _ _)
      | (with_reducible exact LeO.refl _)
      | (with_reducible exact LeO.none _)
      | (with_reducible refine LeO.ite ?_ ?_)
      | (with_reducible refine LeO.bind ?_ (fun _ => ?_))
      | exact sponge_mixer_perm.mono _ _ _ _ _ _ _ _
      | exact sponge_mixer_reduced.mono _ _ _ _ _ _ _ _
      | exact LeO.none _
      | refine LeO.ite ?_ ?_
      | refine LeO.bind ?_ (fun _ => ?_)
def sponge_Node.T6 : Bool × List (List Nat × List Nat) := (true, [([], []), ([0], [0]), ([], []), ([2], [2]), ([1, 3], [1, 3]), ([], []), ([5], [5]), ([4, 6], [4, 6]), ([], []), ([8], [8]), ([], []), ([10], [10]), ([9, 11], [9, 11]), ([], []), ([13], [13]), ([12, 14], [12, 14]), ([7, 15], [7, 15]), ([16, 0, 1, 2, 3, 4, 5, 6, 7, 8, 9, 10, 11, 12, 13, 14, 15, 16], [16])])
def sponge_Node.B6 : List Nat := [0, 1, 0, 4, 15, 0, 32, 127, 0, 256, 0, 1024, 3840, 0, 8192, 32512, 65535, 131071]
theorem sponge_Node.tab6 : rtab .any (opsOf Tryd.f36 6) = sponge_Node.T6 := by kernel_rfl
theorem sponge_Node.bits6 : waitsOk sponge_Node.T6.2 sponge_Node.B6 = true := by kernel_rfl
set_option maxHeartbeats 8000000 in
set_option maxRecDepth 100000 in
theorem sponge_Node.calls (k : Nat) (a0 : Int) (a1_0 : Int) (a1_1 : Int) (a2_0 : Int) (a2_1 : Int) (r1 : Int) (r2 : Int) (w : World) (hrG : GL w) (h : sponge_Node.f k a0 a1_0 a1_1 a2_0 a2_1 = some (r1, r2)) :
  Calls Tryd.prog 36 #[.int .i64 a0, .agg #[.int .u64 a1_0, .int .u64 a1_1], .agg #[.int .u64 a2_0, .int .u64 a2_1]] w fun e w' => e = .returned (.agg #[.int .u64 r1, .int .u64 r2]) ∧ Below w.heap.size w w' := by
 have hu36 := Tryd.underlying36
 have hu78 := Tryd.underlying78
 have hu80 := Tryd.underlying80
 have HRG := Aside0.mk hrG
 clear hrG
 have HB := Aside0.mk (Below.refl w.heap.size w)
 have H : ((field_Valid.f a0).bind fun t136 => (if t136 = true then ((sponge_in.f a0).bind fun bt137 => ((sponge_mixer_reduced.f k bt137.1 bt137.2.1 bt137.2.2 a1_0 a1_1 a2_0 a2_1).bind fun bt141 => ((sponge_mixer_perm.f k bt137.1 bt137.2.1 bt137.2.2 bt141.1 bt141.2.1 bt141.2.2.1 bt141.2.2.2).bind fun bt146 => (if bt137.1 = 0 then (none) else (some (Int.tmod (IntKind.u64.wrap (bt146.1 + bt141.1)) bt137.1, Int.tmod (IntKind.u64.wrap (bt146.2.1 + bt141.2.1)) bt137.1)))))) else (some (0, 0)))) = some (r1, r2) := h
 clear h
 replace H := Option.bind_eq_some_iff.mp H
 obtain ⟨t136, A40, H⟩ := H
 have A4 := Aside0.mk A40
 clear A40
 by_cases c5 : t136 = true
 ·subst c5
  have H1 : ((sponge_in.f a0).bind fun bt137 => ((sponge_mixer_reduced.f k bt137.1 bt137.2.1 bt137.2.2 a1_0 a1_1 a2_0 a2_1).bind fun bt141 => ((sponge_mixer_perm.f k bt137.1 bt137.2.1 bt137.2.2 bt141.1 bt141.2.1 bt141.2.2.1 bt141.2.2.2).bind fun bt146 => (if bt137.1 = 0 then (none) else (some (Int.tmod (IntKind.u64.wrap (bt146.1 + bt141.1)) bt137.1, Int.tmod (IntKind.u64.wrap (bt146.2.1 + bt141.2.1)) bt137.1)))))) = some (r1, r2) := by rw [if_pos rfl] at H; exact H
  clear H
  have H := H1
  clear H1
  replace H := Option.bind_eq_some_iff.mp H
  obtain ⟨⟨t137, t138, t139⟩, A60, H⟩ := H
  replace H : ((sponge_mixer_reduced.f k t137 t138 t139 a1_0 a1_1 a2_0 a2_1).bind fun bt141 => ((sponge_mixer_perm.f k t137 t138 t139 bt141.1 bt141.2.1 bt141.2.2.1 bt141.2.2.2).bind fun bt146 => (if t137 = 0 then (none) else (some (Int.tmod (IntKind.u64.wrap (bt146.1 + bt141.1)) t137, Int.tmod (IntKind.u64.wrap (bt146.2.1 + bt141.2.1)) t137))))) = some (r1, r2) := H
  have A6 := Aside0.mk A60
  clear A60
  replace H := Option.bind_eq_some_iff.mp H
  obtain ⟨⟨t141, t142, t143, t144⟩, A70, H⟩ := H
  replace H : ((sponge_mixer_perm.f k t137 t138 t139 t141 t142 t143 t144).bind fun bt146 => (if t137 = 0 then (none) else (some (Int.tmod (IntKind.u64.wrap (bt146.1 + t141)) t137, Int.tmod (IntKind.u64.wrap (bt146.2.1 + t142)) t137)))) = some (r1, r2) := H
  have A7 := Aside0.mk A70
  clear A70
  replace H := Option.bind_eq_some_iff.mp H
  obtain ⟨⟨t146, t147, t148, t149⟩, A80, H⟩ := H
  replace H : (if t137 = 0 then (none) else (some (Int.tmod (IntKind.u64.wrap (t146 + t141)) t137, Int.tmod (IntKind.u64.wrap (t147 + t142)) t137))) = some (r1, r2) := H
  have A8 := Aside0.mk A80
  clear A80
  by_cases c9 : t137 = 0
  ·rw [if_pos c9] at H
   exact absurd H (by simp)
  ·rw [if_neg c9] at H
   have c9b0 : (t137 == 0) = false := beq_eq_false_iff_ne.mpr c9
   have c9b1 : (t137 != 0) = true := bne_iff_ne.mpr c9
   simp only [Option.some.injEq, Prod.mk.injEq] at H
   obtain ⟨rfl, rfl⟩ := H
   go_enter Tryd.func36, Tryd.ntmps36
   try go_wp2_with (first | ((with_reducible refine gate_dst (N := 4) rfl ?_); refine box_event ?hg (N := 4) ?hd (cs := #[.int .u64 a1_0, .int .u64 a1_1]) (t := 36) ?hr ?_; (case hd => rfl); (case hg => rfl); (case hr => first | (go_simp; done) | (go_simp; rfl)); intro g133 hg w10 hbox hb; have n0_ := Aside0.mk (below_step (by repeat (first | (with_reducible first | exact HB.out | apply below_alloc | apply pw_below_drewN | apply below_drew1) | exact HB.out)) hb); have n1_ := Aside0.mk (hbox); have n2_ := Aside0.mk ((by rw [hg]; exact (below_size (by repeat (first | (with_reducible first | exact HB.out | apply below_alloc | apply pw_below_drewN | apply below_drew1) | exact HB.out))) : w.heap.size ≤ g133)); have n3_ := Aside0.mk ((by rw [hg]; exact (below_size (by repeat (first | (with_reducible first | exact HB.out | apply below_alloc | apply pw_below_drewN | apply below_drew1) | exact HB.out))) : w.heap.size ≤ g133)); clear HB; have HB := n0_; have B133 := n1_; have GW133 := n2_; have GE133 := n3_; clear n0_ n1_ n2_ n3_; clear hb hbox hg) | ((with_reducible refine gate_dst (N := 5) rfl ?_); refine box_event ?hg (N := 5) ?hd (cs := #[.int .u64 a2_0, .int .u64 a2_1]) (t := 36) ?hr ?_; (case hd => rfl); (case hg => rfl); (case hr => first | (go_simp; done) | (go_simp; rfl)); intro g134 hg w11 hbox hb; have n0_ := Aside0.mk (blk_below (g := g133) (o := .cells #[.int .u64 a1_0, .int .u64 a1_1] 36 (0, 0)) (by exact B133.out) hb); have n1_ := Aside0.mk (below_step (by repeat (first | (with_reducible first | exact HB.out | apply below_alloc | apply pw_below_drewN | apply below_drew1 | refine below_set ?_ GE133.out) | exact HB.out)) hb); have n2_ := Aside0.mk (hbox); have n3_ := Aside0.mk ((by rw [hg]; exact (below_size (by repeat (first | (with_reducible first | exact HB.out | apply below_alloc | apply pw_below_drewN | apply below_drew1 | refine below_set ?_ GE133.out) | exact HB.out))) : w.heap.size ≤ g134)); have n4_ := Aside0.mk ((by rw [hg]; exact (below_size (by repeat (first | (with_reducible first | exact HB.out | apply below_alloc | apply pw_below_drewN | apply below_drew1 | refine below_set ?_ GE133.out) | exact HB.out))) : w.heap.size ≤ g134)); have n5_ := Aside0.mk ((by rw [hg]; exact Nat.ne_of_lt (blk_lt (g := g133) (o := .cells #[.int .u64 a1_0, .int .u64 a1_1] 36 (0, 0)) (by exact B133.out)) : g133 ≠ g134)); have n6_ := Aside0.mk ((by rw [hg]; exact Nat.ne_of_gt (blk_lt (g := g133) (o := .cells #[.int .u64 a1_0, .int .u64 a1_1] 36 (0, 0)) (by exact B133.out)) : g134 ≠ g133)); clear B133; clear HB; have B133 := n0_; have HB := n1_; have B134 := n2_; have GW134 := n3_; have GE134 := n4_; have NB133_134 := n5_; have NB134_133 := n6_; clear n0_ n1_ n2_ n3_ n4_ n5_ n6_; clear hb hbox hg) | ((with_reducible refine gate_dst (N := 6) rfl ?_); refine box_event ?hg (N := 6) ?hd (cs := #[.int .u64 0, .int .u64 0]) (t := 36) ?hr ?_; (case hd => rfl); (case hg => rfl); (case hr => first | (go_simp; done) | (go_simp; rfl)); intro g135 hg w12 hbox hb; have n0_ := Aside0.mk (blk_below (g := g133) (o := .cells #[.int .u64 a1_0, .int .u64 a1_1] 36 (0, 0)) (by exact B133.out) hb); have n1_ := Aside0.mk (blk_below (g := g134) (o := .cells #[.int .u64 a2_0, .int .u64 a2_1] 36 (0, 0)) (by exact B134.out) hb); have n2_ := Aside0.mk (below_step (by repeat (first | (with_reducible first | exact HB.out | apply below_alloc | apply pw_below_drewN | apply below_drew1 | refine below_set ?_ GE133.out | refine below_set ?_ GE134.out) | exact HB.out)) hb); have n3_ := Aside0.mk (hbox); have n4_ := Aside0.mk ((by rw [hg]; exact (below_size (by repeat (first | (with_reducible first | exact HB.out | apply below_alloc | apply pw_below_drewN | apply below_drew1 | refine below_set ?_ GE133.out | refine below_set ?_ GE134.out) | exact HB.out))) : w.heap.size ≤ g135)); have n5_ := Aside0.mk ((by rw [hg]; exact (below_size (by repeat (first | (with_reducible first | exact HB.out | apply below_alloc | apply pw_below_drewN | apply below_drew1 | refine below_set ?_ GE133.out | refine below_set ?_ GE134.out) | exact HB.out))) : w.heap.size ≤ g135)); have n6_ := Aside0.mk ((by rw [hg]; exact Nat.ne_of_lt (blk_lt (g := g133) (o := .cells #[.int .u64 a1_0, .int .u64 a1_1] 36 (0, 0)) (by exact B133.out)) : g133 ≠ g135)); have n7_ := Aside0.mk ((by rw [hg]; exact Nat.ne_of_gt (blk_lt (g := g133) (o := .cells #[.int .u64 a1_0, .int .u64 a1_1] 36 (0, 0)) (by exact B133.out)) : g135 ≠ g133)); have n8_ := Aside0.mk ((by rw [hg]; exact Nat.ne_of_lt (blk_lt (g := g134) (o := .cells #[.int .u64 a2_0, .int .u64 a2_1] 36 (0, 0)) (by exact B134.out)) : g134 ≠ g135)); have n9_ := Aside0.mk ((by rw [hg]; exact Nat.ne_of_gt (blk_lt (g := g134) (o := .cells #[.int .u64 a2_0, .int .u64 a2_1] 36 (0, 0)) (by exact B134.out)) : g135 ≠ g134)); clear B133; clear B134; clear HB; have B133 := n0_; have B134 := n1_; have HB := n2_; have B135 := n3_; have GW135 := n4_; have GE135 := n5_; have NB133_135 := n6_; have NB135_133 := n7_; have NB134_135 := n8_; have NB135_134 := n9_; clear n0_ n1_ n2_ n3_ n4_ n5_ n6_ n7_ n8_ n9_; clear hb hbox hg) | ((with_reducible refine gate_callee (f := 38) rfl ?_); refine goesL_ (some 11) rfl rfl Tryd.func38 (by kernel_rfl) rfl #[.int .i64 a0] rfl (by (try simp only [List.map_toArray, List.map_cons, List.map_nil]); first | done | rfl | (go_simp; done)) ?_; (with_reducible refine (field_Valid.calls a0 true _ A4.out).mono ?_); rintro e w' ⟨rfl, ⟨nd, rfl⟩⟩; refine ⟨_, rfl, ?_⟩; (try (rw [drewN_self w12]; generalize q_ : World.drewN w12 _ = w12; have n0_ : Aside0 (w12.heap[g133]? = some (.cells #[.int .u64 a1_0, .int .u64 a1_1] 36 (0, 0))) := ⟨by rw [← q_]; exact (by exact B133.out)⟩; have n1_ : Aside0 (w12.heap[g134]? = some (.cells #[.int .u64 a2_0, .int .u64 a2_1] 36 (0, 0))) := ⟨by rw [← q_]; exact (by exact B134.out)⟩; have n2_ : Aside0 (w12.heap[g135]? = some (.cells #[.int .u64 0, .int .u64 0] 36 (0, 0))) := ⟨by rw [← q_]; exact (by exact B135.out)⟩; have n3_ : Aside0 (Below w.heap.size w w12) := ⟨by rw [← q_]; exact (by repeat (first | (with_reducible first | exact HB.out | apply below_alloc | apply pw_below_drewN | apply below_drew1 | refine below_set ?_ GE133.out | refine below_set ?_ GE134.out | refine below_set ?_ GE135.out) | exact HB.out))⟩; clear B133 B134 B135 HB q_; have B133 := n0_; have B134 := n1_; have B135 := n2_; have HB := n3_; clear n0_ n1_ n2_ n3_))) | ((with_reducible refine gate_callee (f := 54) rfl ?_); refine goesL_ (some 15) rfl rfl Tryd.func54 (by kernel_rfl) rfl #[.int .i64 a0] rfl (by (try simp only [List.map_toArray, List.map_cons, List.map_nil]); first | done | rfl | (go_simp; done)) ?_; (with_reducible refine (sponge_in.calls a0 t137 t138 t139 _ ?side1 A6.out).mono ?_); (case side1 => repeat (first | exact (GL.below HRG.out HB.out) | (with_reducible refine GL.alloc ?_ _) | (with_reducible refine GL.drewN ?_ _) | (with_reducible refine GL.drew ?_))); rintro e w13 ⟨rfl, hb⟩; refine ⟨_, rfl, ?_⟩; have n0_ := Aside0.mk (blk_below (g := g133) (o := .cells #[.int .u64 a1_0, .int .u64 a1_1] 36 (0, 0)) (by exact B133.out) hb); have n1_ := Aside0.mk (blk_below (g := g134) (o := .cells #[.int .u64 a2_0, .int .u64 a2_1] 36 (0, 0)) (by exact B134.out) hb); have n2_ := Aside0.mk (blk_below (g := g135) (o := .cells #[.int .u64 0, .int .u64 0] 36 (0, 0)) (by exact B135.out) hb); have n3_ := Aside0.mk (below_step (by repeat (first | (with_reducible first | exact HB.out | apply below_alloc | apply pw_below_drewN | apply below_drew1 | refine below_set ?_ GE133.out | refine below_set ?_ GE134.out | refine below_set ?_ GE135.out) | exact HB.out)) hb); clear B133; clear B134; clear B135; clear HB; have B133 := n0_; have B134 := n1_; have B135 := n2_; have HB := n3_; clear n0_ n1_ n2_ n3_; (try clear hb); (try clear hb2); (try clear hk); (try clear hi)) | ((with_reducible refine gate_dst (N := 7) rfl ?_); refine box_event ?hg (N := 7) ?hd (cs := #[.int .u64 0, .int .u64 0, .bool false]) (t := 78) ?hr ?_; (case hd => rfl); (case hg => rfl); (case hr => first | (go_simp; done) | (go_simp; rfl)); intro g140 hg w14 hbox hb; have n0_ := Aside0.mk (blk_below (g := g133) (o := .cells #[.int .u64 a1_0, .int .u64 a1_1] 36 (0, 0)) (by exact B133.out) hb); have n1_ := Aside0.mk (blk_below (g := g134) (o := .cells #[.int .u64 a2_0, .int .u64 a2_1] 36 (0, 0)) (by exact B134.out) hb); have n2_ := Aside0.mk (blk_below (g := g135) (o := .cells #[.int .u64 0, .int .u64 0] 36 (0, 0)) (by exact B135.out) hb); have n3_ := Aside0.mk (below_step (by repeat (first | (with_reducible first | exact HB.out | apply below_alloc | apply pw_below_drewN | apply below_drew1 | refine below_set ?_ GE133.out | refine below_set ?_ GE134.out | refine below_set ?_ GE135.out) | exact HB.out)) hb); have n4_ := Aside0.mk (hbox); have n5_ := Aside0.mk ((by rw [hg]; exact (below_size (by repeat (first | (with_reducible first | exact HB.out | apply below_alloc | apply pw_below_drewN | apply below_drew1 | refine below_set ?_ GE133.out | refine below_set ?_ GE134.out | refine below_set ?_ GE135.out) | exact HB.out))) : w.heap.size ≤ g140)); have n6_ := Aside0.mk ((by rw [hg]; exact (below_size (by repeat (first | (with_reducible first | exact HB.out | apply below_alloc | apply pw_below_drewN | apply below_drew1 | refine below_set ?_ GE133.out | refine below_set ?_ GE134.out | refine below_set ?_ GE135.out) | exact HB.out))) : w.heap.size ≤ g140)); have n7_ := Aside0.mk ((by rw [hg]; exact Nat.ne_of_lt (blk_lt (g := g133) (o := .cells #[.int .u64 a1_0, .int .u64 a1_1] 36 (0, 0)) (by exact B133.out)) : g133 ≠ g140)); have n8_ := Aside0.mk ((by rw [hg]; exact Nat.ne_of_gt (blk_lt (g := g133) (o := .cells #[.int .u64 a1_0, .int .u64 a1_1] 36 (0, 0)) (by exact B133.out)) : g140 ≠ g133)); have n9_ := Aside0.mk ((by rw [hg]; exact Nat.ne_of_lt (blk_lt (g := g134) (o := .cells #[.int .u64 a2_0, .int .u64 a2_1] 36 (0, 0)) (by exact B134.out)) : g134 ≠ g140)); have n10_ := Aside0.mk ((by rw [hg]; exact Nat.ne_of_gt (blk_lt (g := g134) (o := .cells #[.int .u64 a2_0, .int .u64 a2_1] 36 (0, 0)) (by exact B134.out)) : g140 ≠ g134)); have n11_ := Aside0.mk ((by rw [hg]; exact Nat.ne_of_lt (blk_lt (g := g135) (o := .cells #[.int .u64 0, .int .u64 0] 36 (0, 0)) (by exact B135.out)) : g135 ≠ g140)); have n12_ := Aside0.mk ((by rw [hg]; exact Nat.ne_of_gt (blk_lt (g := g135) (o := .cells #[.int .u64 0, .int .u64 0] 36 (0, 0)) (by exact B135.out)) : g140 ≠ g135)); clear B133; clear B134; clear B135; clear HB; have B133 := n0_; have B134 := n1_; have B135 := n2_; have HB := n3_; have B140 := n4_; have GW140 := n5_; have GE140 := n6_; have NB133_140 := n7_; have NB140_133 := n8_; have NB134_140 := n9_; have NB140_134 := n10_; have NB135_140 := n11_; have NB140_135 := n12_; clear n0_ n1_ n2_ n3_ n4_ n5_ n6_ n7_ n8_ n9_ n10_ n11_ n12_; clear hb hbox hg; have hnb15 := NB140_133.out; have hnc15 := NB133_140.out; have hnb16 := NB140_134.out; have hnc16 := NB134_140.out; have hnb17 := NB140_135.out; have hnc17 := NB135_140.out; have hcz18_0 : w14.cell? ⟨g140, 0, none⟩ = some (.int .u64 0) := bq_ B140 0; have hcz18_1 : w14.cell? ⟨g140, 1, none⟩ = some (.int .u64 0) := bq_ B140 1; have hcz18_2 : w14.cell? ⟨g140, 2, none⟩ = some (.bool false) := bq_ B140 2; have hfz18_0 := blk_frozen B140.out 0; have hfz18_1 := blk_frozen B140.out 1; have hfz18_2 := blk_frozen B140.out 2; have hnb19 := NB133_134.out; have hnc19 := NB134_133.out; have hnb20 := NB133_135.out; have hnc20 := NB135_133.out; have hcz21_0 : w14.cell? ⟨g133, 0, none⟩ = some (.int .u64 a1_0) := bq_ B133 0; have hcz21_1 : w14.cell? ⟨g133, 1, none⟩ = some (.int .u64 a1_1) := bq_ B133 1; have hfz21_0 := blk_frozen B133.out 0; have hfz21_1 := blk_frozen B133.out 1; have hnb22 := NB134_135.out; have hnc22 := NB135_134.out; have hcz23_0 : w14.cell? ⟨g134, 0, none⟩ = some (.int .u64 a2_0) := bq_ B134 0; have hcz23_1 : w14.cell? ⟨g134, 1, none⟩ = some (.int .u64 a2_1) := bq_ B134 1; have hfz23_0 := blk_frozen B134.out 0; have hfz23_1 := blk_frozen B134.out 1) | ((with_reducible refine gate_callee (f := 55) rfl ?_); refine goesL_ (some 26) rfl rfl Tryd.func55 (by kernel_rfl) rfl #[.agg #[.int .u64 t137, .int .u64 t138, .bool t139], .agg #[.int .u64 a1_0, .int .u64 a1_1, .int .u64 a2_0, .int .u64 a2_1]] rfl (by (try simp only [List.map_toArray, List.map_cons, List.map_nil]); first | done | rfl | (go_simp; done)) ?_; (with_reducible refine (sponge_mixer_reduced.calls k t137 t138 t139 a1_0 a1_1 a2_0 a2_1 t141 t142 t143 t144 _ A7.out).mono ?_); rintro e w24 ⟨rfl, hb⟩; refine ⟨_, rfl, ?_⟩; have n0_ := Aside0.mk (blk_below (g := g133) (o := .cells #[.int .u64 a1_0, .int .u64 a1_1] 36 (0, 0)) (by refine blk_far ?_ NB133_140.out _; refine blk_far ?_ NB133_140.out _; refine blk_far ?_ NB133_140.out _; exact B133.out) hb); have n1_ := Aside0.mk (blk_below (g := g134) (o := .cells #[.int .u64 a2_0, .int .u64 a2_1] 36 (0, 0)) (by refine blk_far ?_ NB134_140.out _; refine blk_far ?_ NB134_140.out _; refine blk_far ?_ NB134_140.out _; exact B134.out) hb); have n2_ := Aside0.mk (blk_below (g := g135) (o := .cells #[.int .u64 0, .int .u64 0] 36 (0, 0)) (by refine blk_far ?_ NB135_140.out _; refine blk_far ?_ NB135_140.out _; refine blk_far ?_ NB135_140.out _; exact B135.out) hb); have n3_ := Aside0.mk (blk_below (g := g140) (o := .cells #[.int .u64 t137, .int .u64 t138, .bool t139] 78 (0, 0)) (by refine blk_put (cs := #[.int .u64 t137, .int .u64 t138, .bool false]) ?_ 2 _ rfl; refine blk_put (cs := #[.int .u64 t137, .int .u64 0, .bool false]) ?_ 1 _ rfl; refine blk_put (cs := #[.int .u64 0, .int .u64 0, .bool false]) ?_ 0 _ rfl; exact B140.out) hb); have n4_ := Aside0.mk (below_step (by repeat (first | (with_reducible first | exact HB.out | apply below_alloc | apply pw_below_drewN | apply below_drew1 | refine below_set ?_ GE133.out | refine below_set ?_ GE134.out | refine below_set ?_ GE135.out | refine below_set ?_ GE140.out) | exact HB.out)) hb); clear B133; clear B134; clear B135; clear B140; clear HB; have B133 := n0_; have B134 := n1_; have B135 := n2_; have B140 := n3_; have HB := n4_; clear n0_ n1_ n2_ n3_ n4_; (try clear hb); (try clear hb2); (try clear hk); (try clear hi)) | ((with_reducible refine gate_dst (N := 8) rfl ?_); refine box_event ?hg (N := 8) ?hd (cs := #[.int .u64 0, .int .u64 0, .int .u64 0, .int .u64 0]) (t := 80) ?hr ?_; (case hd => rfl); (case hg => rfl); (case hr => first | (go_simp; done) | (go_simp; rfl)); intro g145 hg w25 hbox hb; have n0_ := Aside0.mk (blk_below (g := g133) (o := .cells #[.int .u64 a1_0, .int .u64 a1_1] 36 (0, 0)) (by exact B133.out) hb); have n1_ := Aside0.mk (blk_below (g := g134) (o := .cells #[.int .u64 a2_0, .int .u64 a2_1] 36 (0, 0)) (by exact B134.out) hb); have n2_ := Aside0.mk (blk_below (g := g135) (o := .cells #[.int .u64 0, .int .u64 0] 36 (0, 0)) (by exact B135.out) hb); have n3_ := Aside0.mk (blk_below (g := g140) (o := .cells #[.int .u64 t137, .int .u64 t138, .bool t139] 78 (0, 0)) (by exact B140.out) hb); have n4_ := Aside0.mk (below_step (by repeat (first | (with_reducible first | exact HB.out | apply below_alloc | apply pw_below_drewN | apply below_drew1 | refine below_set ?_ GE133.out | refine below_set ?_ GE134.out | refine below_set ?_ GE135.out | refine below_set ?_ GE140.out) | exact HB.out)) hb); have n5_ := Aside0.mk (hbox); have n6_ := Aside0.mk ((by rw [hg]; exact (below_size (by repeat (first | (with_reducible first | exact HB.out | apply below_alloc | apply pw_below_drewN | apply below_drew1 | refine below_set ?_ GE133.out | refine below_set ?_ GE134.out | refine below_set ?_ GE135.out | refine below_set ?_ GE140.out) | exact HB.out))) : w.heap.size ≤ g145)); have n7_ := Aside0.mk ((by rw [hg]; exact (below_size (by repeat (first | (with_reducible first | exact HB.out | apply below_alloc | apply pw_below_drewN | apply below_drew1 | refine below_set ?_ GE133.out | refine below_set ?_ GE134.out | refine below_set ?_ GE135.out | refine below_set ?_ GE140.out) | exact HB.out))) : w.heap.size ≤ g145)); have n8_ := Aside0.mk ((by rw [hg]; exact Nat.ne_of_lt (blk_lt (g := g133) (o := .cells #[.int .u64 a1_0, .int .u64 a1_1] 36 (0, 0)) (by exact B133.out)) : g133 ≠ g145)); have n9_ := Aside0.mk ((by rw [hg]; exact Nat.ne_of_gt (blk_lt (g := g133) (o := .cells #[.int .u64 a1_0, .int .u64 a1_1] 36 (0, 0)) (by exact B133.out)) : g145 ≠ g133)); have n10_ := Aside0.mk ((by rw [hg]; exact Nat.ne_of_lt (blk_lt (g := g134) (o := .cells #[.int .u64 a2_0, .int .u64 a2_1] 36 (0, 0)) (by exact B134.out)) : g134 ≠ g145)); have n11_ := Aside0.mk ((by rw [hg]; exact Nat.ne_of_gt (blk_lt (g := g134) (o := .cells #[.int .u64 a2_0, .int .u64 a2_1] 36 (0, 0)) (by exact B134.out)) : g145 ≠ g134)); have n12_ := Aside0.mk ((by rw [hg]; exact Nat.ne_of_lt (blk_lt (g := g135) (o := .cells #[.int .u64 0, .int .u64 0] 36 (0, 0)) (by exact B135.out)) : g135 ≠ g145)); have n13_ := Aside0.mk ((by rw [hg]; exact Nat.ne_of_gt (blk_lt (g := g135) (o := .cells #[.int .u64 0, .int .u64 0] 36 (0, 0)) (by exact B135.out)) : g145 ≠ g135)); have n14_ := Aside0.mk ((by rw [hg]; exact Nat.ne_of_lt (blk_lt (g := g140) (o := .cells #[.int .u64 t137, .int .u64 t138, .bool t139] 78 (0, 0)) (by exact B140.out)) : g140 ≠ g145)); have n15_ := Aside0.mk ((by rw [hg]; exact Nat.ne_of_gt (blk_lt (g := g140) (o := .cells #[.int .u64 t137, .int .u64 t138, .bool t139] 78 (0, 0)) (by exact B140.out)) : g145 ≠ g140)); clear B133; clear B134; clear B135; clear B140; clear HB; have B133 := n0_; have B134 := n1_; have B135 := n2_; have B140 := n3_; have HB := n4_; have B145 := n5_; have GW145 := n6_; have GE145 := n7_; have NB133_145 := n8_; have NB145_133 := n9_; have NB134_145 := n10_; have NB145_134 := n11_; have NB135_145 := n12_; have NB145_135 := n13_; have NB140_145 := n14_; have NB145_140 := n15_; clear n0_ n1_ n2_ n3_ n4_ n5_ n6_ n7_ n8_ n9_ n10_ n11_ n12_ n13_ n14_ n15_; clear hb hbox hg; have hnb26 := NB145_133.out; have hnc26 := NB133_145.out; have hnb27 := NB145_134.out; have hnc27 := NB134_145.out; have hnb28 := NB145_135.out; have hnc28 := NB135_145.out; have hnb29 := NB145_140.out; have hnc29 := NB140_145.out; have hcz30_0 : w25.cell? ⟨g145, 0, none⟩ = some (.int .u64 0) := bq_ B145 0; have hcz30_1 : w25.cell? ⟨g145, 1, none⟩ = some (.int .u64 0) := bq_ B145 1; have hcz30_2 : w25.cell? ⟨g145, 2, none⟩ = some (.int .u64 0) := bq_ B145 2; have hcz30_3 : w25.cell? ⟨g145, 3, none⟩ = some (.int .u64 0) := bq_ B145 3; have hfz30_0 := blk_frozen B145.out 0; have hfz30_1 := blk_frozen B145.out 1; have hfz30_2 := blk_frozen B145.out 2; have hfz30_3 := blk_frozen B145.out 3; have hcz31_0 : w25.cell? ⟨g140, 0, none⟩ = some (.int .u64 t137) := bq_ B140 0; have hcz31_1 : w25.cell? ⟨g140, 1, none⟩ = some (.int .u64 t138) := bq_ B140 1; have hcz31_2 : w25.cell? ⟨g140, 2, none⟩ = some (.bool t139) := bq_ B140 2; have hfz31_0 := blk_frozen B140.out 0; have hfz31_1 := blk_frozen B140.out 1; have hfz31_2 := blk_frozen B140.out 2) | ((with_reducible refine gate_callee (f := 56) rfl ?_); refine goesL_ (some 29) rfl rfl Tryd.func56 (by kernel_rfl) rfl #[.agg #[.int .u64 t137, .int .u64 t138, .bool t139], .agg #[.int .u64 t141, .int .u64 t142, .int .u64 t143, .int .u64 t144]] rfl (by (try simp only [List.map_toArray, List.map_cons, List.map_nil]); first | done | rfl | (go_simp; done)) ?_; (with_reducible refine (sponge_mixer_perm.calls k t137 t138 t139 t141 t142 t143 t144 t146 t147 t148 t149 _ A8.out).mono ?_); rintro e w32 ⟨rfl, hb⟩; refine ⟨_, rfl, ?_⟩; have n0_ := Aside0.mk (blk_below (g := g133) (o := .cells #[.int .u64 a1_0, .int .u64 a1_1] 36 (0, 0)) (by refine blk_far ?_ NB133_145.out _; refine blk_far ?_ NB133_145.out _; refine blk_far ?_ NB133_145.out _; refine blk_far ?_ NB133_145.out _; exact B133.out) hb); have n1_ := Aside0.mk (blk_below (g := g134) (o := .cells #[.int .u64 a2_0, .int .u64 a2_1] 36 (0, 0)) (by refine blk_far ?_ NB134_145.out _; refine blk_far ?_ NB134_145.out _; refine blk_far ?_ NB134_145.out _; refine blk_far ?_ NB134_145.out _; exact B134.out) hb); have n2_ := Aside0.mk (blk_below (g := g135) (o := .cells #[.int .u64 0, .int .u64 0] 36 (0, 0)) (by refine blk_far ?_ NB135_145.out _; refine blk_far ?_ NB135_145.out _; refine blk_far ?_ NB135_145.out _; refine blk_far ?_ NB135_145.out _; exact B135.out) hb); have n3_ := Aside0.mk (blk_below (g := g140) (o := .cells #[.int .u64 t137, .int .u64 t138, .bool t139] 78 (0, 0)) (by refine blk_far ?_ NB140_145.out _; refine blk_far ?_ NB140_145.out _; refine blk_far ?_ NB140_145.out _; refine blk_far ?_ NB140_145.out _; exact B140.out) hb); have n4_ := Aside0.mk (blk_below (g := g145) (o := .cells #[.int .u64 t141, .int .u64 t142, .int .u64 t143, .int .u64 t144] 80 (0, 0)) (by refine blk_put (cs := #[.int .u64 t141, .int .u64 t142, .int .u64 t143, .int .u64 0]) ?_ 3 _ rfl; refine blk_put (cs := #[.int .u64 t141, .int .u64 t142, .int .u64 0, .int .u64 0]) ?_ 2 _ rfl; refine blk_put (cs := #[.int .u64 t141, .int .u64 0, .int .u64 0, .int .u64 0]) ?_ 1 _ rfl; refine blk_put (cs := #[.int .u64 0, .int .u64 0, .int .u64 0, .int .u64 0]) ?_ 0 _ rfl; exact B145.out) hb); have n5_ := Aside0.mk (below_step (by repeat (first | (with_reducible first | exact HB.out | apply below_alloc | apply pw_below_drewN | apply below_drew1 | refine below_set ?_ GE133.out | refine below_set ?_ GE134.out | refine below_set ?_ GE135.out | refine below_set ?_ GE140.out | refine below_set ?_ GE145.out) | exact HB.out)) hb); clear B133; clear B134; clear B135; clear B140; clear B145; clear HB; have B133 := n0_; have B134 := n1_; have B135 := n2_; have B140 := n3_; have B145 := n4_; have HB := n5_; clear n0_ n1_ n2_ n3_ n4_ n5_; (try clear hb); (try clear hb2); (try clear hk); (try clear hi)) | ((with_reducible refine gate_dst (N := 9) rfl ?_); refine box_event ?hg (N := 9) ?hd (cs := #[.int .u64 0, .int .u64 0, .int .u64 0, .int .u64 0]) (t := 80) ?hr ?_; (case hd => rfl); (case hg => rfl); (case hr => first | (go_simp; done) | (go_simp; rfl)); intro g150 hg w33 hbox hb; have n0_ := Aside0.mk (blk_below (g := g133) (o := .cells #[.int .u64 a1_0, .int .u64 a1_1] 36 (0, 0)) (by exact B133.out) hb); have n1_ := Aside0.mk (blk_below (g := g134) (o := .cells #[.int .u64 a2_0, .int .u64 a2_1] 36 (0, 0)) (by exact B134.out) hb); have n2_ := Aside0.mk (blk_below (g := g135) (o := .cells #[.int .u64 0, .int .u64 0] 36 (0, 0)) (by exact B135.out) hb); have n3_ := Aside0.mk (blk_below (g := g140) (o := .cells #[.int .u64 t137, .int .u64 t138, .bool t139] 78 (0, 0)) (by exact B140.out) hb); have n4_ := Aside0.mk (blk_below (g := g145) (o := .cells #[.int .u64 t141, .int .u64 t142, .int .u64 t143, .int .u64 t144] 80 (0, 0)) (by exact B145.out) hb); have n5_ := Aside0.mk (below_step (by repeat (first | (with_reducible first | exact HB.out | apply below_alloc | apply pw_below_drewN | apply below_drew1 | refine below_set ?_ GE133.out | refine below_set ?_ GE134.out | refine below_set ?_ GE135.out | refine below_set ?_ GE140.out | refine below_set ?_ GE145.out) | exact HB.out)) hb); have n6_ := Aside0.mk (hbox); have n7_ := Aside0.mk ((by rw [hg]; exact (below_size (by repeat (first | (with_reducible first | exact HB.out | apply below_alloc | apply pw_below_drewN | apply below_drew1 | refine below_set ?_ GE133.out | refine below_set ?_ GE134.out | refine below_set ?_ GE135.out | refine below_set ?_ GE140.out | refine below_set ?_ GE145.out) | exact HB.out))) : w.heap.size ≤ g150)); have n8_ := Aside0.mk ((by rw [hg]; exact (below_size (by repeat (first | (with_reducible first | exact HB.out | apply below_alloc | apply pw_below_drewN | apply below_drew1 | refine below_set ?_ GE133.out | refine below_set ?_ GE134.out | refine below_set ?_ GE135.out | refine below_set ?_ GE140.out | refine below_set ?_ GE145.out) | exact HB.out))) : w.heap.size ≤ g150)); have n9_ := Aside0.mk ((by rw [hg]; exact Nat.ne_of_lt (blk_lt (g := g133) (o := .cells #[.int .u64 a1_0, .int .u64 a1_1] 36 (0, 0)) (by exact B133.out)) : g133 ≠ g150)); have n10_ := Aside0.mk ((by rw [hg]; exact Nat.ne_of_gt (blk_lt (g := g133) (o := .cells #[.int .u64 a1_0, .int .u64 a1_1] 36 (0, 0)) (by exact B133.out)) : g150 ≠ g133)); have n11_ := Aside0.mk ((by rw [hg]; exact Nat.ne_of_lt (blk_lt (g := g134) (o := .cells #[.int .u64 a2_0, .int .u64 a2_1] 36 (0, 0)) (by exact B134.out)) : g134 ≠ g150)); have n12_ := Aside0.mk ((by rw [hg]; exact Nat.ne_of_gt (blk_lt (g := g134) (o := .cells #[.int .u64 a2_0, .int .u64 a2_1] 36 (0, 0)) (by exact B134.out)) : g150 ≠ g134)); have n13_ := Aside0.mk ((by rw [hg]; exact Nat.ne_of_lt (blk_lt (g := g135) (o := .cells #[.int .u64 0, .int .u64 0] 36 (0, 0)) (by exact B135.out)) : g135 ≠ g150)); have n14_ := Aside0.mk ((by rw [hg]; exact Nat.ne_of_gt (blk_lt (g := g135) (o := .cells #[.int .u64 0, .int .u64 0] 36 (0, 0)) (by exact B135.out)) : g150 ≠ g135)); have n15_ := Aside0.mk ((by rw [hg]; exact Nat.ne_of_lt (blk_lt (g := g140) (o := .cells #[.int .u64 t137, .int .u64 t138, .bool t139] 78 (0, 0)) (by exact B140.out)) : g140 ≠ g150)); have n16_ := Aside0.mk ((by rw [hg]; exact Nat.ne_of_gt (blk_lt (g := g140) (o := .cells #[.int .u64 t137, .int .u64 t138, .bool t139] 78 (0, 0)) (by exact B140.out)) : g150 ≠ g140)); have n17_ := Aside0.mk ((by rw [hg]; exact Nat.ne_of_lt (blk_lt (g := g145) (o := .cells #[.int .u64 t141, .int .u64 t142, .int .u64 t143, .int .u64 t144] 80 (0, 0)) (by exact B145.out)) : g145 ≠ g150)); have n18_ := Aside0.mk ((by rw [hg]; exact Nat.ne_of_gt (blk_lt (g := g145) (o := .cells #[.int .u64 t141, .int .u64 t142, .int .u64 t143, .int .u64 t144] 80 (0, 0)) (by exact B145.out)) : g150 ≠ g145)); clear B133; clear B134; clear B135; clear B140; clear B145; clear HB; have B133 := n0_; have B134 := n1_; have B135 := n2_; have B140 := n3_; have B145 := n4_; have HB := n5_; have B150 := n6_; have GW150 := n7_; have GE150 := n8_; have NB133_150 := n9_; have NB150_133 := n10_; have NB134_150 := n11_; have NB150_134 := n12_; have NB135_150 := n13_; have NB150_135 := n14_; have NB140_150 := n15_; have NB150_140 := n16_; have NB145_150 := n17_; have NB150_145 := n18_; clear n0_ n1_ n2_ n3_ n4_ n5_ n6_ n7_ n8_ n9_ n10_ n11_ n12_ n13_ n14_ n15_ n16_ n17_ n18_; clear hb hbox hg; have hnb34 := NB150_133.out; have hnc34 := NB133_150.out; have hnb35 := NB150_134.out; have hnc35 := NB134_150.out; have hnb36 := NB150_135.out; have hnc36 := NB135_150.out; have hnb37 := NB150_140.out; have hnc37 := NB140_150.out; have hnb38 := NB150_145.out; have hnc38 := NB145_150.out; have hcz39_0 : w33.cell? ⟨g150, 0, none⟩ = some (.int .u64 0) := bq_ B150 0; have hcz39_1 : w33.cell? ⟨g150, 1, none⟩ = some (.int .u64 0) := bq_ B150 1; have hcz39_2 : w33.cell? ⟨g150, 2, none⟩ = some (.int .u64 0) := bq_ B150 2; have hcz39_3 : w33.cell? ⟨g150, 3, none⟩ = some (.int .u64 0) := bq_ B150 3; have hfz39_0 := blk_frozen B150.out 0; have hfz39_1 := blk_frozen B150.out 1; have hfz39_2 := blk_frozen B150.out 2; have hfz39_3 := blk_frozen B150.out 3))
   have n0_ : Aside0 (((((w33.setCell ⟨g150, 0, none⟩ (.int .u64 t146)).setCell ⟨g150, 1, none⟩ (.int .u64 t147)).setCell ⟨g150, 2, none⟩ (.int .u64 t148)).setCell ⟨g150, 3, none⟩ (.int .u64 t149)).heap[g133]? = some (.cells #[.int .u64 a1_0, .int .u64 a1_1] 36 (0, 0))) := ⟨by refine blk_far ?_ NB133_150.out _; refine blk_far ?_ NB133_150.out _; refine blk_far ?_ NB133_150.out _; refine blk_far ?_ NB133_150.out _; exact B133.out⟩
   have n1_ : Aside0 (((((w33.setCell ⟨g150, 0, none⟩ (.int .u64 t146)).setCell ⟨g150, 1, none⟩ (.int .u64 t147)).setCell ⟨g150, 2, none⟩ (.int .u64 t148)).setCell ⟨g150, 3, none⟩ (.int .u64 t149)).heap[g134]? = some (.cells #[.int .u64 a2_0, .int .u64 a2_1] 36 (0, 0))) := ⟨by refine blk_far ?_ NB134_150.out _; refine blk_far ?_ NB134_150.out _; refine blk_far ?_ NB134_150.out _; refine blk_far ?_ NB134_150.out _; exact B134.out⟩
   have n2_ : Aside0 (((((w33.setCell ⟨g150, 0, none⟩ (.int .u64 t146)).setCell ⟨g150, 1, none⟩ (.int .u64 t147)).setCell ⟨g150, 2, none⟩ (.int .u64 t148)).setCell ⟨g150, 3, none⟩ (.int .u64 t149)).heap[g135]? = some (.cells #[.int .u64 0, .int .u64 0] 36 (0, 0))) := ⟨by refine blk_far ?_ NB135_150.out _; refine blk_far ?_ NB135_150.out _; refine blk_far ?_ NB135_150.out _; refine blk_far ?_ NB135_150.out _; exact B135.out⟩
   have n3_ : Aside0 (((((w33.setCell ⟨g150, 0, none⟩ (.int .u64 t146)).setCell ⟨g150, 1, none⟩ (.int .u64 t147)).setCell ⟨g150, 2, none⟩ (.int .u64 t148)).setCell ⟨g150, 3, none⟩ (.int .u64 t149)).heap[g140]? = some (.cells #[.int .u64 t137, .int .u64 t138, .bool t139] 78 (0, 0))) := ⟨by refine blk_far ?_ NB140_150.out _; refine blk_far ?_ NB140_150.out _; refine blk_far ?_ NB140_150.out _; refine blk_far ?_ NB140_150.out _; exact B140.out⟩
   have n4_ : Aside0 (((((w33.setCell ⟨g150, 0, none⟩ (.int .u64 t146)).setCell ⟨g150, 1, none⟩ (.int .u64 t147)).setCell ⟨g150, 2, none⟩ (.int .u64 t148)).setCell ⟨g150, 3, none⟩ (.int .u64 t149)).heap[g145]? = some (.cells #[.int .u64 t141, .int .u64 t142, .int .u64 t143, .int .u64 t144] 80 (0, 0))) := ⟨by refine blk_far ?_ NB145_150.out _; refine blk_far ?_ NB145_150.out _; refine blk_far ?_ NB145_150.out _; refine blk_far ?_ NB145_150.out _; exact B145.out⟩
   have n5_ : Aside0 (((((w33.setCell ⟨g150, 0, none⟩ (.int .u64 t146)).setCell ⟨g150, 1, none⟩ (.int .u64 t147)).setCell ⟨g150, 2, none⟩ (.int .u64 t148)).setCell ⟨g150, 3, none⟩ (.int .u64 t149)).heap[g150]? = some (.cells #[.int .u64 t146, .int .u64 t147, .int .u64 t148, .int .u64 t149] 80 (0, 0))) := ⟨by refine blk_put (cs := #[.int .u64 t146, .int .u64 t147, .int .u64 t148, .int .u64 0]) ?_ 3 _ rfl; refine blk_put (cs := #[.int .u64 t146, .int .u64 t147, .int .u64 0, .int .u64 0]) ?_ 2 _ rfl; refine blk_put (cs := #[.int .u64 t146, .int .u64 0, .int .u64 0, .int .u64 0]) ?_ 1 _ rfl; refine blk_put (cs := #[.int .u64 0, .int .u64 0, .int .u64 0, .int .u64 0]) ?_ 0 _ rfl; exact B150.out⟩
   have n6_ : Aside0 (Below w.heap.size w ((((w33.setCell ⟨g150, 0, none⟩ (.int .u64 t146)).setCell ⟨g150, 1, none⟩ (.int .u64 t147)).setCell ⟨g150, 2, none⟩ (.int .u64 t148)).setCell ⟨g150, 3, none⟩ (.int .u64 t149))) := ⟨by repeat (first | (with_reducible first | exact HB.out | apply below_alloc | apply pw_below_drewN | apply below_drew1 | refine below_set ?_ GE133.out | refine below_set ?_ GE134.out | refine below_set ?_ GE135.out | refine below_set ?_ GE140.out | refine below_set ?_ GE145.out | refine below_set ?_ GE150.out) | exact HB.out)⟩
   (try clear B133)
   (try clear B134)
   (try clear B135)
   (try clear B140)
   (try clear B145)
   (try clear B150)
   (try clear HB)
   generalize ((((w33.setCell ⟨g150, 0, none⟩ (.int .u64 t146)).setCell ⟨g150, 1, none⟩ (.int .u64 t147)).setCell ⟨g150, 2, none⟩ (.int .u64 t148)).setCell ⟨g150, 3, none⟩ (.int .u64 t149)) = w40 at n0_ n1_ n2_ n3_ n4_ n5_ n6_ ⊢
   have B133 := n0_
   have B134 := n1_
   have B135 := n2_
   have B140 := n3_
   have B145 := n4_
   have B150 := n5_
   have HB := n6_
   clear n0_ n1_ n2_ n3_ n4_ n5_ n6_
   have n0_ := Aside0.mk (blk_drew B133.out)
   have n1_ := Aside0.mk (blk_drew B134.out)
   have n2_ := Aside0.mk (blk_drew B135.out)
   have n3_ := Aside0.mk (blk_drew B140.out)
   have n4_ := Aside0.mk (blk_drew B145.out)
   have n5_ := Aside0.mk (blk_drew B150.out)
   have n6_ := Aside0.mk (below_drew1 HB.out)
   clear B133
   clear B134
   clear B135
   clear B140
   clear B145
   clear B150
   clear HB
   have B133 := n0_
   have B134 := n1_
   have B135 := n2_
   have B140 := n3_
   have B145 := n4_
   have B150 := n5_
   have HB := n6_
   clear n0_ n1_ n2_ n3_ n4_ n5_ n6_
   refine start_ (n := 18) (S := fun w' => w'.cell? ⟨g150, 0, none⟩ = some (.int .u64 t146) ∧ w'.cell? ⟨g150, 1, none⟩ = some (.int .u64 t147) ∧ w'.cell? ⟨g150, 2, none⟩ = some (.int .u64 t148) ∧ w'.cell? ⟨g150, 3, none⟩ = some (.int .u64 t149) ∧ w'.cell? ⟨g145, 0, none⟩ = some (.int .u64 t141) ∧ w'.cell? ⟨g145, 1, none⟩ = some (.int .u64 t142) ∧ w'.cell? ⟨g145, 2, none⟩ = some (.int .u64 t143) ∧ w'.cell? ⟨g145, 3, none⟩ = some (.int .u64 t144) ∧ w'.cell? ⟨g140, 0, none⟩ = some (.int .u64 t137) ∧ w'.cell? ⟨g140, 1, none⟩ = some (.int .u64 t138) ∧ w'.cell? ⟨g140, 2, none⟩ = some (.bool t139)) (ds := []) z36_0_ (by kernel_rfl) rfl rfl ⟨bq_ B150 0, bq_ B150 1, bq_ B150 2, bq_ B150 3, bq_ B145 0, bq_ B145 1, bq_ B145 2, bq_ B145 3, bq_ B140 0, bq_ B140 1, bq_ B140 2⟩ (fun hL => ?_); refine with_tabW sponge_Node.tab6 sponge_Node.bits6 (fun T_ W_ => ?_)
   generalize w40.drew = w41 at B133 B134 B135 B140 B145 B150 HB hL ⊢
   refine pure_ (i := 0) (N := some 30) (v := ?_) (a' := ?_) z36_1_ rfl rfl (an_ T_) (fun _ _ _ h => h) (Or.inl ⟨by rfl, ?_⟩) ?_ ?_
   rotate_left; · intro w'; go_simp; with_reducible rfl
   rotate_left; · simp only [Act.put, sa_, sb_, sc_, i64_w, i32_w]; rfl
   refine pure_ (i := 2) (N := some 32) (v := ?_) (a' := ?_) z36_2_ rfl rfl (an_ T_) (fun _ _ _ h => h) (Or.inl ⟨by rfl, ?_⟩) ?_ ?_
   rotate_left; · intro w'; go_simp; with_reducible rfl
   rotate_left; · simp only [Act.put, sa_, sb_, sc_, i64_w, i32_w]; rfl
   refine pure_ (i := 5) (N := some 35) (v := ?_) (a' := ?_) z36_3_ rfl rfl (an_ T_) (fun _ _ _ h => h) (Or.inl ⟨by rfl, ?_⟩) ?_ ?_
   rotate_left; · intro w'; go_simp; with_reducible rfl
   rotate_left; · simp only [Act.put, sa_, sb_, sc_, i64_w, i32_w]; rfl
   refine pure_ (i := 8) (N := some 38) (v := ?_) (a' := ?_) z36_4_ rfl rfl (an_ T_) (fun _ _ _ h => h) (Or.inl ⟨by rfl, ?_⟩) ?_ ?_
   rotate_left; · intro w'; go_simp; with_reducible rfl
   rotate_left; · simp only [Act.put, sa_, sb_, sc_, i64_w, i32_w]; rfl
   refine pure_ (i := 10) (N := some 40) (v := ?_) (a' := ?_) z36_5_ rfl rfl (an_ T_) (fun _ _ _ h => h) (Or.inl ⟨by rfl, ?_⟩) ?_ ?_
   rotate_left; · intro w'; go_simp; with_reducible rfl
   rotate_left; · simp only [Act.put, sa_, sb_, sc_, i64_w, i32_w]; rfl
   refine pure_ (i := 13) (N := some 43) (v := ?_) (a' := ?_) z36_6_ rfl rfl (an_ T_) (fun _ _ _ h => h) (Or.inl ⟨by rfl, ?_⟩) ?_ ?_
   rotate_left; · intro w'; go_simp; with_reducible rfl
   rotate_left; · simp only [Act.put, sa_, sb_, sc_, i64_w, i32_w]; rfl
   refine take_ (i := 1) (N := some 31) (v := ?_) (a' := ?_) z36_7_ rfl rfl (tk_ T_ W_) (fun _ _ _ h => h) (Or.inl ⟨by rfl, ?_⟩) hL ?_ ?_
   rotate_left
   ·rintro w' ⟨s0, s1, s2, s3, s4, s5, s6, s7, s8, s9, s10⟩
    go_simp
    with_reducible rfl
   rotate_left
   ·simp only [Act.put, sa_, sb_, sc_, i64_w, i32_w]
    rfl
   refine take_ (i := 3) (N := some 33) (v := ?_) (a' := ?_) z36_8_ rfl rfl (tk_ T_ W_) (fun _ _ _ h => h) (Or.inl ⟨by rfl, ?_⟩) hL ?_ ?_
   rotate_left
   ·rintro w' ⟨s0, s1, s2, s3, s4, s5, s6, s7, s8, s9, s10⟩
    go_simp
    with_reducible rfl
   rotate_left
   ·simp only [Act.put, sa_, sb_, sc_, i64_w, i32_w]
    rfl
   refine pure_ (i := 4) (N := some 34) (v := ?_) (a' := ?_) z36_9_ rfl rfl (an_ T_) (fun _ _ _ h => h) (Or.inl ⟨by rfl, ?_⟩) ?_ ?_
   rotate_left; · intro w'; go_simp; with_reducible rfl
   rotate_left; · simp only [Act.put, sa_, sb_, sc_, i64_w, i32_w]; rfl
   refine take_ (i := 6) (N := some 36) (v := ?_) (a' := ?_) z36_10_ rfl rfl (tk_ T_ W_) (fun _ _ _ h => h) (Or.inl ⟨by rfl, ?_⟩) hL ?_ ?_
   rotate_left
   ·rintro w' ⟨s0, s1, s2, s3, s4, s5, s6, s7, s8, s9, s10⟩
    go_simp
    with_reducible rfl
   rotate_left
   ·simp only [Act.put, sa_, sb_, sc_, i64_w, i32_w]
    rfl
   refine pure_ (i := 7) (N := some 37) (v := ?_) (a' := ?_) z36_11_ rfl rfl (an_ T_) (fun _ _ _ h => h) (Or.inl ⟨by rfl, ?_⟩) ?_ ?_
   rotate_left; · intro w'; go_simp; with_reducible rfl
   rotate_left; · simp only [Act.put, sa_, sb_, sc_, i64_w, i32_w]; rfl
   refine take_ (i := 9) (N := some 39) (v := ?_) (a' := ?_) z36_12_ rfl rfl (tk_ T_ W_) (fun _ _ _ h => h) (Or.inl ⟨by rfl, ?_⟩) hL ?_ ?_
   rotate_left
   ·rintro w' ⟨s0, s1, s2, s3, s4, s5, s6, s7, s8, s9, s10⟩
    go_simp
    with_reducible rfl
   rotate_left
   ·simp only [Act.put, sa_, sb_, sc_, i64_w, i32_w]
    rfl
   refine take_ (i := 11) (N := some 41) (v := ?_) (a' := ?_) z36_13_ rfl rfl (tk_ T_ W_) (fun _ _ _ h => h) (Or.inl ⟨by rfl, ?_⟩) hL ?_ ?_
   rotate_left
   ·rintro w' ⟨s0, s1, s2, s3, s4, s5, s6, s7, s8, s9, s10⟩
    go_simp
    with_reducible rfl
   rotate_left
   ·simp only [Act.put, sa_, sb_, sc_, i64_w, i32_w]
    rfl
   refine pure_ (i := 12) (N := some 42) (v := ?_) (a' := ?_) z36_14_ rfl rfl (an_ T_) (fun _ _ _ h => h) (Or.inl ⟨by rfl, ?_⟩) ?_ ?_
   rotate_left; · intro w'; go_simp; with_reducible rfl
   rotate_left; · simp only [Act.put, sa_, sb_, sc_, i64_w, i32_w]; rfl
   refine take_ (i := 14) (N := some 44) (v := ?_) (a' := ?_) z36_15_ rfl rfl (tk_ T_ W_) (fun _ _ _ h => h) (Or.inl ⟨by rfl, ?_⟩) hL ?_ ?_
   rotate_left
   ·rintro w' ⟨s0, s1, s2, s3, s4, s5, s6, s7, s8, s9, s10⟩
    go_simp
    with_reducible rfl
   rotate_left
   ·simp only [Act.put, sa_, sb_, sc_, i64_w, i32_w]
    rfl
   refine pure_ (i := 15) (N := some 45) (v := ?_) (a' := ?_) z36_16_ rfl rfl (an_ T_) (fun _ _ _ h => h) (Or.inl ⟨by rfl, ?_⟩) ?_ ?_
   rotate_left; · intro w'; go_simp; with_reducible rfl
   rotate_left; · simp only [Act.put, sa_, sb_, sc_, i64_w, i32_w]; rfl
   refine pure_ (i := 16) (N := some 46) (v := ?_) (a' := ?_) z36_17_ rfl rfl (an_ T_) (fun _ _ _ h => h) (Or.inl ⟨by rfl, ?_⟩) ?_ ?_
   rotate_left; · intro w'; go_simp; with_reducible rfl
   rotate_left; · simp only [Act.put, sa_, sb_, sc_, i64_w, i32_w]; rfl
   refine one_ (i := 17) (N := none) z36_18_ rfl rfl (on_ T_) (by decide) (fun K hK => ?_)
   have hs42 : w41.cell? ⟨g135, 0, none⟩ = some (.int .u64 0) := bq_ B135 0
   have hfs42 := blk_frozen B135.out 0
   have hns42_0 := NB133_135.out
   have hns42_1 := NB134_135.out
   have hns42_3 := NB140_135.out
   have hns42_4 := NB145_135.out
   have hns42_5 := NB150_135.out
   have hms42_0 := NB135_133.out
   have hms42_1 := NB135_134.out
   have hms42_3 := NB135_140.out
   have hms42_4 := NB135_145.out
   have hms42_5 := NB135_150.out
   have hs43 : w41.cell? ⟨g135, 1, none⟩ = some (.int .u64 0) := bq_ B135 1
   have hfs43 := blk_frozen B135.out 1
   have hns43_0 := NB133_135.out
   have hns43_1 := NB134_135.out
   have hns43_3 := NB140_135.out
   have hns43_4 := NB145_135.out
   have hns43_5 := NB150_135.out
   have hms43_0 := NB135_133.out
   have hms43_1 := NB135_134.out
   have hms43_3 := NB135_140.out
   have hms43_4 := NB135_145.out
   have hms43_5 := NB135_150.out
   refine skip_ (w1 := ?_) (by rfl) rfl ?_ ?_
   rotate_left
   ·go_simp
    rfl
   refine hK.out _ _ ⟨((cell_far (p := ⟨g135, _, none⟩) NB150_135.out _).trans (((cell_far (p := ⟨g135, _, none⟩) NB150_135.out _).trans (hL.1)))), ((cell_far (p := ⟨g135, _, none⟩) NB150_135.out _).trans (((cell_far (p := ⟨g135, _, none⟩) NB150_135.out _).trans (hL.2.1)))), ((cell_far (p := ⟨g135, _, none⟩) NB150_135.out _).trans (((cell_far (p := ⟨g135, _, none⟩) NB150_135.out _).trans (hL.2.2.1)))), ((cell_far (p := ⟨g135, _, none⟩) NB150_135.out _).trans (((cell_far (p := ⟨g135, _, none⟩) NB150_135.out _).trans (hL.2.2.2.1)))), ((cell_far (p := ⟨g135, _, none⟩) NB145_135.out _).trans (((cell_far (p := ⟨g135, _, none⟩) NB145_135.out _).trans (hL.2.2.2.2.1)))), ((cell_far (p := ⟨g135, _, none⟩) NB145_135.out _).trans (((cell_far (p := ⟨g135, _, none⟩) NB145_135.out _).trans (hL.2.2.2.2.2.1)))), ((cell_far (p := ⟨g135, _, none⟩) NB145_135.out _).trans (((cell_far (p := ⟨g135, _, none⟩) NB145_135.out _).trans (hL.2.2.2.2.2.2.1)))), ((cell_far (p := ⟨g135, _, none⟩) NB145_135.out _).trans (((cell_far (p := ⟨g135, _, none⟩) NB145_135.out _).trans (hL.2.2.2.2.2.2.2.1)))), ((cell_far (p := ⟨g135, _, none⟩) NB140_135.out _).trans (((cell_far (p := ⟨g135, _, none⟩) NB140_135.out _).trans (hL.2.2.2.2.2.2.2.2.1)))), ((cell_far (p := ⟨g135, _, none⟩) NB140_135.out _).trans (((cell_far (p := ⟨g135, _, none⟩) NB140_135.out _).trans (hL.2.2.2.2.2.2.2.2.2.1)))), ((cell_far (p := ⟨g135, _, none⟩) NB140_135.out _).trans (((cell_far (p := ⟨g135, _, none⟩) NB140_135.out _).trans (hL.2.2.2.2.2.2.2.2.2.2))))⟩ (fun hL => ?_)
   clear hK K
   refine done_ (done_of T_.out (by kernel_rfl)) ?_
   try go_wp2
   refine bodyPost_ret (results_cell_row rfl _ _ g135 36 #[.int .u64 (Int.tmod (IntKind.u64.wrap (t146 + t141)) t137), .int .u64 (Int.tmod (IntKind.u64.wrap (t147 + t142)) t137)] (0, 0) _ rfl (by refine blk_put (cs := #[.int .u64 (Int.tmod (IntKind.u64.wrap (t146 + t141)) t137), .int .u64 0]) ?_ 1 _ rfl; refine blk_put (cs := #[.int .u64 0, .int .u64 0]) ?_ 0 _ rfl; exact B135.out) Tryd.underlying36 rfl (by kernel_rfl)) rfl ?_
   exact ⟨by first | rfl | (simp [errW_none, errW_some] <;> rfl) | (simp [*, errW_none, errW_some] <;> rfl), by repeat (first | (with_reducible first | exact HB.out | apply below_alloc | apply pw_below_drewN | apply below_drew1 | refine below_set ?_ GE133.out | refine below_set ?_ GE134.out | refine below_set ?_ GE135.out | refine below_set ?_ GE140.out | refine below_set ?_ GE145.out | refine below_set ?_ GE150.out) | exact HB.out)⟩
 ·replace c5 := Bool.eq_false_iff.mpr c5
  subst c5
  have H1 : (some (0, 0)) = some (r1, r2) := by rw [if_neg (show ¬ (false = true) by decide)] at H; exact H
  clear H
  have H := H1
  clear H1
  simp only [Option.some.injEq, Prod.mk.injEq] at H
  obtain ⟨rfl, rfl⟩ := H
  go_enter Tryd.func36, Tryd.ntmps36
  go_wp2_with (first | ((with_reducible refine gate_dst (N := 4) rfl ?_); refine box_event ?hg (N := 4) ?hd (cs := #[.int .u64 a1_0, .int .u64 a1_1]) (t := 36) ?hr ?_; (case hd => rfl); (case hg => rfl); (case hr => first | (go_simp; done) | (go_simp; rfl)); intro g133 hg w44 hbox hb; have n0_ := Aside0.mk (below_step (by repeat (first | (with_reducible first | exact HB.out | apply below_alloc | apply pw_below_drewN | apply below_drew1) | exact HB.out)) hb); have n1_ := Aside0.mk (hbox); have n2_ := Aside0.mk ((by rw [hg]; exact (below_size (by repeat (first | (with_reducible first | exact HB.out | apply below_alloc | apply pw_below_drewN | apply below_drew1) | exact HB.out))) : w.heap.size ≤ g133)); have n3_ := Aside0.mk ((by rw [hg]; exact (below_size (by repeat (first | (with_reducible first | exact HB.out | apply below_alloc | apply pw_below_drewN | apply below_drew1) | exact HB.out))) : w.heap.size ≤ g133)); clear HB; have HB := n0_; have B133 := n1_; have GW133 := n2_; have GE133 := n3_; clear n0_ n1_ n2_ n3_; clear hb hbox hg) | ((with_reducible refine gate_dst (N := 5) rfl ?_); refine box_event ?hg (N := 5) ?hd (cs := #[.int .u64 a2_0, .int .u64 a2_1]) (t := 36) ?hr ?_; (case hd => rfl); (case hg => rfl); (case hr => first | (go_simp; done) | (go_simp; rfl)); intro g134 hg w45 hbox hb; have n0_ := Aside0.mk (blk_below (g := g133) (o := .cells #[.int .u64 a1_0, .int .u64 a1_1] 36 (0, 0)) (by exact B133.out) hb); have n1_ := Aside0.mk (below_step (by repeat (first | (with_reducible first | exact HB.out | apply below_alloc | apply pw_below_drewN | apply below_drew1 | refine below_set ?_ GE133.out) | exact HB.out)) hb); have n2_ := Aside0.mk (hbox); have n3_ := Aside0.mk ((by rw [hg]; exact (below_size (by repeat (first | (with_reducible first | exact HB.out | apply below_alloc | apply pw_below_drewN | apply below_drew1 | refine below_set ?_ GE133.out) | exact HB.out))) : w.heap.size ≤ g134)); have n4_ := Aside0.mk ((by rw [hg]; exact (below_size (by repeat (first | (with_reducible first | exact HB.out | apply below_alloc | apply pw_below_drewN | apply below_drew1 | refine below_set ?_ GE133.out) | exact HB.out))) : w.heap.size ≤ g134)); have n5_ := Aside0.mk ((by rw [hg]; exact Nat.ne_of_lt (blk_lt (g := g133) (o := .cells #[.int .u64 a1_0, .int .u64 a1_1] 36 (0, 0)) (by exact B133.out)) : g133 ≠ g134)); have n6_ := Aside0.mk ((by rw [hg]; exact Nat.ne_of_gt (blk_lt (g := g133) (o := .cells #[.int .u64 a1_0, .int .u64 a1_1] 36 (0, 0)) (by exact B133.out)) : g134 ≠ g133)); clear B133; clear HB; have B133 := n0_; have HB := n1_; have B134 := n2_; have GW134 := n3_; have GE134 := n4_; have NB133_134 := n5_; have NB134_133 := n6_; clear n0_ n1_ n2_ n3_ n4_ n5_ n6_; clear hb hbox hg) | ((with_reducible refine gate_dst (N := 6) rfl ?_); refine box_event ?hg (N := 6) ?hd (cs := #[.int .u64 0, .int .u64 0]) (t := 36) ?hr ?_; (case hd => rfl); (case hg => rfl); (case hr => first | (go_simp; done) | (go_simp; rfl)); intro g135 hg w46 hbox hb; have n0_ := Aside0.mk (blk_below (g := g133) (o := .cells #[.int .u64 a1_0, .int .u64 a1_1] 36 (0, 0)) (by exact B133.out) hb); have n1_ := Aside0.mk (blk_below (g := g134) (o := .cells #[.int .u64 a2_0, .int .u64 a2_1] 36 (0, 0)) (by exact B134.out) hb); have n2_ := Aside0.mk (below_step (by repeat (first | (with_reducible first | exact HB.out | apply below_alloc | apply pw_below_drewN | apply below_drew1 | refine below_set ?_ GE133.out | refine below_set ?_ GE134.out) | exact HB.out)) hb); have n3_ := Aside0.mk (hbox); have n4_ := Aside0.mk ((by rw [hg]; exact (below_size (by repeat (first | (with_reducible first | exact HB.out | apply below_alloc | apply pw_below_drewN | apply below_drew1 | refine below_set ?_ GE133.out | refine below_set ?_ GE134.out) | exact HB.out))) : w.heap.size ≤ g135)); have n5_ := Aside0.mk ((by rw [hg]; exact (below_size (by repeat (first | (with_reducible first | exact HB.out | apply below_alloc | apply pw_below_drewN | apply below_drew1 | refine below_set ?_ GE133.out | refine below_set ?_ GE134.out) | exact HB.out))) : w.heap.size ≤ g135)); have n6_ := Aside0.mk ((by rw [hg]; exact Nat.ne_of_lt (blk_lt (g := g133) (o := .cells #[.int .u64 a1_0, .int .u64 a1_1] 36 (0, 0)) (by exact B133.out)) : g133 ≠ g135)); have n7_ := Aside0.mk ((by rw [hg]; exact Nat.ne_of_gt (blk_lt (g := g133) (o := .cells #[.int .u64 a1_0, .int .u64 a1_1] 36 (0, 0)) (by exact B133.out)) : g135 ≠ g133)); have n8_ := Aside0.mk ((by rw [hg]; exact Nat.ne_of_lt (blk_lt (g := g134) (o := .cells #[.int .u64 a2_0, .int .u64 a2_1] 36 (0, 0)) (by exact B134.out)) : g134 ≠ g135)); have n9_ := Aside0.mk ((by rw [hg]; exact Nat.ne_of_gt (blk_lt (g := g134) (o := .cells #[.int .u64 a2_0, .int .u64 a2_1] 36 (0, 0)) (by exact B134.out)) : g135 ≠ g134)); clear B133; clear B134; clear HB; have B133 := n0_; have B134 := n1_; have HB := n2_; have B135 := n3_; have GW135 := n4_; have GE135 := n5_; have NB133_135 := n6_; have NB135_133 := n7_; have NB134_135 := n8_; have NB135_134 := n9_; clear n0_ n1_ n2_ n3_ n4_ n5_ n6_ n7_ n8_ n9_; clear hb hbox hg) | ((with_reducible refine gate_callee (f := 38) rfl ?_); refine goesL_ (some 11) rfl rfl Tryd.func38 (by kernel_rfl) rfl #[.int .i64 a0] rfl (by (try simp only [List.map_toArray, List.map_cons, List.map_nil]); first | done | rfl | (go_simp; done)) ?_; (with_reducible refine (field_Valid.calls a0 false _ A4.out).mono ?_); rintro e w' ⟨rfl, ⟨nd, rfl⟩⟩; refine ⟨_, rfl, ?_⟩; (try (rw [drewN_self w46]; generalize q_ : World.drewN w46 _ = w46; have n0_ : Aside0 (w46.heap[g133]? = some (.cells #[.int .u64 a1_0, .int .u64 a1_1] 36 (0, 0))) := ⟨by rw [← q_]; exact (by exact B133.out)⟩; have n1_ : Aside0 (w46.heap[g134]? = some (.cells #[.int .u64 a2_0, .int .u64 a2_1] 36 (0, 0))) := ⟨by rw [← q_]; exact (by exact B134.out)⟩; have n2_ : Aside0 (w46.heap[g135]? = some (.cells #[.int .u64 0, .int .u64 0] 36 (0, 0))) := ⟨by rw [← q_]; exact (by exact B135.out)⟩; have n3_ : Aside0 (Below w.heap.size w w46) := ⟨by rw [← q_]; exact (by repeat (first | (with_reducible first | exact HB.out | apply below_alloc | apply pw_below_drewN | apply below_drew1 | refine below_set ?_ GE133.out | refine below_set ?_ GE134.out | refine below_set ?_ GE135.out) | exact HB.out))⟩; clear B133 B134 B135 HB q_; have B133 := n0_; have B134 := n1_; have B135 := n2_; have HB := n3_; clear n0_ n1_ n2_ n3_)); have hnb47 := NB135_133.out; have hnc47 := NB133_135.out; have hnb48 := NB135_134.out; have hnc48 := NB134_135.out; have hcz49_0 : w46.cell? ⟨g135, 0, none⟩ = some (.int .u64 0) := bq_ B135 0; have hcz49_1 : w46.cell? ⟨g135, 1, none⟩ = some (.int .u64 0) := bq_ B135 1; have hfz49_0 := blk_frozen B135.out 0; have hfz49_1 := blk_frozen B135.out 1))
  refine bodyPost_ret (results_cell_row rfl _ _ g135 36 #[.int .u64 0, .int .u64 0] (0, 0) _ rfl (by refine blk_put (cs := #[.int .u64 0, .int .u64 0]) ?_ 1 _ rfl; refine blk_put (cs := #[.int .u64 0, .int .u64 0]) ?_ 0 _ rfl; exact B135.out) Tryd.underlying36 rfl (by kernel_rfl)) rfl ?_
  exact ⟨by first | rfl | (simp [errW_none, errW_some] <;> rfl) | (simp [*, errW_none, errW_some] <;> rfl), by repeat (first | (with_reducible first | exact HB.out | apply below_alloc | apply pw_below_drewN | apply below_drew1 | refine below_set ?_ GE133.out | refine below_set ?_ GE134.out | refine below_set ?_ GE135.out) | exact HB.out)⟩

end Go.Proofs.YtpnpmeogffodgaaDoor.Q
end
section
namespace Go.Proofs.YtpnpmeogffodgaaDoor.Q
open Go.RowKit Go.Proofs.YtpnpmeogffodgaaDoorW.PrintWords Go.Proofs.YtpnpmeogffodgaaDoorW.PrintLast Go.Proofs.YtpnpmeogffodgaaDoorW.PrintMore
open Go.Proofs.YtpnpmeogffodgaaDoor.Num
set_option linter.unusedVariables false
set_option linter.unusedSimpArgs false
theorem addp {f : Int} {p g e : Nat} (D : Fd f p g e) (t a : Nat) (ht : t < p) : Int.tmod (IntKind.u64.wrap ((t : Int) + ((a % p : Nat) : Int))) (p : Int) = (((t + a) % p : Nat) : Int) := by
  have h1 := D.F.md a
  have hb := D.F.big
  rw [castA, wrapU (by omega), tmodN, Nat.add_mod_mod]
theorem Node_f {f : Int} {p g e : Nat} (D : Fd f p g e) (k : Nat) (hk : 12 < k) (s : S4) : sponge_Node.f k f s.a s.b s.c s.d = some (((((prm p g e 8 (red p s)).a + s.a) % p : Nat) : Int), ((((prm p g e 8 (red p s)).b + s.b) % p : Nat) : Int)) := by
  have hl := prm_lt D.pos g e _ (red_lt D.pos s) 8
  unfold sponge_Node.f
  refine bnd (valid_yes D.F) ?_
  rw [if_pos rfl]
  refine bnd (in_f D) (bnd (red_f D k (by omega) _ _ s) (bnd (perm_f D k hk _ (red_lt D.pos s)) ?_))
  rw [if_neg D.F.ne]
  simp only [S4.o]
  rw [show (red p s).a = s.a % p from rfl, show (red p s).b = s.b % p from rfl, addp D _ _ hl.1, addp D _ _ hl.2.1]
end Go.Proofs.YtpnpmeogffodgaaDoor.Q
end
section
namespace Go.Proofs.YtpnpmeogffodgaaDoor.Q
open Go.RowKit Go.Proofs.YtpnpmeogffodgaaDoorW.PrintWords Go.Proofs.YtpnpmeogffodgaaDoorW.PrintLast Go.Proofs.YtpnpmeogffodgaaDoorW.PrintMore
open Go.Proofs.YtpnpmeogffodgaaDoor.Num
set_option linter.unusedVariables false
set_option linter.unusedSimpArgs false
end Go.Proofs.YtpnpmeogffodgaaDoor.Q
end
