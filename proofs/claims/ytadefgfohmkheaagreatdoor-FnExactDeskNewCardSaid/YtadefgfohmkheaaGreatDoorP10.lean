/- Part of the proof: functions that the law reaches, each with the typed function that it computes. -/
import Derived.Test.YtadefgfohmkheaaGreatDoorP1
import Derived.Test.YtadefgfohmkheaaGreatDoorP7
import Derived.Test.YtadefgfohmkheaaGreatDoorP9
import Derived.Test.YtadefgfohmkheaaGreatDoorP8
noncomputable section
namespace Go.Eng.T
open Go.RowKit
open Go.Proofs
set_option linter.unusedVariables false
/- laws.markRecFixS -/
abbrev as99 : List Sh := [.one (.sl true T218), .one (.int .i64)]
abbrev rs99 : Rs := .one (.one (.int .i64))
def h99 : Hint := { keep := fun | 2 => [0, 1, 5] | _ => [] }
def c99 (N : Nat) : Cfg := { ti := ti, gl := gl, eqt := eqt, meth := fun _ _ => none, con := fun | 35 => some ⟨as35, rs35, fun x => X35 N x.1⟩ | _ => none, nfix := 1 }
def ds99 (a1 : List T218.den) (a2 : Int) : List D := [.ow 0, .val (.int .i64) a2]
def b99 : Code := match Tryz.f99.body with | some b => b | none => .skip
def X99.l2.t (p3 : Int) (p4 : Int) (p5 : List T218.den) : List (Nat × D) := [(0, .ow 0), (1, .val (.int .i64) p3), (5, .val (.int .i64) p4)]
def X99.l2.h (p3 : Int) (p4 : Int) (p5 : List T218.den) : List E := [.arr T218 p5]
def X99.l2 (N : Nat) (a1 : List T218.den) (a2 : Int)  : Nat → Int → Int → (List T218.den) → Option (Int × (List T218.den) × Int × Unit)
  | 0, _, _, _ => none
  | n + 1, p3, p4, p5 =>
    bif decide (p4 < (p5.length : Int)) then
      (if (0 : Int) ≤ p4 then (if p4 < (p5.length : Int) then Option.bind (p5[p4.toNat]?) fun v6 =>
      Option.bind (X35 N (IntKind.i64.wrap (p3 + 1))) fun v7 =>
      (if (0 : Int) ≤ p4 then (if p4 < ((p5.set p4.toNat (p3, v6.2)).length : Int) then Option.bind ((p5.set p4.toNat (p3, v6.2))[p4.toNat]?) fun v8 =>
      X99.l2 N a1 a2 n (IntKind.i64.wrap ((IntKind.i64.wrap (p3 + 1)) + 1)) (IntKind.i64.wrap (p4 + 1)) ((p5.set p4.toNat (p3, v6.2)).set p4.toNat (v8.1, v7, v8.2.2)) else none) else none) else none) else none)
    else some (p3, p5, a2, ())
def X99.l2.ce (N : Nat) (a1 : List T218.den) (a2 : Int) (oc : List (Nat × (List (Nat × D) → List E → Option (Int × (List T218.den) × Int × Unit)))) : Nat → List (Nat × D) → List E → Option (Int × (List T218.den) × Int × Unit) := loopAt (c99 N) h99 N (endK (c99 N) Tryz.f99 (mvRsM rs99 as99 (ds99 a1 a2))) [.b, .a, .b, .a] b99 oc 1
theorem X99.l2.s (N n : Nat)  (a1 : List T218.den) (a2 : Int) (p3 : Int) (p4 : Int) (p5 : List T218.den) : X99.l2.ce N a1 a2 [] (n + 1) (X99.l2.t p3 p4 p5) (X99.l2.h p3 p4 p5) =
    bif decide (p4 < (p5.length : Int)) then
      (if (0 : Int) ≤ p4 then (if p4 < (p5.length : Int) then Option.bind (p5[p4.toNat]?) fun v6 =>
      Option.bind (X35 N (IntKind.i64.wrap (p3 + 1))) fun v7 =>
      (if (0 : Int) ≤ p4 then (if p4 < ((p5.set p4.toNat (p3, v6.2)).length : Int) then Option.bind ((p5.set p4.toNat (p3, v6.2))[p4.toNat]?) fun v8 =>
      X99.l2.ce N a1 a2 [] n (X99.l2.t (IntKind.i64.wrap ((IntKind.i64.wrap (p3 + 1)) + 1)) (IntKind.i64.wrap (p4 + 1)) ((p5.set p4.toNat (p3, v6.2)).set p4.toNat (v8.1, v7, v8.2.2))) (X99.l2.h (IntKind.i64.wrap ((IntKind.i64.wrap (p3 + 1)) + 1)) (IntKind.i64.wrap (p4 + 1)) ((p5.set p4.toNat (p3, v6.2)).set p4.toNat (v8.1, v7, v8.2.2))) else none) else none) else none) else none)
    else some (p3, p5, a2, ()) := by kernel_rfl
theorem X99.l2.e (N : Nat)  (a1 : List T218.den) (a2 : Int) : ∀ (n : Nat) (p3 : Int) (p4 : Int) (p5 : List T218.den), X99.l2.ce N a1 a2 [] n (X99.l2.t p3 p4 p5) (X99.l2.h p3 p4 p5) = X99.l2 N a1 a2 n p3 p4 p5
  | 0, _, _, _ => rfl
  | n + 1, p3, p4, p5 => by rw [X99.l2.s, X99.l2]; (try simp only [X99.l2.e N a1 a2 n])
def X99 (N : Nat) (a1 : List T218.den) (a2 : Int) : Option (Int × (List T218.den) × Int × Unit) :=
  X99.l2 N a1 a2 N a2 0 a1
theorem X99.ev (N : Nat) (a1 : List T218.den) (a2 : Int) : evM (c99 N) h99 Tryz.f99 as99 rs99 N (a1, a2, ()) = X99 N a1 a2 :=
  (show evM (c99 N) h99 Tryz.f99 as99 rs99 N (a1, a2, ()) =
    X99.l2.ce N a1 a2 [] N (X99.l2.t a2 0 a1) (X99.l2.h a2 0 a1) by kernel_rfl).trans (by simp only [X99.l2.e]; try rfl)
theorem X99.p (N : Nat) : PMut Tryz.prog gl 99 as99 rs99 (fun x => X99 N x.1 x.2.1) :=
  PMut.ev (c := c99 N) ⟨mixed, tiok, fun f k h => (by simp only [c99] at h; split at h <;> first | (cases h; done) | (cases h; first | exact X35.p N)), fun f k h => (by cases h), eqtok, fun t n f h => (by cases h)⟩ h99 (f := 99) (fn := Tryz.f99) (b := b99) (by kernel_rfl) (by kernel_rfl) (by kernel_rfl) (by kernel_rfl) (by decide) (fun x y h => ⟨N, (X99.ev N x.1 x.2.1).trans h⟩) (by intro x ds0 H0 h; cases h; rfl)
end Go.Eng.T
end
noncomputable section
namespace Go.Eng.T
open Go.RowKit
open Go.Proofs
set_option linter.unusedVariables false
/- laws.markRecWorld -/
abbrev as61 : List Sh := [.agg T37, .one (.int .i64)]
abbrev rs61 : Rs := .one (.one (.int .i64))
def h61 : Hint := {  }
def c61 (N : Nat) : Cfg := { ti := ti, gl := gl, eqt := eqt, meth := fun _ _ => none, con := fun _ => none, mu := fun | 97 => some ⟨as97, rs97, fun x => X97 N x.1 x.2.1⟩ | 98 => some ⟨as98, rs98, fun x => X98 N x.1 x.2.1⟩ | 99 => some ⟨as99, rs99, fun x => X99 N x.1 x.2.1⟩ | _ => none, nfix := 3 }
def ds61 (a1 : T37.den) (a2 : Int) : List D := [.agg [.ow 0, .ow 1, .ow 2], .val (.int .i64) a2]
def b61 : Code := match Tryz.f61.body with | some b => b | none => .skip
def X61 (N : Nat) (a1 : T37.den) (a2 : Int) : Option (Int × T37.den × Int × Unit) :=
  Option.bind (X97 N a1.1 a2) fun v3 =>
  Option.bind (X98 N a1.2.1 v3.1) fun v4 =>
  Option.bind (X99 N a1.2.2.1 v4.1) fun v5 =>
  some (v5.1, (v3.2.1, v4.2.1, v5.2.1, ()), a2, ())
theorem X61.ev (N : Nat) (a1 : T37.den) (a2 : Int) : evM (c61 N) h61 Tryz.f61 as61 rs61 N (a1, a2, ()) = X61 N a1 a2 := by kernel_rfl
theorem X61.p (N : Nat) : PMut Tryz.prog gl 61 as61 rs61 (fun x => X61 N x.1 x.2.1) :=
  PMut.ev (c := c61 N) ⟨mixed, tiok, fun f k h => (by cases h), fun f k h => (by simp only [c61] at h; split at h <;> first | (cases h; done) | (cases h; first | exact X97.p N | exact X98.p N | exact X99.p N)), eqtok, fun t n f h => (by cases h)⟩ h61 (f := 61) (fn := Tryz.f61) (b := b61) (by kernel_rfl) (by kernel_rfl) (by kernel_rfl) (by kernel_rfl) (by decide) (fun x y h => ⟨N, (X61.ev N x.1 x.2.1).trans h⟩) (by intro x ds0 H0 h; cases h; rfl)
end Go.Eng.T
end
noncomputable section
namespace Go.Eng.T
open Go.RowKit
open Go.Proofs
set_option linter.unusedVariables false
/- laws.markHallAskedS -/
abbrev as62 : List Sh := [.one (.sl true T120), .one (.int .i64)]
abbrev rs62 : Rs := .one (.one (.int .i64))
def h62 : Hint := { keep := fun | 2 => [0, 1, 5] | _ => [] }
def c62 (N : Nat) : Cfg := { ti := ti, gl := gl, eqt := eqt, meth := fun _ _ => none, con := fun | 35 => some ⟨as35, rs35, fun x => X35 N x.1⟩ | _ => none, nfix := 1 }
def ds62 (a1 : List T120.den) (a2 : Int) : List D := [.ow 0, .val (.int .i64) a2]
def b62 : Code := match Tryz.f62.body with | some b => b | none => .skip
def X62.l2.t (p3 : Int) (p4 : Int) (p5 : List T120.den) : List (Nat × D) := [(0, .ow 0), (1, .val (.int .i64) p3), (5, .val (.int .i64) p4)]
def X62.l2.h (p3 : Int) (p4 : Int) (p5 : List T120.den) : List E := [.arr T120 p5]
def X62.l2 (N : Nat) (a1 : List T120.den) (a2 : Int)  : Nat → Int → Int → (List T120.den) → Option (Int × (List T120.den) × Int × Unit)
  | 0, _, _, _ => none
  | n + 1, p3, p4, p5 =>
    bif decide (p4 < (p5.length : Int)) then
      Option.bind (X35 N p3) fun v6 =>
      (if (0 : Int) ≤ p4 then (if p4 < (p5.length : Int) then Option.bind (p5[p4.toNat]?) fun v7 =>
      (if (0 : Int) ≤ p4 then (if p4 < ((p5.set p4.toNat (v6, v7.2)).length : Int) then Option.bind ((p5.set p4.toNat (v6, v7.2))[p4.toNat]?) fun v8 =>
      (if (0 : Int) ≤ p4 then (if p4 < (((p5.set p4.toNat (v6, v7.2)).set p4.toNat (v8.1, IntKind.i64.wrap (p3 + 1), v8.2.2)).length : Int) then Option.bind (((p5.set p4.toNat (v6, v7.2)).set p4.toNat (v8.1, IntKind.i64.wrap (p3 + 1), v8.2.2))[p4.toNat]?) fun v9 =>
      (if (0 : Int) ≤ p4 then (if p4 < ((((p5.set p4.toNat (v6, v7.2)).set p4.toNat (v8.1, IntKind.i64.wrap (p3 + 1), v8.2.2)).set p4.toNat (v9.1, v9.2.1, IntKind.i64.wrap ((IntKind.i64.wrap (p3 + 1)) + 1), v9.2.2.2)).length : Int) then Option.bind ((((p5.set p4.toNat (v6, v7.2)).set p4.toNat (v8.1, IntKind.i64.wrap (p3 + 1), v8.2.2)).set p4.toNat (v9.1, v9.2.1, IntKind.i64.wrap ((IntKind.i64.wrap (p3 + 1)) + 1), v9.2.2.2))[p4.toNat]?) fun v10 =>
      (if (0 : Int) ≤ p4 then (if p4 < (((((p5.set p4.toNat (v6, v7.2)).set p4.toNat (v8.1, IntKind.i64.wrap (p3 + 1), v8.2.2)).set p4.toNat (v9.1, v9.2.1, IntKind.i64.wrap ((IntKind.i64.wrap (p3 + 1)) + 1), v9.2.2.2)).set p4.toNat (v10.1, v10.2.1, v10.2.2.1, (IntKind.i64.wrap ((IntKind.i64.wrap ((IntKind.i64.wrap (p3 + 1)) + 1)) + 1), v10.2.2.2.1.2), v10.2.2.2.2)).length : Int) then Option.bind (((((p5.set p4.toNat (v6, v7.2)).set p4.toNat (v8.1, IntKind.i64.wrap (p3 + 1), v8.2.2)).set p4.toNat (v9.1, v9.2.1, IntKind.i64.wrap ((IntKind.i64.wrap (p3 + 1)) + 1), v9.2.2.2)).set p4.toNat (v10.1, v10.2.1, v10.2.2.1, (IntKind.i64.wrap ((IntKind.i64.wrap ((IntKind.i64.wrap (p3 + 1)) + 1)) + 1), v10.2.2.2.1.2), v10.2.2.2.2))[p4.toNat]?) fun v11 =>
      (if (0 : Int) ≤ p4 then (if p4 < ((((((p5.set p4.toNat (v6, v7.2)).set p4.toNat (v8.1, IntKind.i64.wrap (p3 + 1), v8.2.2)).set p4.toNat (v9.1, v9.2.1, IntKind.i64.wrap ((IntKind.i64.wrap (p3 + 1)) + 1), v9.2.2.2)).set p4.toNat (v10.1, v10.2.1, v10.2.2.1, (IntKind.i64.wrap ((IntKind.i64.wrap ((IntKind.i64.wrap (p3 + 1)) + 1)) + 1), v10.2.2.2.1.2), v10.2.2.2.2)).set p4.toNat (v11.1, v11.2.1, v11.2.2.1, (v11.2.2.2.1.1, IntKind.i64.wrap ((IntKind.i64.wrap ((IntKind.i64.wrap ((IntKind.i64.wrap (p3 + 1)) + 1)) + 1)) + 1), v11.2.2.2.1.2.2), v11.2.2.2.2)).length : Int) then Option.bind ((((((p5.set p4.toNat (v6, v7.2)).set p4.toNat (v8.1, IntKind.i64.wrap (p3 + 1), v8.2.2)).set p4.toNat (v9.1, v9.2.1, IntKind.i64.wrap ((IntKind.i64.wrap (p3 + 1)) + 1), v9.2.2.2)).set p4.toNat (v10.1, v10.2.1, v10.2.2.1, (IntKind.i64.wrap ((IntKind.i64.wrap ((IntKind.i64.wrap (p3 + 1)) + 1)) + 1), v10.2.2.2.1.2), v10.2.2.2.2)).set p4.toNat (v11.1, v11.2.1, v11.2.2.1, (v11.2.2.2.1.1, IntKind.i64.wrap ((IntKind.i64.wrap ((IntKind.i64.wrap ((IntKind.i64.wrap (p3 + 1)) + 1)) + 1)) + 1), v11.2.2.2.1.2.2), v11.2.2.2.2))[p4.toNat]?) fun v12 =>
      X62.l2 N a1 a2 n (IntKind.i64.wrap ((IntKind.i64.wrap ((IntKind.i64.wrap ((IntKind.i64.wrap ((IntKind.i64.wrap ((IntKind.i64.wrap (p3 + 1)) + 1)) + 1)) + 1)) + 1)) + 1)) (IntKind.i64.wrap (p4 + 1)) ((((((p5.set p4.toNat (v6, v7.2)).set p4.toNat (v8.1, IntKind.i64.wrap (p3 + 1), v8.2.2)).set p4.toNat (v9.1, v9.2.1, IntKind.i64.wrap ((IntKind.i64.wrap (p3 + 1)) + 1), v9.2.2.2)).set p4.toNat (v10.1, v10.2.1, v10.2.2.1, (IntKind.i64.wrap ((IntKind.i64.wrap ((IntKind.i64.wrap (p3 + 1)) + 1)) + 1), v10.2.2.2.1.2), v10.2.2.2.2)).set p4.toNat (v11.1, v11.2.1, v11.2.2.1, (v11.2.2.2.1.1, IntKind.i64.wrap ((IntKind.i64.wrap ((IntKind.i64.wrap ((IntKind.i64.wrap (p3 + 1)) + 1)) + 1)) + 1), v11.2.2.2.1.2.2), v11.2.2.2.2)).set p4.toNat (v12.1, v12.2.1, v12.2.2.1, (v12.2.2.2.1.1, v12.2.2.2.1.2.1, IntKind.i64.wrap ((IntKind.i64.wrap ((IntKind.i64.wrap ((IntKind.i64.wrap ((IntKind.i64.wrap (p3 + 1)) + 1)) + 1)) + 1)) + 1), v12.2.2.2.1.2.2.2), v12.2.2.2.2)) else none) else none) else none) else none) else none) else none) else none) else none) else none) else none) else none) else none)
    else some (p3, p5, a2, ())
def X62.l2.ce (N : Nat) (a1 : List T120.den) (a2 : Int) (oc : List (Nat × (List (Nat × D) → List E → Option (Int × (List T120.den) × Int × Unit)))) : Nat → List (Nat × D) → List E → Option (Int × (List T120.den) × Int × Unit) := loopAt (c62 N) h62 N (endK (c62 N) Tryz.f62 (mvRsM rs62 as62 (ds62 a1 a2))) [.b, .a, .b, .a] b62 oc 1
theorem X62.l2.s (N n : Nat)  (a1 : List T120.den) (a2 : Int) (p3 : Int) (p4 : Int) (p5 : List T120.den) : X62.l2.ce N a1 a2 [] (n + 1) (X62.l2.t p3 p4 p5) (X62.l2.h p3 p4 p5) =
    bif decide (p4 < (p5.length : Int)) then
      Option.bind (X35 N p3) fun v6 =>
      (if (0 : Int) ≤ p4 then (if p4 < (p5.length : Int) then Option.bind (p5[p4.toNat]?) fun v7 =>
      (if (0 : Int) ≤ p4 then (if p4 < ((p5.set p4.toNat (v6, v7.2)).length : Int) then Option.bind ((p5.set p4.toNat (v6, v7.2))[p4.toNat]?) fun v8 =>
      (if (0 : Int) ≤ p4 then (if p4 < (((p5.set p4.toNat (v6, v7.2)).set p4.toNat (v8.1, IntKind.i64.wrap (p3 + 1), v8.2.2)).length : Int) then Option.bind (((p5.set p4.toNat (v6, v7.2)).set p4.toNat (v8.1, IntKind.i64.wrap (p3 + 1), v8.2.2))[p4.toNat]?) fun v9 =>
      (if (0 : Int) ≤ p4 then (if p4 < ((((p5.set p4.toNat (v6, v7.2)).set p4.toNat (v8.1, IntKind.i64.wrap (p3 + 1), v8.2.2)).set p4.toNat (v9.1, v9.2.1, IntKind.i64.wrap ((IntKind.i64.wrap (p3 + 1)) + 1), v9.2.2.2)).length : Int) then Option.bind ((((p5.set p4.toNat (v6, v7.2)).set p4.toNat (v8.1, IntKind.i64.wrap (p3 + 1), v8.2.2)).set p4.toNat (v9.1, v9.2.1, IntKind.i64.wrap ((IntKind.i64.wrap (p3 + 1)) + 1), v9.2.2.2))[p4.toNat]?) fun v10 =>
      (if (0 : Int) ≤ p4 then (if p4 < (((((p5.set p4.toNat (v6, v7.2)).set p4.toNat (v8.1, IntKind.i64.wrap (p3 + 1), v8.2.2)).set p4.toNat (v9.1, v9.2.1, IntKind.i64.wrap ((IntKind.i64.wrap (p3 + 1)) + 1), v9.2.2.2)).set p4.toNat (v10.1, v10.2.1, v10.2.2.1, (IntKind.i64.wrap ((IntKind.i64.wrap ((IntKind.i64.wrap (p3 + 1)) + 1)) + 1), v10.2.2.2.1.2), v10.2.2.2.2)).length : Int) then Option.bind (((((p5.set p4.toNat (v6, v7.2)).set p4.toNat (v8.1, IntKind.i64.wrap (p3 + 1), v8.2.2)).set p4.toNat (v9.1, v9.2.1, IntKind.i64.wrap ((IntKind.i64.wrap (p3 + 1)) + 1), v9.2.2.2)).set p4.toNat (v10.1, v10.2.1, v10.2.2.1, (IntKind.i64.wrap ((IntKind.i64.wrap ((IntKind.i64.wrap (p3 + 1)) + 1)) + 1), v10.2.2.2.1.2), v10.2.2.2.2))[p4.toNat]?) fun v11 =>
      (if (0 : Int) ≤ p4 then (if p4 < ((((((p5.set p4.toNat (v6, v7.2)).set p4.toNat (v8.1, IntKind.i64.wrap (p3 + 1), v8.2.2)).set p4.toNat (v9.1, v9.2.1, IntKind.i64.wrap ((IntKind.i64.wrap (p3 + 1)) + 1), v9.2.2.2)).set p4.toNat (v10.1, v10.2.1, v10.2.2.1, (IntKind.i64.wrap ((IntKind.i64.wrap ((IntKind.i64.wrap (p3 + 1)) + 1)) + 1), v10.2.2.2.1.2), v10.2.2.2.2)).set p4.toNat (v11.1, v11.2.1, v11.2.2.1, (v11.2.2.2.1.1, IntKind.i64.wrap ((IntKind.i64.wrap ((IntKind.i64.wrap ((IntKind.i64.wrap (p3 + 1)) + 1)) + 1)) + 1), v11.2.2.2.1.2.2), v11.2.2.2.2)).length : Int) then Option.bind ((((((p5.set p4.toNat (v6, v7.2)).set p4.toNat (v8.1, IntKind.i64.wrap (p3 + 1), v8.2.2)).set p4.toNat (v9.1, v9.2.1, IntKind.i64.wrap ((IntKind.i64.wrap (p3 + 1)) + 1), v9.2.2.2)).set p4.toNat (v10.1, v10.2.1, v10.2.2.1, (IntKind.i64.wrap ((IntKind.i64.wrap ((IntKind.i64.wrap (p3 + 1)) + 1)) + 1), v10.2.2.2.1.2), v10.2.2.2.2)).set p4.toNat (v11.1, v11.2.1, v11.2.2.1, (v11.2.2.2.1.1, IntKind.i64.wrap ((IntKind.i64.wrap ((IntKind.i64.wrap ((IntKind.i64.wrap (p3 + 1)) + 1)) + 1)) + 1), v11.2.2.2.1.2.2), v11.2.2.2.2))[p4.toNat]?) fun v12 =>
      X62.l2.ce N a1 a2 [] n (X62.l2.t (IntKind.i64.wrap ((IntKind.i64.wrap ((IntKind.i64.wrap ((IntKind.i64.wrap ((IntKind.i64.wrap ((IntKind.i64.wrap (p3 + 1)) + 1)) + 1)) + 1)) + 1)) + 1)) (IntKind.i64.wrap (p4 + 1)) ((((((p5.set p4.toNat (v6, v7.2)).set p4.toNat (v8.1, IntKind.i64.wrap (p3 + 1), v8.2.2)).set p4.toNat (v9.1, v9.2.1, IntKind.i64.wrap ((IntKind.i64.wrap (p3 + 1)) + 1), v9.2.2.2)).set p4.toNat (v10.1, v10.2.1, v10.2.2.1, (IntKind.i64.wrap ((IntKind.i64.wrap ((IntKind.i64.wrap (p3 + 1)) + 1)) + 1), v10.2.2.2.1.2), v10.2.2.2.2)).set p4.toNat (v11.1, v11.2.1, v11.2.2.1, (v11.2.2.2.1.1, IntKind.i64.wrap ((IntKind.i64.wrap ((IntKind.i64.wrap ((IntKind.i64.wrap (p3 + 1)) + 1)) + 1)) + 1), v11.2.2.2.1.2.2), v11.2.2.2.2)).set p4.toNat (v12.1, v12.2.1, v12.2.2.1, (v12.2.2.2.1.1, v12.2.2.2.1.2.1, IntKind.i64.wrap ((IntKind.i64.wrap ((IntKind.i64.wrap ((IntKind.i64.wrap ((IntKind.i64.wrap (p3 + 1)) + 1)) + 1)) + 1)) + 1), v12.2.2.2.1.2.2.2), v12.2.2.2.2))) (X62.l2.h (IntKind.i64.wrap ((IntKind.i64.wrap ((IntKind.i64.wrap ((IntKind.i64.wrap ((IntKind.i64.wrap ((IntKind.i64.wrap (p3 + 1)) + 1)) + 1)) + 1)) + 1)) + 1)) (IntKind.i64.wrap (p4 + 1)) ((((((p5.set p4.toNat (v6, v7.2)).set p4.toNat (v8.1, IntKind.i64.wrap (p3 + 1), v8.2.2)).set p4.toNat (v9.1, v9.2.1, IntKind.i64.wrap ((IntKind.i64.wrap (p3 + 1)) + 1), v9.2.2.2)).set p4.toNat (v10.1, v10.2.1, v10.2.2.1, (IntKind.i64.wrap ((IntKind.i64.wrap ((IntKind.i64.wrap (p3 + 1)) + 1)) + 1), v10.2.2.2.1.2), v10.2.2.2.2)).set p4.toNat (v11.1, v11.2.1, v11.2.2.1, (v11.2.2.2.1.1, IntKind.i64.wrap ((IntKind.i64.wrap ((IntKind.i64.wrap ((IntKind.i64.wrap (p3 + 1)) + 1)) + 1)) + 1), v11.2.2.2.1.2.2), v11.2.2.2.2)).set p4.toNat (v12.1, v12.2.1, v12.2.2.1, (v12.2.2.2.1.1, v12.2.2.2.1.2.1, IntKind.i64.wrap ((IntKind.i64.wrap ((IntKind.i64.wrap ((IntKind.i64.wrap ((IntKind.i64.wrap (p3 + 1)) + 1)) + 1)) + 1)) + 1), v12.2.2.2.1.2.2.2), v12.2.2.2.2))) else none) else none) else none) else none) else none) else none) else none) else none) else none) else none) else none) else none)
    else some (p3, p5, a2, ()) := by kernel_rfl
theorem X62.l2.e (N : Nat)  (a1 : List T120.den) (a2 : Int) : ∀ (n : Nat) (p3 : Int) (p4 : Int) (p5 : List T120.den), X62.l2.ce N a1 a2 [] n (X62.l2.t p3 p4 p5) (X62.l2.h p3 p4 p5) = X62.l2 N a1 a2 n p3 p4 p5
  | 0, _, _, _ => rfl
  | n + 1, p3, p4, p5 => by rw [X62.l2.s, X62.l2]; (try simp only [X62.l2.e N a1 a2 n])
def X62 (N : Nat) (a1 : List T120.den) (a2 : Int) : Option (Int × (List T120.den) × Int × Unit) :=
  X62.l2 N a1 a2 N a2 0 a1
theorem X62.ev (N : Nat) (a1 : List T120.den) (a2 : Int) : evM (c62 N) h62 Tryz.f62 as62 rs62 N (a1, a2, ()) = X62 N a1 a2 :=
  (show evM (c62 N) h62 Tryz.f62 as62 rs62 N (a1, a2, ()) =
    X62.l2.ce N a1 a2 [] N (X62.l2.t a2 0 a1) (X62.l2.h a2 0 a1) by kernel_rfl).trans (by simp only [X62.l2.e]; try rfl)
theorem X62.p (N : Nat) : PMut Tryz.prog gl 62 as62 rs62 (fun x => X62 N x.1 x.2.1) :=
  PMut.ev (c := c62 N) ⟨mixed, tiok, fun f k h => (by simp only [c62] at h; split at h <;> first | (cases h; done) | (cases h; first | exact X35.p N)), fun f k h => (by cases h), eqtok, fun t n f h => (by cases h)⟩ h62 (f := 62) (fn := Tryz.f62) (b := b62) (by kernel_rfl) (by kernel_rfl) (by kernel_rfl) (by kernel_rfl) (by decide) (fun x y h => ⟨N, (X62.ev N x.1 x.2.1).trans h⟩) (by intro x ds0 H0 h; cases h; rfl)
end Go.Eng.T
end
noncomputable section
namespace Go.Eng.T
open Go.RowKit
open Go.Proofs
set_option linter.unusedVariables false
/- laws.markHallWorld -/
abbrev as36 : List Sh := [.agg T40, .one (.int .i64)]
abbrev rs36 : Rs := .one (.one (.int .i64))
def h36 : Hint := {  }
def c36 (N : Nat) : Cfg := { ti := ti, gl := gl, eqt := eqt, meth := fun _ _ => none, con := fun _ => none, mu := fun | 13 => some ⟨as13, rs13, fun x => X13 N x.1 x.2.1⟩ | 61 => some ⟨as61, rs61, fun x => X61 N x.1 x.2.1⟩ | 62 => some ⟨as62, rs62, fun x => X62 N x.1 x.2.1⟩ | _ => none, nfix := 6 }
def ds36 (a1 : T40.den) (a2 : Int) : List D := [.agg [.ow 0, .ow 1, .ow 2, .ow 3, .ow 4, .val (.int .i64) a1.2.2.1, .ow 5], .val (.int .i64) a2]
def b36 : Code := match Tryz.f36.body with | some b => b | none => .skip
def X36 (N : Nat) (a1 : T40.den) (a2 : Int) : Option (Int × T40.den × Int × Unit) :=
  Option.bind (X13 N a1.1 a2) fun v3 =>
  Option.bind (X61 N a1.2.1 v3.1) fun v4 =>
  Option.bind (X62 N a1.2.2.2.1 v4.1) fun v5 =>
  some (v5.1, (v3.2.1, v4.2.1, a1.2.2.1, v5.2.1, ()), a2, ())
theorem X36.ev (N : Nat) (a1 : T40.den) (a2 : Int) : evM (c36 N) h36 Tryz.f36 as36 rs36 N (a1, a2, ()) = X36 N a1 a2 := by kernel_rfl
theorem X36.p (N : Nat) : PMut Tryz.prog gl 36 as36 rs36 (fun x => X36 N x.1 x.2.1) :=
  PMut.ev (c := c36 N) ⟨mixed, tiok, fun f k h => (by cases h), fun f k h => (by simp only [c36] at h; split at h <;> first | (cases h; done) | (cases h; first | exact X13.p N | exact X61.p N | exact X62.p N)), eqtok, fun t n f h => (by cases h)⟩ h36 (f := 36) (fn := Tryz.f36) (b := b36) (by kernel_rfl) (by kernel_rfl) (by kernel_rfl) (by kernel_rfl) (by decide) (fun x y h => ⟨N, (X36.ev N x.1 x.2.1).trans h⟩) (by intro x ds0 H0 h; cases h; rfl)
end Go.Eng.T
end
noncomputable section
namespace Go.Eng.T
open Go.RowKit
open Go.Proofs
set_option linter.unusedVariables false
/- laws.markDeskWorld -/
abbrev as15 : List Sh := [.agg T43, .one (.int .i64)]
abbrev rs15 : Rs := .one (.one (.int .i64))
def h15 : Hint := {  }
def c15 (N : Nat) : Cfg := { ti := ti, gl := gl, eqt := eqt, meth := fun _ _ => none, con := fun _ => none, mu := fun | 14 => some ⟨as14, rs14, fun x => X14 N x.1 x.2.1⟩ | 36 => some ⟨as36, rs36, fun x => X36 N x.1 x.2.1⟩ | _ => none, nfix := 7 }
def ds15 (a1 : T43.den) (a2 : Int) : List D := [.agg [.ow 0, .ow 1, .ow 2, .ow 3, .ow 4, .val (.int .i64) a1.1.2.2.1, .ow 5, .ow 6], .val (.int .i64) a2]
def b15 : Code := match Tryz.f15.body with | some b => b | none => .skip
def X15 (N : Nat) (a1 : T43.den) (a2 : Int) : Option (Int × T43.den × Int × Unit) :=
  Option.bind (X36 N a1.1 a2) fun v3 =>
  Option.bind (X14 N a1.2.1 v3.1) fun v4 =>
  some (v4.1, ((v3.2.1.1, v3.2.1.2.1, a1.1.2.2.1, v3.2.1.2.2.2), v4.2.1, ()), a2, ())
theorem X15.ev (N : Nat) (a1 : T43.den) (a2 : Int) : evM (c15 N) h15 Tryz.f15 as15 rs15 N (a1, a2, ()) = X15 N a1 a2 := by kernel_rfl
theorem X15.p (N : Nat) : PMut Tryz.prog gl 15 as15 rs15 (fun x => X15 N x.1 x.2.1) :=
  PMut.ev (c := c15 N) ⟨mixed, tiok, fun f k h => (by cases h), fun f k h => (by simp only [c15] at h; split at h <;> first | (cases h; done) | (cases h; first | exact X14.p N | exact X36.p N)), eqtok, fun t n f h => (by cases h)⟩ h15 (f := 15) (fn := Tryz.f15) (b := b15) (by kernel_rfl) (by kernel_rfl) (by kernel_rfl) (by kernel_rfl) (by decide) (fun x y h => ⟨N, (X15.ev N x.1 x.2.1).trans h⟩) (by intro x ds0 H0 h; cases h; rfl)
end Go.Eng.T
end
noncomputable section
namespace Go.Eng.T
open Go.RowKit
open Go.Proofs
set_option linter.unusedVariables false
/- laws.heldGateTeamS -/
abbrev as100 : List Sh := [.one (.sl false T77), .one (.int .i64)]
abbrev rs100 : Rs := .one (.one (.int .i64))
def h100 : Hint := { keep := fun | 2 => [0, 1, 5] | _ => [] }
def c100 (N : Nat) : Cfg := { ti := ti, gl := gl, eqt := eqt, meth := fun _ _ => none, con := fun | 35 => some ⟨as35, rs35, fun x => X35 N x.1⟩ | _ => none }
def b100 : Code := match Tryz.f100.body with | some b => b | none => .skip
def X100.l2.t (a1 : List T77.den) (p3 : Int) (p4 : Int) : List (Nat × D) := [(0, .val (.sl false T77) a1), (1, .val (.int .i64) p3), (5, .val (.int .i64) p4)]
def X100.l2.h (a1 : List T77.den) (p3 : Int) (p4 : Int) : List E := []
def X100.l2 (N : Nat) (a1 : List T77.den)  : Nat → Int → Int → Option Int
  | 0, _, _ => none
  | n + 1, p3, p4 =>
    bif decide (p4 < (a1.length : Int)) then
      (if (0 : Int) ≤ p4 then Option.bind (a1[p4.toNat]?) fun v7 =>
      Option.bind (X35 N p3) fun v8 =>
      bif !(v7.1.toList == v8.toList) then
        some (-1)
      else (if (0 : Int) ≤ p4 then Option.bind (a1[p4.toNat]?) fun v9 =>
      Option.bind (X35 N (IntKind.i64.wrap (p3 + 1))) fun v10 =>
      bif !(v9.2.1.toList == v10.toList) then
        some (-1)
      else X100.l2 N a1 n (IntKind.i64.wrap ((IntKind.i64.wrap (p3 + 1)) + 1)) (IntKind.i64.wrap (p4 + 1)) else none) else none)
    else some p3
def X100.l2.ce (N : Nat) (oc : List (Nat × (List (Nat × D) → List E → Option Int))) : Nat → List (Nat × D) → List E → Option Int := loopAt (c100 N) h100 N (endK (c100 N) Tryz.f100 (mvRs rs100)) [.b, .a, .b, .a] b100 oc 0
theorem X100.l2.s (N n : Nat)  (a1 : List T77.den) (p3 : Int) (p4 : Int) : X100.l2.ce N [] (n + 1) (X100.l2.t a1 p3 p4) (X100.l2.h a1 p3 p4) =
    bif decide (p4 < (a1.length : Int)) then
      (if (0 : Int) ≤ p4 then Option.bind (a1[p4.toNat]?) fun v7 =>
      Option.bind (X35 N p3) fun v8 =>
      bif !(v7.1.toList == v8.toList) then
        some (-1)
      else (if (0 : Int) ≤ p4 then Option.bind (a1[p4.toNat]?) fun v9 =>
      Option.bind (X35 N (IntKind.i64.wrap (p3 + 1))) fun v10 =>
      bif !(v9.2.1.toList == v10.toList) then
        some (-1)
      else X100.l2.ce N [] n (X100.l2.t a1 (IntKind.i64.wrap ((IntKind.i64.wrap (p3 + 1)) + 1)) (IntKind.i64.wrap (p4 + 1))) (X100.l2.h a1 (IntKind.i64.wrap ((IntKind.i64.wrap (p3 + 1)) + 1)) (IntKind.i64.wrap (p4 + 1))) else none) else none)
    else some p3 := by kernel_rfl
theorem X100.l2.e (N : Nat)  (a1 : List T77.den) : ∀ (n : Nat) (p3 : Int) (p4 : Int), X100.l2.ce N [] n (X100.l2.t a1 p3 p4) (X100.l2.h a1 p3 p4) = X100.l2 N a1 n p3 p4
  | 0, _, _ => rfl
  | n + 1, p3, p4 => by rw [X100.l2.s, X100.l2]; (try simp only [X100.l2.e N a1 n])
def X100 (N : Nat) (a1 : List T77.den) (a2 : Int) : Option Int :=
  X100.l2 N a1 N a2 0
theorem X100.ev (N : Nat) (a1 : List T77.den) (a2 : Int) : evF (c100 N) h100 Tryz.f100 as100 rs100 N (a1, a2, ()) = X100 N a1 a2 :=
  (show evF (c100 N) h100 Tryz.f100 as100 rs100 N (a1, a2, ()) =
    X100.l2.ce N [] N (X100.l2.t a1 a2 0) (X100.l2.h a1 a2 0) by kernel_rfl).trans (by simp only [X100.l2.e]; try rfl)
theorem X100.p (N : Nat) : PFun Tryz.prog gl 100 as100 rs100 (fun x => X100 N x.1 x.2.1) :=
  PFun.ev (c := c100 N) ⟨mixed, tiok, fun f k h => (by simp only [c100] at h; split at h <;> first | (cases h; done) | (cases h; first | exact X35.p N)), fun f k h => (by cases h), eqtok, fun t n f h => (by cases h)⟩ h100 (f := 100) (fn := Tryz.f100) (b := b100) (by kernel_rfl) (by kernel_rfl) (by kernel_rfl) (by kernel_rfl) (by decide) (fun x y h => ⟨N, (X100.ev N x.1 x.2.1).trans h⟩)
end Go.Eng.T
end
noncomputable section
namespace Go.Eng.T
open Go.RowKit
open Go.Proofs
set_option linter.unusedVariables false
/- laws.heldIntS -/
abbrev as136 : List Sh := [.one (.sl false (.int .i64)), .one (.int .i64)]
abbrev rs136 : Rs := .one (.one (.int .i64))
def h136 : Hint := { keep := fun | 2 => [0, 1, 5] | _ => [] }
def c136 (N : Nat) : Cfg := { ti := ti, gl := gl, eqt := eqt, meth := fun _ _ => none, con := fun _ => none }
def b136 : Code := match Tryz.f136.body with | some b => b | none => .skip
def X136.l2.t (a1 : List Int) (p3 : Int) (p4 : Int) : List (Nat × D) := [(0, .val (.sl false (.int .i64)) a1), (1, .val (.int .i64) p3), (5, .val (.int .i64) p4)]
def X136.l2.h (a1 : List Int) (p3 : Int) (p4 : Int) : List E := []
def X136.l2 (N : Nat) (a1 : List Int)  : Nat → Int → Int → Option Int
  | 0, _, _ => none
  | n + 1, p3, p4 =>
    bif decide (p4 < (a1.length : Int)) then
      (if (0 : Int) ≤ p4 then Option.bind (a1[p4.toNat]?) fun v5 =>
      bif v5 != p3 then
        some (-1)
      else X136.l2 N a1 n (IntKind.i64.wrap (p3 + 1)) (IntKind.i64.wrap (p4 + 1)) else none)
    else some p3
def X136.l2.ce (N : Nat) (oc : List (Nat × (List (Nat × D) → List E → Option Int))) : Nat → List (Nat × D) → List E → Option Int := loopAt (c136 N) h136 N (endK (c136 N) Tryz.f136 (mvRs rs136)) [.b, .a, .b, .a] b136 oc 0
theorem X136.l2.s (N n : Nat)  (a1 : List Int) (p3 : Int) (p4 : Int) : X136.l2.ce N [] (n + 1) (X136.l2.t a1 p3 p4) (X136.l2.h a1 p3 p4) =
    bif decide (p4 < (a1.length : Int)) then
      (if (0 : Int) ≤ p4 then Option.bind (a1[p4.toNat]?) fun v5 =>
      bif v5 != p3 then
        some (-1)
      else X136.l2.ce N [] n (X136.l2.t a1 (IntKind.i64.wrap (p3 + 1)) (IntKind.i64.wrap (p4 + 1))) (X136.l2.h a1 (IntKind.i64.wrap (p3 + 1)) (IntKind.i64.wrap (p4 + 1))) else none)
    else some p3 := by kernel_rfl
theorem X136.l2.e (N : Nat)  (a1 : List Int) : ∀ (n : Nat) (p3 : Int) (p4 : Int), X136.l2.ce N [] n (X136.l2.t a1 p3 p4) (X136.l2.h a1 p3 p4) = X136.l2 N a1 n p3 p4
  | 0, _, _ => rfl
  | n + 1, p3, p4 => by rw [X136.l2.s, X136.l2]; (try simp only [X136.l2.e N a1 n])
def X136 (N : Nat) (a1 : List Int) (a2 : Int) : Option Int :=
  X136.l2 N a1 N a2 0
theorem X136.ev (N : Nat) (a1 : List Int) (a2 : Int) : evF (c136 N) h136 Tryz.f136 as136 rs136 N (a1, a2, ()) = X136 N a1 a2 :=
  (show evF (c136 N) h136 Tryz.f136 as136 rs136 N (a1, a2, ()) =
    X136.l2.ce N [] N (X136.l2.t a1 a2 0) (X136.l2.h a1 a2 0) by kernel_rfl).trans (by simp only [X136.l2.e]; try rfl)
theorem X136.p (N : Nat) : PFun Tryz.prog gl 136 as136 rs136 (fun x => X136 N x.1 x.2.1) :=
  PFun.ev (c := c136 N) ⟨mixed, tiok, fun f k h => (by cases h), fun f k h => (by cases h), eqtok, fun t n f h => (by cases h)⟩ h136 (f := 136) (fn := Tryz.f136) (b := b136) (by kernel_rfl) (by kernel_rfl) (by kernel_rfl) (by kernel_rfl) (by decide) (fun x y h => ⟨N, (X136.ev N x.1 x.2.1).trans h⟩)
end Go.Eng.T
end
noncomputable section
namespace Go.Eng.T
open Go.RowKit
open Go.Proofs
set_option linter.unusedVariables false
/- laws.heldGateGrantS -/
abbrev as101 : List Sh := [.one (.sl false T83r), .one (.int .i64)]
abbrev rs101 : Rs := .one (.one (.int .i64))
def h101 : Hint := { keep := fun | 2 => [0, 1, 5] | _ => [] }
def c101 (N : Nat) : Cfg := { ti := ti, gl := gl, eqt := eqt, meth := fun _ _ => none, con := fun | 35 => some ⟨as35, rs35, fun x => X35 N x.1⟩ | 136 => some ⟨as136, rs136, fun x => X136 N x.1 x.2.1⟩ | _ => none }
def b101 : Code := match Tryz.f101.body with | some b => b | none => .skip
def X101.l2.t (a1 : List T83.den) (p3 : Int) (p4 : Int) : List (Nat × D) := [(0, .val (.sl false T83r) a1), (1, .val (.int .i64) p3), (5, .val (.int .i64) p4)]
def X101.l2.h (a1 : List T83.den) (p3 : Int) (p4 : Int) : List E := []
def X101.l2 (N : Nat) (a1 : List T83.den)  : Nat → Int → Int → Option Int
  | 0, _, _ => none
  | n + 1, p3, p4 =>
    bif decide (p4 < (a1.length : Int)) then
      (if (0 : Int) ≤ p4 then Option.bind (a1[p4.toNat]?) fun v6 =>
      bif v6.1 != p3 then
        some (-1)
      else (if (0 : Int) ≤ p4 then Option.bind (a1[p4.toNat]?) fun v9 =>
      Option.bind (X35 N (IntKind.i64.wrap (p3 + 1))) fun v10 =>
      bif !(v9.2.1.toList == v10.toList) then
        some (-1)
      else (if (0 : Int) ≤ p4 then Option.bind (a1[p4.toNat]?) fun v13 =>
      Option.bind (X35 N (IntKind.i64.wrap ((IntKind.i64.wrap (p3 + 1)) + 1))) fun v14 =>
      bif !(v13.2.2.1.toList == v14.toList) then
        some (-1)
      else (if (0 : Int) ≤ p4 then Option.bind (a1[p4.toNat]?) fun v15 =>
      Option.bind (X136 N v15.2.2.2.1.1 (IntKind.i64.wrap ((IntKind.i64.wrap ((IntKind.i64.wrap (p3 + 1)) + 1)) + 1))) fun v16 =>
      bif decide (v16 < 0) then
        some (-1)
      else (if (0 : Int) ≤ p4 then Option.bind (a1[p4.toNat]?) fun v19 =>
      Option.bind (X35 N v16) fun v20 =>
      bif !(v19.2.2.2.1.2.1.toList == v20.toList) then
        some (-1)
      else (if (0 : Int) ≤ p4 then Option.bind (a1[p4.toNat]?) fun v23 =>
      Option.bind (X35 N (IntKind.i64.wrap (v16 + 1))) fun v24 =>
      bif !(v23.2.2.2.1.2.2.1.toList == v24.toList) then
        some (-1)
      else (if (0 : Int) ≤ p4 then Option.bind (a1[p4.toNat]?) fun v25 =>
      Option.bind (X35 N (IntKind.i64.wrap ((IntKind.i64.wrap (v16 + 1)) + 1))) fun v26 =>
      bif !(v25.2.2.2.1.2.2.2.1.toList == v26.toList) then
        some (-1)
      else X101.l2 N a1 n (IntKind.i64.wrap ((IntKind.i64.wrap ((IntKind.i64.wrap (v16 + 1)) + 1)) + 1)) (IntKind.i64.wrap (p4 + 1)) else none) else none) else none) else none) else none) else none) else none)
    else some p3
def X101.l2.ce (N : Nat) (oc : List (Nat × (List (Nat × D) → List E → Option Int))) : Nat → List (Nat × D) → List E → Option Int := loopAt (c101 N) h101 N (endK (c101 N) Tryz.f101 (mvRs rs101)) [.b, .a, .b, .a] b101 oc 0
theorem X101.l2.s (N n : Nat)  (a1 : List T83.den) (p3 : Int) (p4 : Int) : X101.l2.ce N [] (n + 1) (X101.l2.t a1 p3 p4) (X101.l2.h a1 p3 p4) =
    bif decide (p4 < (a1.length : Int)) then
      (if (0 : Int) ≤ p4 then Option.bind (a1[p4.toNat]?) fun v6 =>
      bif v6.1 != p3 then
        some (-1)
      else (if (0 : Int) ≤ p4 then Option.bind (a1[p4.toNat]?) fun v9 =>
      Option.bind (X35 N (IntKind.i64.wrap (p3 + 1))) fun v10 =>
      bif !(v9.2.1.toList == v10.toList) then
        some (-1)
      else (if (0 : Int) ≤ p4 then Option.bind (a1[p4.toNat]?) fun v13 =>
      Option.bind (X35 N (IntKind.i64.wrap ((IntKind.i64.wrap (p3 + 1)) + 1))) fun v14 =>
      bif !(v13.2.2.1.toList == v14.toList) then
        some (-1)
      else (if (0 : Int) ≤ p4 then Option.bind (a1[p4.toNat]?) fun v15 =>
      Option.bind (X136 N v15.2.2.2.1.1 (IntKind.i64.wrap ((IntKind.i64.wrap ((IntKind.i64.wrap (p3 + 1)) + 1)) + 1))) fun v16 =>
      bif decide (v16 < 0) then
        some (-1)
      else (if (0 : Int) ≤ p4 then Option.bind (a1[p4.toNat]?) fun v19 =>
      Option.bind (X35 N v16) fun v20 =>
      bif !(v19.2.2.2.1.2.1.toList == v20.toList) then
        some (-1)
      else (if (0 : Int) ≤ p4 then Option.bind (a1[p4.toNat]?) fun v23 =>
      Option.bind (X35 N (IntKind.i64.wrap (v16 + 1))) fun v24 =>
      bif !(v23.2.2.2.1.2.2.1.toList == v24.toList) then
        some (-1)
      else (if (0 : Int) ≤ p4 then Option.bind (a1[p4.toNat]?) fun v25 =>
      Option.bind (X35 N (IntKind.i64.wrap ((IntKind.i64.wrap (v16 + 1)) + 1))) fun v26 =>
      bif !(v25.2.2.2.1.2.2.2.1.toList == v26.toList) then
        some (-1)
      else X101.l2.ce N [] n (X101.l2.t a1 (IntKind.i64.wrap ((IntKind.i64.wrap ((IntKind.i64.wrap (v16 + 1)) + 1)) + 1)) (IntKind.i64.wrap (p4 + 1))) (X101.l2.h a1 (IntKind.i64.wrap ((IntKind.i64.wrap ((IntKind.i64.wrap (v16 + 1)) + 1)) + 1)) (IntKind.i64.wrap (p4 + 1))) else none) else none) else none) else none) else none) else none) else none)
    else some p3 := by kernel_rfl
theorem X101.l2.e (N : Nat)  (a1 : List T83.den) : ∀ (n : Nat) (p3 : Int) (p4 : Int), X101.l2.ce N [] n (X101.l2.t a1 p3 p4) (X101.l2.h a1 p3 p4) = X101.l2 N a1 n p3 p4
  | 0, _, _ => rfl
  | n + 1, p3, p4 => by rw [X101.l2.s, X101.l2]; (try simp only [X101.l2.e N a1 n])
def X101 (N : Nat) (a1 : List T83.den) (a2 : Int) : Option Int :=
  X101.l2 N a1 N a2 0
theorem X101.ev (N : Nat) (a1 : List T83.den) (a2 : Int) : evF (c101 N) h101 Tryz.f101 as101 rs101 N (a1, a2, ()) = X101 N a1 a2 :=
  (show evF (c101 N) h101 Tryz.f101 as101 rs101 N (a1, a2, ()) =
    X101.l2.ce N [] N (X101.l2.t a1 a2 0) (X101.l2.h a1 a2 0) by kernel_rfl).trans (by simp only [X101.l2.e]; try rfl)
theorem X101.p (N : Nat) : PFun Tryz.prog gl 101 as101 rs101 (fun x => X101 N x.1 x.2.1) :=
  PFun.ev (c := c101 N) ⟨mixed, tiok, fun f k h => (by simp only [c101] at h; split at h <;> first | (cases h; done) | (cases h; first | exact X35.p N | exact X136.p N)), fun f k h => (by cases h), eqtok, fun t n f h => (by cases h)⟩ h101 (f := 101) (fn := Tryz.f101) (b := b101) (by kernel_rfl) (by kernel_rfl) (by kernel_rfl) (by kernel_rfl) (by decide) (fun x y h => ⟨N, (X101.ev N x.1 x.2.1).trans h⟩)
end Go.Eng.T
end
noncomputable section
namespace Go.Eng.T
open Go.RowKit
open Go.Proofs
set_option linter.unusedVariables false
/- laws.heldHallHouse -/
abbrev as63 : List Sh := [.agg T25r, .one (.int .i64)]
abbrev rs63 : Rs := .one (.one (.int .i64))
def h63 : Hint := {  }
def c63 (N : Nat) : Cfg := { ti := ti, gl := gl, eqt := eqt, meth := fun _ _ => none, con := fun | 100 => some ⟨as100, rs100, fun x => X100 N x.1 x.2.1⟩ | 101 => some ⟨as101, rs101, fun x => X101 N x.1 x.2.1⟩ | _ => none }
def b63 : Code := match Tryz.f63.body with | some b => b | none => .skip
def X63 (N : Nat) (a1 : T25.den) (a2 : Int) : Option Int :=
  Option.bind (X100 N a1.1 a2) fun v3 =>
  bif decide (v3 < 0) then
    some (-1)
  else Option.bind (X101 N a1.2.1 v3) fun v4 =>
  bif decide (v4 < 0) then
    some (-1)
  else some v4
theorem X63.ev (N : Nat) (a1 : T25.den) (a2 : Int) : evF (c63 N) h63 Tryz.f63 as63 rs63 N (a1, a2, ()) = X63 N a1 a2 := by kernel_rfl
theorem X63.p (N : Nat) : PFun Tryz.prog gl 63 as63 rs63 (fun x => X63 N x.1 x.2.1) :=
  PFun.ev (c := c63 N) ⟨mixed, tiok, fun f k h => (by simp only [c63] at h; split at h <;> first | (cases h; done) | (cases h; first | exact X100.p N | exact X101.p N)), fun f k h => (by cases h), eqtok, fun t n f h => (by cases h)⟩ h63 (f := 63) (fn := Tryz.f63) (b := b63) (by kernel_rfl) (by kernel_rfl) (by kernel_rfl) (by kernel_rfl) (by decide) (fun x y h => ⟨N, (X63.ev N x.1 x.2.1).trans h⟩)
end Go.Eng.T
end
noncomputable section
namespace Go.Eng.T
open Go.RowKit
open Go.Proofs
set_option linter.unusedVariables false
/- laws.heldRecSlotS -/
abbrev as137 : List Sh := [.one (.sl false T218), .one (.int .i64)]
abbrev rs137 : Rs := .one (.one (.int .i64))
def h137 : Hint := { keep := fun | 2 => [0, 1, 5] | _ => [] }
def c137 (N : Nat) : Cfg := { ti := ti, gl := gl, eqt := eqt, meth := fun _ _ => none, con := fun | 35 => some ⟨as35, rs35, fun x => X35 N x.1⟩ | _ => none }
def b137 : Code := match Tryz.f137.body with | some b => b | none => .skip
def X137.l2.t (a1 : List T218.den) (p3 : Int) (p4 : Int) : List (Nat × D) := [(0, .val (.sl false T218) a1), (1, .val (.int .i64) p3), (5, .val (.int .i64) p4)]
def X137.l2.h (a1 : List T218.den) (p3 : Int) (p4 : Int) : List E := []
def X137.l2 (N : Nat) (a1 : List T218.den)  : Nat → Int → Int → Option Int
  | 0, _, _ => none
  | n + 1, p3, p4 =>
    bif decide (p4 < (a1.length : Int)) then
      (if (0 : Int) ≤ p4 then Option.bind (a1[p4.toNat]?) fun v6 =>
      bif v6.1 != p3 then
        some (-1)
      else (if (0 : Int) ≤ p4 then Option.bind (a1[p4.toNat]?) fun v7 =>
      Option.bind (X35 N (IntKind.i64.wrap (p3 + 1))) fun v8 =>
      bif !(v7.2.1.toList == v8.toList) then
        some (-1)
      else X137.l2 N a1 n (IntKind.i64.wrap ((IntKind.i64.wrap (p3 + 1)) + 1)) (IntKind.i64.wrap (p4 + 1)) else none) else none)
    else some p3
def X137.l2.ce (N : Nat) (oc : List (Nat × (List (Nat × D) → List E → Option Int))) : Nat → List (Nat × D) → List E → Option Int := loopAt (c137 N) h137 N (endK (c137 N) Tryz.f137 (mvRs rs137)) [.b, .a, .b, .a] b137 oc 0
theorem X137.l2.s (N n : Nat)  (a1 : List T218.den) (p3 : Int) (p4 : Int) : X137.l2.ce N [] (n + 1) (X137.l2.t a1 p3 p4) (X137.l2.h a1 p3 p4) =
    bif decide (p4 < (a1.length : Int)) then
      (if (0 : Int) ≤ p4 then Option.bind (a1[p4.toNat]?) fun v6 =>
      bif v6.1 != p3 then
        some (-1)
      else (if (0 : Int) ≤ p4 then Option.bind (a1[p4.toNat]?) fun v7 =>
      Option.bind (X35 N (IntKind.i64.wrap (p3 + 1))) fun v8 =>
      bif !(v7.2.1.toList == v8.toList) then
        some (-1)
      else X137.l2.ce N [] n (X137.l2.t a1 (IntKind.i64.wrap ((IntKind.i64.wrap (p3 + 1)) + 1)) (IntKind.i64.wrap (p4 + 1))) (X137.l2.h a1 (IntKind.i64.wrap ((IntKind.i64.wrap (p3 + 1)) + 1)) (IntKind.i64.wrap (p4 + 1))) else none) else none)
    else some p3 := by kernel_rfl
theorem X137.l2.e (N : Nat)  (a1 : List T218.den) : ∀ (n : Nat) (p3 : Int) (p4 : Int), X137.l2.ce N [] n (X137.l2.t a1 p3 p4) (X137.l2.h a1 p3 p4) = X137.l2 N a1 n p3 p4
  | 0, _, _ => rfl
  | n + 1, p3, p4 => by rw [X137.l2.s, X137.l2]; (try simp only [X137.l2.e N a1 n])
def X137 (N : Nat) (a1 : List T218.den) (a2 : Int) : Option Int :=
  X137.l2 N a1 N a2 0
theorem X137.ev (N : Nat) (a1 : List T218.den) (a2 : Int) : evF (c137 N) h137 Tryz.f137 as137 rs137 N (a1, a2, ()) = X137 N a1 a2 :=
  (show evF (c137 N) h137 Tryz.f137 as137 rs137 N (a1, a2, ()) =
    X137.l2.ce N [] N (X137.l2.t a1 a2 0) (X137.l2.h a1 a2 0) by kernel_rfl).trans (by simp only [X137.l2.e]; try rfl)
theorem X137.p (N : Nat) : PFun Tryz.prog gl 137 as137 rs137 (fun x => X137 N x.1 x.2.1) :=
  PFun.ev (c := c137 N) ⟨mixed, tiok, fun f k h => (by simp only [c137] at h; split at h <;> first | (cases h; done) | (cases h; first | exact X35.p N)), fun f k h => (by cases h), eqtok, fun t n f h => (by cases h)⟩ h137 (f := 137) (fn := Tryz.f137) (b := b137) (by kernel_rfl) (by kernel_rfl) (by kernel_rfl) (by kernel_rfl) (by decide) (fun x y h => ⟨N, (X137.ev N x.1 x.2.1).trans h⟩)
end Go.Eng.T
end
noncomputable section
namespace Go.Eng.T
open Go.RowKit
open Go.Proofs
set_option linter.unusedVariables false
/- laws.heldRecMessageS -/
abbrev as103 : List Sh := [.one (.sl false T160r), .one (.int .i64)]
abbrev rs103 : Rs := .one (.one (.int .i64))
def h103 : Hint := { keep := fun | 2 => [0, 1, 5] | _ => [] }
def c103 (N : Nat) : Cfg := { ti := ti, gl := gl, eqt := eqt, meth := fun _ _ => none, con := fun | 35 => some ⟨as35, rs35, fun x => X35 N x.1⟩ | 137 => some ⟨as137, rs137, fun x => X137 N x.1 x.2.1⟩ | _ => none }
def b103 : Code := match Tryz.f103.body with | some b => b | none => .skip
def X103.l2.t (a1 : List T160.den) (p3 : Int) (p4 : Int) : List (Nat × D) := [(0, .val (.sl false T160r) a1), (1, .val (.int .i64) p3), (5, .val (.int .i64) p4)]
def X103.l2.h (a1 : List T160.den) (p3 : Int) (p4 : Int) : List E := []
def X103.l2 (N : Nat) (a1 : List T160.den)  : Nat → Int → Int → Option Int
  | 0, _, _ => none
  | n + 1, p3, p4 =>
    bif decide (p4 < (a1.length : Int)) then
      (if (0 : Int) ≤ p4 then Option.bind (a1[p4.toNat]?) fun v6 =>
      bif v6.1 != p3 then
        some (-1)
      else (if (0 : Int) ≤ p4 then Option.bind (a1[p4.toNat]?) fun v8 =>
      bif v8.2.1 != (IntKind.i64.wrap (p3 + 1)) then
        some (-1)
      else (if (0 : Int) ≤ p4 then Option.bind (a1[p4.toNat]?) fun v10 =>
      bif v10.2.2.1 != (IntKind.i64.wrap ((IntKind.i64.wrap (p3 + 1)) + 1)) then
        some (-1)
      else (if (0 : Int) ≤ p4 then Option.bind (a1[p4.toNat]?) fun v12 =>
      bif v12.2.2.2.1 != (IntKind.i64.wrap ((IntKind.i64.wrap ((IntKind.i64.wrap (p3 + 1)) + 1)) + 1)) then
        some (-1)
      else (if (0 : Int) ≤ p4 then Option.bind (a1[p4.toNat]?) fun v14 =>
      bif v14.2.2.2.2.1 != (IntKind.i64.wrap ((IntKind.i64.wrap ((IntKind.i64.wrap ((IntKind.i64.wrap (p3 + 1)) + 1)) + 1)) + 1)) then
        some (-1)
      else (if (0 : Int) ≤ p4 then Option.bind (a1[p4.toNat]?) fun v16 =>
      bif v16.2.2.2.2.2.1 != (IntKind.i64.wrap ((IntKind.i64.wrap ((IntKind.i64.wrap ((IntKind.i64.wrap ((IntKind.i64.wrap (p3 + 1)) + 1)) + 1)) + 1)) + 1)) then
        some (-1)
      else (if (0 : Int) ≤ p4 then Option.bind (a1[p4.toNat]?) fun v19 =>
      Option.bind (X35 N (IntKind.i64.wrap ((IntKind.i64.wrap ((IntKind.i64.wrap ((IntKind.i64.wrap ((IntKind.i64.wrap ((IntKind.i64.wrap (p3 + 1)) + 1)) + 1)) + 1)) + 1)) + 1))) fun v20 =>
      bif !(v19.2.2.2.2.2.2.1.toList == v20.toList) then
        some (-1)
      else (if (0 : Int) ≤ p4 then Option.bind (a1[p4.toNat]?) fun v21 =>
      Option.bind (X137 N v21.2.2.2.2.2.2.2.1 (IntKind.i64.wrap ((IntKind.i64.wrap ((IntKind.i64.wrap ((IntKind.i64.wrap ((IntKind.i64.wrap ((IntKind.i64.wrap ((IntKind.i64.wrap (p3 + 1)) + 1)) + 1)) + 1)) + 1)) + 1)) + 1))) fun v22 =>
      bif decide (v22 < 0) then
        some (-1)
      else X103.l2 N a1 n v22 (IntKind.i64.wrap (p4 + 1)) else none) else none) else none) else none) else none) else none) else none) else none)
    else some p3
def X103.l2.ce (N : Nat) (oc : List (Nat × (List (Nat × D) → List E → Option Int))) : Nat → List (Nat × D) → List E → Option Int := loopAt (c103 N) h103 N (endK (c103 N) Tryz.f103 (mvRs rs103)) [.b, .a, .b, .a] b103 oc 0
theorem X103.l2.s (N n : Nat)  (a1 : List T160.den) (p3 : Int) (p4 : Int) : X103.l2.ce N [] (n + 1) (X103.l2.t a1 p3 p4) (X103.l2.h a1 p3 p4) =
    bif decide (p4 < (a1.length : Int)) then
      (if (0 : Int) ≤ p4 then Option.bind (a1[p4.toNat]?) fun v6 =>
      bif v6.1 != p3 then
        some (-1)
      else (if (0 : Int) ≤ p4 then Option.bind (a1[p4.toNat]?) fun v8 =>
      bif v8.2.1 != (IntKind.i64.wrap (p3 + 1)) then
        some (-1)
      else (if (0 : Int) ≤ p4 then Option.bind (a1[p4.toNat]?) fun v10 =>
      bif v10.2.2.1 != (IntKind.i64.wrap ((IntKind.i64.wrap (p3 + 1)) + 1)) then
        some (-1)
      else (if (0 : Int) ≤ p4 then Option.bind (a1[p4.toNat]?) fun v12 =>
      bif v12.2.2.2.1 != (IntKind.i64.wrap ((IntKind.i64.wrap ((IntKind.i64.wrap (p3 + 1)) + 1)) + 1)) then
        some (-1)
      else (if (0 : Int) ≤ p4 then Option.bind (a1[p4.toNat]?) fun v14 =>
      bif v14.2.2.2.2.1 != (IntKind.i64.wrap ((IntKind.i64.wrap ((IntKind.i64.wrap ((IntKind.i64.wrap (p3 + 1)) + 1)) + 1)) + 1)) then
        some (-1)
      else (if (0 : Int) ≤ p4 then Option.bind (a1[p4.toNat]?) fun v16 =>
      bif v16.2.2.2.2.2.1 != (IntKind.i64.wrap ((IntKind.i64.wrap ((IntKind.i64.wrap ((IntKind.i64.wrap ((IntKind.i64.wrap (p3 + 1)) + 1)) + 1)) + 1)) + 1)) then
        some (-1)
      else (if (0 : Int) ≤ p4 then Option.bind (a1[p4.toNat]?) fun v19 =>
      Option.bind (X35 N (IntKind.i64.wrap ((IntKind.i64.wrap ((IntKind.i64.wrap ((IntKind.i64.wrap ((IntKind.i64.wrap ((IntKind.i64.wrap (p3 + 1)) + 1)) + 1)) + 1)) + 1)) + 1))) fun v20 =>
      bif !(v19.2.2.2.2.2.2.1.toList == v20.toList) then
        some (-1)
      else (if (0 : Int) ≤ p4 then Option.bind (a1[p4.toNat]?) fun v21 =>
      Option.bind (X137 N v21.2.2.2.2.2.2.2.1 (IntKind.i64.wrap ((IntKind.i64.wrap ((IntKind.i64.wrap ((IntKind.i64.wrap ((IntKind.i64.wrap ((IntKind.i64.wrap ((IntKind.i64.wrap (p3 + 1)) + 1)) + 1)) + 1)) + 1)) + 1)) + 1))) fun v22 =>
      bif decide (v22 < 0) then
        some (-1)
      else X103.l2.ce N [] n (X103.l2.t a1 v22 (IntKind.i64.wrap (p4 + 1))) (X103.l2.h a1 v22 (IntKind.i64.wrap (p4 + 1))) else none) else none) else none) else none) else none) else none) else none) else none)
    else some p3 := by kernel_rfl
theorem X103.l2.e (N : Nat)  (a1 : List T160.den) : ∀ (n : Nat) (p3 : Int) (p4 : Int), X103.l2.ce N [] n (X103.l2.t a1 p3 p4) (X103.l2.h a1 p3 p4) = X103.l2 N a1 n p3 p4
  | 0, _, _ => rfl
  | n + 1, p3, p4 => by rw [X103.l2.s, X103.l2]; (try simp only [X103.l2.e N a1 n])
def X103 (N : Nat) (a1 : List T160.den) (a2 : Int) : Option Int :=
  X103.l2 N a1 N a2 0
theorem X103.ev (N : Nat) (a1 : List T160.den) (a2 : Int) : evF (c103 N) h103 Tryz.f103 as103 rs103 N (a1, a2, ()) = X103 N a1 a2 :=
  (show evF (c103 N) h103 Tryz.f103 as103 rs103 N (a1, a2, ()) =
    X103.l2.ce N [] N (X103.l2.t a1 a2 0) (X103.l2.h a1 a2 0) by kernel_rfl).trans (by simp only [X103.l2.e]; try rfl)
theorem X103.p (N : Nat) : PFun Tryz.prog gl 103 as103 rs103 (fun x => X103 N x.1 x.2.1) :=
  PFun.ev (c := c103 N) ⟨mixed, tiok, fun f k h => (by simp only [c103] at h; split at h <;> first | (cases h; done) | (cases h; first | exact X35.p N | exact X137.p N)), fun f k h => (by cases h), eqtok, fun t n f h => (by cases h)⟩ h103 (f := 103) (fn := Tryz.f103) (b := b103) (by kernel_rfl) (by kernel_rfl) (by kernel_rfl) (by kernel_rfl) (by decide) (fun x y h => ⟨N, (X103.ev N x.1 x.2.1).trans h⟩)
end Go.Eng.T
end
noncomputable section
namespace Go.Eng.T
open Go.RowKit
open Go.Proofs
set_option linter.unusedVariables false
/- laws.heldStringS -/
abbrev as138 : List Sh := [.one (.sl false .str), .one (.int .i64)]
abbrev rs138 : Rs := .one (.one (.int .i64))
def h138 : Hint := { keep := fun | 2 => [0, 1, 5] | _ => [] }
def c138 (N : Nat) : Cfg := { ti := ti, gl := gl, eqt := eqt, meth := fun _ _ => none, con := fun | 35 => some ⟨as35, rs35, fun x => X35 N x.1⟩ | _ => none }
def b138 : Code := match Tryz.f138.body with | some b => b | none => .skip
def X138.l2.t (a1 : List ByteArray) (p3 : Int) (p4 : Int) : List (Nat × D) := [(0, .val (.sl false .str) a1), (1, .val (.int .i64) p3), (5, .val (.int .i64) p4)]
def X138.l2.h (a1 : List ByteArray) (p3 : Int) (p4 : Int) : List E := []
def X138.l2 (N : Nat) (a1 : List ByteArray)  : Nat → Int → Int → Option Int
  | 0, _, _ => none
  | n + 1, p3, p4 =>
    bif decide (p4 < (a1.length : Int)) then
      (if (0 : Int) ≤ p4 then Option.bind (a1[p4.toNat]?) fun v5 =>
      Option.bind (X35 N p3) fun v6 =>
      bif !(v5.toList == v6.toList) then
        some (-1)
      else X138.l2 N a1 n (IntKind.i64.wrap (p3 + 1)) (IntKind.i64.wrap (p4 + 1)) else none)
    else some p3
def X138.l2.ce (N : Nat) (oc : List (Nat × (List (Nat × D) → List E → Option Int))) : Nat → List (Nat × D) → List E → Option Int := loopAt (c138 N) h138 N (endK (c138 N) Tryz.f138 (mvRs rs138)) [.b, .a, .b, .a] b138 oc 0
theorem X138.l2.s (N n : Nat)  (a1 : List ByteArray) (p3 : Int) (p4 : Int) : X138.l2.ce N [] (n + 1) (X138.l2.t a1 p3 p4) (X138.l2.h a1 p3 p4) =
    bif decide (p4 < (a1.length : Int)) then
      (if (0 : Int) ≤ p4 then Option.bind (a1[p4.toNat]?) fun v5 =>
      Option.bind (X35 N p3) fun v6 =>
      bif !(v5.toList == v6.toList) then
        some (-1)
      else X138.l2.ce N [] n (X138.l2.t a1 (IntKind.i64.wrap (p3 + 1)) (IntKind.i64.wrap (p4 + 1))) (X138.l2.h a1 (IntKind.i64.wrap (p3 + 1)) (IntKind.i64.wrap (p4 + 1))) else none)
    else some p3 := by kernel_rfl
theorem X138.l2.e (N : Nat)  (a1 : List ByteArray) : ∀ (n : Nat) (p3 : Int) (p4 : Int), X138.l2.ce N [] n (X138.l2.t a1 p3 p4) (X138.l2.h a1 p3 p4) = X138.l2 N a1 n p3 p4
  | 0, _, _ => rfl
  | n + 1, p3, p4 => by rw [X138.l2.s, X138.l2]; (try simp only [X138.l2.e N a1 n])
def X138 (N : Nat) (a1 : List ByteArray) (a2 : Int) : Option Int :=
  X138.l2 N a1 N a2 0
theorem X138.ev (N : Nat) (a1 : List ByteArray) (a2 : Int) : evF (c138 N) h138 Tryz.f138 as138 rs138 N (a1, a2, ()) = X138 N a1 a2 :=
  (show evF (c138 N) h138 Tryz.f138 as138 rs138 N (a1, a2, ()) =
    X138.l2.ce N [] N (X138.l2.t a1 a2 0) (X138.l2.h a1 a2 0) by kernel_rfl).trans (by simp only [X138.l2.e]; try rfl)
theorem X138.p (N : Nat) : PFun Tryz.prog gl 138 as138 rs138 (fun x => X138 N x.1 x.2.1) :=
  PFun.ev (c := c138 N) ⟨mixed, tiok, fun f k h => (by simp only [c138] at h; split at h <;> first | (cases h; done) | (cases h; first | exact X35.p N)), fun f k h => (by cases h), eqtok, fun t n f h => (by cases h)⟩ h138 (f := 138) (fn := Tryz.f138) (b := b138) (by kernel_rfl) (by kernel_rfl) (by kernel_rfl) (by kernel_rfl) (by decide) (fun x y h => ⟨N, (X138.ev N x.1 x.2.1).trans h⟩)
end Go.Eng.T
end
noncomputable section
namespace Go.Eng.T
open Go.RowKit
open Go.Proofs
set_option linter.unusedVariables false
/- laws.heldRecAckS -/
abbrev as139 : List Sh := [.one (.sl false T198r), .one (.int .i64)]
abbrev rs139 : Rs := .one (.one (.int .i64))
def h139 : Hint := { keep := fun | 2 => [0, 1, 5] | _ => [] }
def c139 (N : Nat) : Cfg := { ti := ti, gl := gl, eqt := eqt, meth := fun _ _ => none, con := fun | 136 => some ⟨as136, rs136, fun x => X136 N x.1 x.2.1⟩ | _ => none }
def b139 : Code := match Tryz.f139.body with | some b => b | none => .skip
def X139.l2.t (a1 : List T198.den) (p3 : Int) (p4 : Int) : List (Nat × D) := [(0, .val (.sl false T198r) a1), (1, .val (.int .i64) p3), (5, .val (.int .i64) p4)]
def X139.l2.h (a1 : List T198.den) (p3 : Int) (p4 : Int) : List E := []
def X139.l2 (N : Nat) (a1 : List T198.den)  : Nat → Int → Int → Option Int
  | 0, _, _ => none
  | n + 1, p3, p4 =>
    bif decide (p4 < (a1.length : Int)) then
      (if (0 : Int) ≤ p4 then Option.bind (a1[p4.toNat]?) fun v6 =>
      bif v6.1 != p3 then
        some (-1)
      else (if (0 : Int) ≤ p4 then Option.bind (a1[p4.toNat]?) fun v7 =>
      Option.bind (X136 N v7.2.1 (IntKind.i64.wrap (p3 + 1))) fun v8 =>
      bif decide (v8 < 0) then
        some (-1)
      else X139.l2 N a1 n v8 (IntKind.i64.wrap (p4 + 1)) else none) else none)
    else some p3
def X139.l2.ce (N : Nat) (oc : List (Nat × (List (Nat × D) → List E → Option Int))) : Nat → List (Nat × D) → List E → Option Int := loopAt (c139 N) h139 N (endK (c139 N) Tryz.f139 (mvRs rs139)) [.b, .a, .b, .a] b139 oc 0
theorem X139.l2.s (N n : Nat)  (a1 : List T198.den) (p3 : Int) (p4 : Int) : X139.l2.ce N [] (n + 1) (X139.l2.t a1 p3 p4) (X139.l2.h a1 p3 p4) =
    bif decide (p4 < (a1.length : Int)) then
      (if (0 : Int) ≤ p4 then Option.bind (a1[p4.toNat]?) fun v6 =>
      bif v6.1 != p3 then
        some (-1)
      else (if (0 : Int) ≤ p4 then Option.bind (a1[p4.toNat]?) fun v7 =>
      Option.bind (X136 N v7.2.1 (IntKind.i64.wrap (p3 + 1))) fun v8 =>
      bif decide (v8 < 0) then
        some (-1)
      else X139.l2.ce N [] n (X139.l2.t a1 v8 (IntKind.i64.wrap (p4 + 1))) (X139.l2.h a1 v8 (IntKind.i64.wrap (p4 + 1))) else none) else none)
    else some p3 := by kernel_rfl
theorem X139.l2.e (N : Nat)  (a1 : List T198.den) : ∀ (n : Nat) (p3 : Int) (p4 : Int), X139.l2.ce N [] n (X139.l2.t a1 p3 p4) (X139.l2.h a1 p3 p4) = X139.l2 N a1 n p3 p4
  | 0, _, _ => rfl
  | n + 1, p3, p4 => by rw [X139.l2.s, X139.l2]; (try simp only [X139.l2.e N a1 n])
def X139 (N : Nat) (a1 : List T198.den) (a2 : Int) : Option Int :=
  X139.l2 N a1 N a2 0
theorem X139.ev (N : Nat) (a1 : List T198.den) (a2 : Int) : evF (c139 N) h139 Tryz.f139 as139 rs139 N (a1, a2, ()) = X139 N a1 a2 :=
  (show evF (c139 N) h139 Tryz.f139 as139 rs139 N (a1, a2, ()) =
    X139.l2.ce N [] N (X139.l2.t a1 a2 0) (X139.l2.h a1 a2 0) by kernel_rfl).trans (by simp only [X139.l2.e]; try rfl)
theorem X139.p (N : Nat) : PFun Tryz.prog gl 139 as139 rs139 (fun x => X139 N x.1 x.2.1) :=
  PFun.ev (c := c139 N) ⟨mixed, tiok, fun f k h => (by simp only [c139] at h; split at h <;> first | (cases h; done) | (cases h; first | exact X136.p N)), fun f k h => (by cases h), eqtok, fun t n f h => (by cases h)⟩ h139 (f := 139) (fn := Tryz.f139) (b := b139) (by kernel_rfl) (by kernel_rfl) (by kernel_rfl) (by kernel_rfl) (by decide) (fun x y h => ⟨N, (X139.ev N x.1 x.2.1).trans h⟩)
end Go.Eng.T
end
