/- Part of the proof: functions that the law reaches, each with the typed function that it computes. -/
import Derived.Test.YtadefgfohmkheaaGreatDoorP1
import Derived.Test.YtadefgfohmkheaaGreatDoorP7
noncomputable section
namespace Go.Eng.T
open Go.RowKit
open Go.Proofs
set_option linter.unusedVariables false
/- laws.markRecMessageS -/
abbrev as98 : List Sh := [.one (.sl true T160), .one (.int .i64)]
abbrev rs98 : Rs := .one (.one (.int .i64))
def h98 : Hint := { keep := fun | 2 => [0, 1, 5] | _ => [] }
def c98 (N : Nat) : Cfg := { ti := ti, gl := gl, eqt := eqt, meth := fun _ _ => none, con := fun | 35 => some ⟨as35, rs35, fun x => X35 N x.1⟩ | _ => none, mu := fun | 133 => some ⟨as133, rs133, fun x => X133 N x.1 x.2.1⟩ | _ => none, nfix := 1 }
def ds98 (a1 : List T160.den) (a2 : Int) : List D := [.ow 0, .val (.int .i64) a2]
def b98 : Code := match Tryz.f98.body with | some b => b | none => .skip
def X98.l2.t (p3 : Int) (p4 : Int) (p5 : List T160.den) : List (Nat × D) := [(0, .ow 0), (1, .val (.int .i64) p3), (5, .val (.int .i64) p4)]
def X98.l2.h (p3 : Int) (p4 : Int) (p5 : List T160.den) : List E := [.arr T160 p5]
def X98.l2 (N : Nat) (a1 : List T160.den) (a2 : Int)  : Nat → Int → Int → (List T160.den) → Option (Int × (List T160.den) × Int × Unit)
  | 0, _, _, _ => none
  | n + 1, p3, p4, p5 =>
    bif decide (p4 < (p5.length : Int)) then
      (if (0 : Int) ≤ p4 then (if p4 < (p5.length : Int) then Option.bind (p5[p4.toNat]?) fun v6 =>
      (if (0 : Int) ≤ p4 then (if p4 < ((p5.set p4.toNat (p3, v6.2)).length : Int) then Option.bind ((p5.set p4.toNat (p3, v6.2))[p4.toNat]?) fun v7 =>
      (if (0 : Int) ≤ p4 then (if p4 < (((p5.set p4.toNat (p3, v6.2)).set p4.toNat (v7.1, IntKind.i64.wrap (p3 + 1), v7.2.2)).length : Int) then Option.bind (((p5.set p4.toNat (p3, v6.2)).set p4.toNat (v7.1, IntKind.i64.wrap (p3 + 1), v7.2.2))[p4.toNat]?) fun v8 =>
      (if (0 : Int) ≤ p4 then (if p4 < ((((p5.set p4.toNat (p3, v6.2)).set p4.toNat (v7.1, IntKind.i64.wrap (p3 + 1), v7.2.2)).set p4.toNat (v8.1, v8.2.1, IntKind.i64.wrap ((IntKind.i64.wrap (p3 + 1)) + 1), v8.2.2.2)).length : Int) then Option.bind ((((p5.set p4.toNat (p3, v6.2)).set p4.toNat (v7.1, IntKind.i64.wrap (p3 + 1), v7.2.2)).set p4.toNat (v8.1, v8.2.1, IntKind.i64.wrap ((IntKind.i64.wrap (p3 + 1)) + 1), v8.2.2.2))[p4.toNat]?) fun v9 =>
      (if (0 : Int) ≤ p4 then (if p4 < (((((p5.set p4.toNat (p3, v6.2)).set p4.toNat (v7.1, IntKind.i64.wrap (p3 + 1), v7.2.2)).set p4.toNat (v8.1, v8.2.1, IntKind.i64.wrap ((IntKind.i64.wrap (p3 + 1)) + 1), v8.2.2.2)).set p4.toNat (v9.1, v9.2.1, v9.2.2.1, IntKind.i64.wrap ((IntKind.i64.wrap ((IntKind.i64.wrap (p3 + 1)) + 1)) + 1), v9.2.2.2.2)).length : Int) then Option.bind (((((p5.set p4.toNat (p3, v6.2)).set p4.toNat (v7.1, IntKind.i64.wrap (p3 + 1), v7.2.2)).set p4.toNat (v8.1, v8.2.1, IntKind.i64.wrap ((IntKind.i64.wrap (p3 + 1)) + 1), v8.2.2.2)).set p4.toNat (v9.1, v9.2.1, v9.2.2.1, IntKind.i64.wrap ((IntKind.i64.wrap ((IntKind.i64.wrap (p3 + 1)) + 1)) + 1), v9.2.2.2.2))[p4.toNat]?) fun v10 =>
      (if (0 : Int) ≤ p4 then (if p4 < ((((((p5.set p4.toNat (p3, v6.2)).set p4.toNat (v7.1, IntKind.i64.wrap (p3 + 1), v7.2.2)).set p4.toNat (v8.1, v8.2.1, IntKind.i64.wrap ((IntKind.i64.wrap (p3 + 1)) + 1), v8.2.2.2)).set p4.toNat (v9.1, v9.2.1, v9.2.2.1, IntKind.i64.wrap ((IntKind.i64.wrap ((IntKind.i64.wrap (p3 + 1)) + 1)) + 1), v9.2.2.2.2)).set p4.toNat (v10.1, v10.2.1, v10.2.2.1, v10.2.2.2.1, IntKind.i64.wrap ((IntKind.i64.wrap ((IntKind.i64.wrap ((IntKind.i64.wrap (p3 + 1)) + 1)) + 1)) + 1), v10.2.2.2.2.2)).length : Int) then Option.bind ((((((p5.set p4.toNat (p3, v6.2)).set p4.toNat (v7.1, IntKind.i64.wrap (p3 + 1), v7.2.2)).set p4.toNat (v8.1, v8.2.1, IntKind.i64.wrap ((IntKind.i64.wrap (p3 + 1)) + 1), v8.2.2.2)).set p4.toNat (v9.1, v9.2.1, v9.2.2.1, IntKind.i64.wrap ((IntKind.i64.wrap ((IntKind.i64.wrap (p3 + 1)) + 1)) + 1), v9.2.2.2.2)).set p4.toNat (v10.1, v10.2.1, v10.2.2.1, v10.2.2.2.1, IntKind.i64.wrap ((IntKind.i64.wrap ((IntKind.i64.wrap ((IntKind.i64.wrap (p3 + 1)) + 1)) + 1)) + 1), v10.2.2.2.2.2))[p4.toNat]?) fun v11 =>
      Option.bind (X35 N (IntKind.i64.wrap ((IntKind.i64.wrap ((IntKind.i64.wrap ((IntKind.i64.wrap ((IntKind.i64.wrap ((IntKind.i64.wrap (p3 + 1)) + 1)) + 1)) + 1)) + 1)) + 1))) fun v12 =>
      (if (0 : Int) ≤ p4 then (if p4 < (((((((p5.set p4.toNat (p3, v6.2)).set p4.toNat (v7.1, IntKind.i64.wrap (p3 + 1), v7.2.2)).set p4.toNat (v8.1, v8.2.1, IntKind.i64.wrap ((IntKind.i64.wrap (p3 + 1)) + 1), v8.2.2.2)).set p4.toNat (v9.1, v9.2.1, v9.2.2.1, IntKind.i64.wrap ((IntKind.i64.wrap ((IntKind.i64.wrap (p3 + 1)) + 1)) + 1), v9.2.2.2.2)).set p4.toNat (v10.1, v10.2.1, v10.2.2.1, v10.2.2.2.1, IntKind.i64.wrap ((IntKind.i64.wrap ((IntKind.i64.wrap ((IntKind.i64.wrap (p3 + 1)) + 1)) + 1)) + 1), v10.2.2.2.2.2)).set p4.toNat (v11.1, v11.2.1, v11.2.2.1, v11.2.2.2.1, v11.2.2.2.2.1, IntKind.i64.wrap ((IntKind.i64.wrap ((IntKind.i64.wrap ((IntKind.i64.wrap ((IntKind.i64.wrap (p3 + 1)) + 1)) + 1)) + 1)) + 1), v11.2.2.2.2.2.2)).length : Int) then Option.bind (((((((p5.set p4.toNat (p3, v6.2)).set p4.toNat (v7.1, IntKind.i64.wrap (p3 + 1), v7.2.2)).set p4.toNat (v8.1, v8.2.1, IntKind.i64.wrap ((IntKind.i64.wrap (p3 + 1)) + 1), v8.2.2.2)).set p4.toNat (v9.1, v9.2.1, v9.2.2.1, IntKind.i64.wrap ((IntKind.i64.wrap ((IntKind.i64.wrap (p3 + 1)) + 1)) + 1), v9.2.2.2.2)).set p4.toNat (v10.1, v10.2.1, v10.2.2.1, v10.2.2.2.1, IntKind.i64.wrap ((IntKind.i64.wrap ((IntKind.i64.wrap ((IntKind.i64.wrap (p3 + 1)) + 1)) + 1)) + 1), v10.2.2.2.2.2)).set p4.toNat (v11.1, v11.2.1, v11.2.2.1, v11.2.2.2.1, v11.2.2.2.2.1, IntKind.i64.wrap ((IntKind.i64.wrap ((IntKind.i64.wrap ((IntKind.i64.wrap ((IntKind.i64.wrap (p3 + 1)) + 1)) + 1)) + 1)) + 1), v11.2.2.2.2.2.2))[p4.toNat]?) fun v13 =>
      (if (0 : Int) ≤ p4 then (if p4 < ((((((((p5.set p4.toNat (p3, v6.2)).set p4.toNat (v7.1, IntKind.i64.wrap (p3 + 1), v7.2.2)).set p4.toNat (v8.1, v8.2.1, IntKind.i64.wrap ((IntKind.i64.wrap (p3 + 1)) + 1), v8.2.2.2)).set p4.toNat (v9.1, v9.2.1, v9.2.2.1, IntKind.i64.wrap ((IntKind.i64.wrap ((IntKind.i64.wrap (p3 + 1)) + 1)) + 1), v9.2.2.2.2)).set p4.toNat (v10.1, v10.2.1, v10.2.2.1, v10.2.2.2.1, IntKind.i64.wrap ((IntKind.i64.wrap ((IntKind.i64.wrap ((IntKind.i64.wrap (p3 + 1)) + 1)) + 1)) + 1), v10.2.2.2.2.2)).set p4.toNat (v11.1, v11.2.1, v11.2.2.1, v11.2.2.2.1, v11.2.2.2.2.1, IntKind.i64.wrap ((IntKind.i64.wrap ((IntKind.i64.wrap ((IntKind.i64.wrap ((IntKind.i64.wrap (p3 + 1)) + 1)) + 1)) + 1)) + 1), v11.2.2.2.2.2.2)).set p4.toNat (v13.1, v13.2.1, v13.2.2.1, v13.2.2.2.1, v13.2.2.2.2.1, v13.2.2.2.2.2.1, v12, v13.2.2.2.2.2.2.2)).length : Int) then Option.bind ((((((((p5.set p4.toNat (p3, v6.2)).set p4.toNat (v7.1, IntKind.i64.wrap (p3 + 1), v7.2.2)).set p4.toNat (v8.1, v8.2.1, IntKind.i64.wrap ((IntKind.i64.wrap (p3 + 1)) + 1), v8.2.2.2)).set p4.toNat (v9.1, v9.2.1, v9.2.2.1, IntKind.i64.wrap ((IntKind.i64.wrap ((IntKind.i64.wrap (p3 + 1)) + 1)) + 1), v9.2.2.2.2)).set p4.toNat (v10.1, v10.2.1, v10.2.2.1, v10.2.2.2.1, IntKind.i64.wrap ((IntKind.i64.wrap ((IntKind.i64.wrap ((IntKind.i64.wrap (p3 + 1)) + 1)) + 1)) + 1), v10.2.2.2.2.2)).set p4.toNat (v11.1, v11.2.1, v11.2.2.1, v11.2.2.2.1, v11.2.2.2.2.1, IntKind.i64.wrap ((IntKind.i64.wrap ((IntKind.i64.wrap ((IntKind.i64.wrap ((IntKind.i64.wrap (p3 + 1)) + 1)) + 1)) + 1)) + 1), v11.2.2.2.2.2.2)).set p4.toNat (v13.1, v13.2.1, v13.2.2.1, v13.2.2.2.1, v13.2.2.2.2.1, v13.2.2.2.2.2.1, v12, v13.2.2.2.2.2.2.2))[p4.toNat]?) fun v14 =>
      Option.bind (X133 N v14.2.2.2.2.2.2.2.1 (IntKind.i64.wrap ((IntKind.i64.wrap ((IntKind.i64.wrap ((IntKind.i64.wrap ((IntKind.i64.wrap ((IntKind.i64.wrap ((IntKind.i64.wrap (p3 + 1)) + 1)) + 1)) + 1)) + 1)) + 1)) + 1))) fun v15 =>
      X98.l2 N a1 a2 n v15.1 (IntKind.i64.wrap (p4 + 1)) ((((((((p5.set p4.toNat (p3, v6.2)).set p4.toNat (v7.1, IntKind.i64.wrap (p3 + 1), v7.2.2)).set p4.toNat (v8.1, v8.2.1, IntKind.i64.wrap ((IntKind.i64.wrap (p3 + 1)) + 1), v8.2.2.2)).set p4.toNat (v9.1, v9.2.1, v9.2.2.1, IntKind.i64.wrap ((IntKind.i64.wrap ((IntKind.i64.wrap (p3 + 1)) + 1)) + 1), v9.2.2.2.2)).set p4.toNat (v10.1, v10.2.1, v10.2.2.1, v10.2.2.2.1, IntKind.i64.wrap ((IntKind.i64.wrap ((IntKind.i64.wrap ((IntKind.i64.wrap (p3 + 1)) + 1)) + 1)) + 1), v10.2.2.2.2.2)).set p4.toNat (v11.1, v11.2.1, v11.2.2.1, v11.2.2.2.1, v11.2.2.2.2.1, IntKind.i64.wrap ((IntKind.i64.wrap ((IntKind.i64.wrap ((IntKind.i64.wrap ((IntKind.i64.wrap (p3 + 1)) + 1)) + 1)) + 1)) + 1), v11.2.2.2.2.2.2)).set p4.toNat (v13.1, v13.2.1, v13.2.2.1, v13.2.2.2.1, v13.2.2.2.2.1, v13.2.2.2.2.2.1, v12, v13.2.2.2.2.2.2.2)).set p4.toNat (v14.1, v14.2.1, v14.2.2.1, v14.2.2.2.1, v14.2.2.2.2.1, v14.2.2.2.2.2.1, v14.2.2.2.2.2.2.1, v15.2.1, v14.2.2.2.2.2.2.2.2)) else none) else none) else none) else none) else none) else none) else none) else none) else none) else none) else none) else none) else none) else none) else none) else none)
    else some (p3, p5, a2, ())
def X98.l2.ce (N : Nat) (a1 : List T160.den) (a2 : Int) (oc : List (Nat × (List (Nat × D) → List E → Option (Int × (List T160.den) × Int × Unit)))) : Nat → List (Nat × D) → List E → Option (Int × (List T160.den) × Int × Unit) := loopAt (c98 N) h98 N (endK (c98 N) Tryz.f98 (mvRsM rs98 as98 (ds98 a1 a2))) [.b, .a, .b, .a] b98 oc 1
theorem X98.l2.s (N n : Nat)  (a1 : List T160.den) (a2 : Int) (p3 : Int) (p4 : Int) (p5 : List T160.den) : X98.l2.ce N a1 a2 [] (n + 1) (X98.l2.t p3 p4 p5) (X98.l2.h p3 p4 p5) =
    bif decide (p4 < (p5.length : Int)) then
      (if (0 : Int) ≤ p4 then (if p4 < (p5.length : Int) then Option.bind (p5[p4.toNat]?) fun v6 =>
      (if (0 : Int) ≤ p4 then (if p4 < ((p5.set p4.toNat (p3, v6.2)).length : Int) then Option.bind ((p5.set p4.toNat (p3, v6.2))[p4.toNat]?) fun v7 =>
      (if (0 : Int) ≤ p4 then (if p4 < (((p5.set p4.toNat (p3, v6.2)).set p4.toNat (v7.1, IntKind.i64.wrap (p3 + 1), v7.2.2)).length : Int) then Option.bind (((p5.set p4.toNat (p3, v6.2)).set p4.toNat (v7.1, IntKind.i64.wrap (p3 + 1), v7.2.2))[p4.toNat]?) fun v8 =>
      (if (0 : Int) ≤ p4 then (if p4 < ((((p5.set p4.toNat (p3, v6.2)).set p4.toNat (v7.1, IntKind.i64.wrap (p3 + 1), v7.2.2)).set p4.toNat (v8.1, v8.2.1, IntKind.i64.wrap ((IntKind.i64.wrap (p3 + 1)) + 1), v8.2.2.2)).length : Int) then Option.bind ((((p5.set p4.toNat (p3, v6.2)).set p4.toNat (v7.1, IntKind.i64.wrap (p3 + 1), v7.2.2)).set p4.toNat (v8.1, v8.2.1, IntKind.i64.wrap ((IntKind.i64.wrap (p3 + 1)) + 1), v8.2.2.2))[p4.toNat]?) fun v9 =>
      (if (0 : Int) ≤ p4 then (if p4 < (((((p5.set p4.toNat (p3, v6.2)).set p4.toNat (v7.1, IntKind.i64.wrap (p3 + 1), v7.2.2)).set p4.toNat (v8.1, v8.2.1, IntKind.i64.wrap ((IntKind.i64.wrap (p3 + 1)) + 1), v8.2.2.2)).set p4.toNat (v9.1, v9.2.1, v9.2.2.1, IntKind.i64.wrap ((IntKind.i64.wrap ((IntKind.i64.wrap (p3 + 1)) + 1)) + 1), v9.2.2.2.2)).length : Int) then Option.bind (((((p5.set p4.toNat (p3, v6.2)).set p4.toNat (v7.1, IntKind.i64.wrap (p3 + 1), v7.2.2)).set p4.toNat (v8.1, v8.2.1, IntKind.i64.wrap ((IntKind.i64.wrap (p3 + 1)) + 1), v8.2.2.2)).set p4.toNat (v9.1, v9.2.1, v9.2.2.1, IntKind.i64.wrap ((IntKind.i64.wrap ((IntKind.i64.wrap (p3 + 1)) + 1)) + 1), v9.2.2.2.2))[p4.toNat]?) fun v10 =>
      (if (0 : Int) ≤ p4 then (if p4 < ((((((p5.set p4.toNat (p3, v6.2)).set p4.toNat (v7.1, IntKind.i64.wrap (p3 + 1), v7.2.2)).set p4.toNat (v8.1, v8.2.1, IntKind.i64.wrap ((IntKind.i64.wrap (p3 + 1)) + 1), v8.2.2.2)).set p4.toNat (v9.1, v9.2.1, v9.2.2.1, IntKind.i64.wrap ((IntKind.i64.wrap ((IntKind.i64.wrap (p3 + 1)) + 1)) + 1), v9.2.2.2.2)).set p4.toNat (v10.1, v10.2.1, v10.2.2.1, v10.2.2.2.1, IntKind.i64.wrap ((IntKind.i64.wrap ((IntKind.i64.wrap ((IntKind.i64.wrap (p3 + 1)) + 1)) + 1)) + 1), v10.2.2.2.2.2)).length : Int) then Option.bind ((((((p5.set p4.toNat (p3, v6.2)).set p4.toNat (v7.1, IntKind.i64.wrap (p3 + 1), v7.2.2)).set p4.toNat (v8.1, v8.2.1, IntKind.i64.wrap ((IntKind.i64.wrap (p3 + 1)) + 1), v8.2.2.2)).set p4.toNat (v9.1, v9.2.1, v9.2.2.1, IntKind.i64.wrap ((IntKind.i64.wrap ((IntKind.i64.wrap (p3 + 1)) + 1)) + 1), v9.2.2.2.2)).set p4.toNat (v10.1, v10.2.1, v10.2.2.1, v10.2.2.2.1, IntKind.i64.wrap ((IntKind.i64.wrap ((IntKind.i64.wrap ((IntKind.i64.wrap (p3 + 1)) + 1)) + 1)) + 1), v10.2.2.2.2.2))[p4.toNat]?) fun v11 =>
      Option.bind (X35 N (IntKind.i64.wrap ((IntKind.i64.wrap ((IntKind.i64.wrap ((IntKind.i64.wrap ((IntKind.i64.wrap ((IntKind.i64.wrap (p3 + 1)) + 1)) + 1)) + 1)) + 1)) + 1))) fun v12 =>
      (if (0 : Int) ≤ p4 then (if p4 < (((((((p5.set p4.toNat (p3, v6.2)).set p4.toNat (v7.1, IntKind.i64.wrap (p3 + 1), v7.2.2)).set p4.toNat (v8.1, v8.2.1, IntKind.i64.wrap ((IntKind.i64.wrap (p3 + 1)) + 1), v8.2.2.2)).set p4.toNat (v9.1, v9.2.1, v9.2.2.1, IntKind.i64.wrap ((IntKind.i64.wrap ((IntKind.i64.wrap (p3 + 1)) + 1)) + 1), v9.2.2.2.2)).set p4.toNat (v10.1, v10.2.1, v10.2.2.1, v10.2.2.2.1, IntKind.i64.wrap ((IntKind.i64.wrap ((IntKind.i64.wrap ((IntKind.i64.wrap (p3 + 1)) + 1)) + 1)) + 1), v10.2.2.2.2.2)).set p4.toNat (v11.1, v11.2.1, v11.2.2.1, v11.2.2.2.1, v11.2.2.2.2.1, IntKind.i64.wrap ((IntKind.i64.wrap ((IntKind.i64.wrap ((IntKind.i64.wrap ((IntKind.i64.wrap (p3 + 1)) + 1)) + 1)) + 1)) + 1), v11.2.2.2.2.2.2)).length : Int) then Option.bind (((((((p5.set p4.toNat (p3, v6.2)).set p4.toNat (v7.1, IntKind.i64.wrap (p3 + 1), v7.2.2)).set p4.toNat (v8.1, v8.2.1, IntKind.i64.wrap ((IntKind.i64.wrap (p3 + 1)) + 1), v8.2.2.2)).set p4.toNat (v9.1, v9.2.1, v9.2.2.1, IntKind.i64.wrap ((IntKind.i64.wrap ((IntKind.i64.wrap (p3 + 1)) + 1)) + 1), v9.2.2.2.2)).set p4.toNat (v10.1, v10.2.1, v10.2.2.1, v10.2.2.2.1, IntKind.i64.wrap ((IntKind.i64.wrap ((IntKind.i64.wrap ((IntKind.i64.wrap (p3 + 1)) + 1)) + 1)) + 1), v10.2.2.2.2.2)).set p4.toNat (v11.1, v11.2.1, v11.2.2.1, v11.2.2.2.1, v11.2.2.2.2.1, IntKind.i64.wrap ((IntKind.i64.wrap ((IntKind.i64.wrap ((IntKind.i64.wrap ((IntKind.i64.wrap (p3 + 1)) + 1)) + 1)) + 1)) + 1), v11.2.2.2.2.2.2))[p4.toNat]?) fun v13 =>
      (if (0 : Int) ≤ p4 then (if p4 < ((((((((p5.set p4.toNat (p3, v6.2)).set p4.toNat (v7.1, IntKind.i64.wrap (p3 + 1), v7.2.2)).set p4.toNat (v8.1, v8.2.1, IntKind.i64.wrap ((IntKind.i64.wrap (p3 + 1)) + 1), v8.2.2.2)).set p4.toNat (v9.1, v9.2.1, v9.2.2.1, IntKind.i64.wrap ((IntKind.i64.wrap ((IntKind.i64.wrap (p3 + 1)) + 1)) + 1), v9.2.2.2.2)).set p4.toNat (v10.1, v10.2.1, v10.2.2.1, v10.2.2.2.1, IntKind.i64.wrap ((IntKind.i64.wrap ((IntKind.i64.wrap ((IntKind.i64.wrap (p3 + 1)) + 1)) + 1)) + 1), v10.2.2.2.2.2)).set p4.toNat (v11.1, v11.2.1, v11.2.2.1, v11.2.2.2.1, v11.2.2.2.2.1, IntKind.i64.wrap ((IntKind.i64.wrap ((IntKind.i64.wrap ((IntKind.i64.wrap ((IntKind.i64.wrap (p3 + 1)) + 1)) + 1)) + 1)) + 1), v11.2.2.2.2.2.2)).set p4.toNat (v13.1, v13.2.1, v13.2.2.1, v13.2.2.2.1, v13.2.2.2.2.1, v13.2.2.2.2.2.1, v12, v13.2.2.2.2.2.2.2)).length : Int) then Option.bind ((((((((p5.set p4.toNat (p3, v6.2)).set p4.toNat (v7.1, IntKind.i64.wrap (p3 + 1), v7.2.2)).set p4.toNat (v8.1, v8.2.1, IntKind.i64.wrap ((IntKind.i64.wrap (p3 + 1)) + 1), v8.2.2.2)).set p4.toNat (v9.1, v9.2.1, v9.2.2.1, IntKind.i64.wrap ((IntKind.i64.wrap ((IntKind.i64.wrap (p3 + 1)) + 1)) + 1), v9.2.2.2.2)).set p4.toNat (v10.1, v10.2.1, v10.2.2.1, v10.2.2.2.1, IntKind.i64.wrap ((IntKind.i64.wrap ((IntKind.i64.wrap ((IntKind.i64.wrap (p3 + 1)) + 1)) + 1)) + 1), v10.2.2.2.2.2)).set p4.toNat (v11.1, v11.2.1, v11.2.2.1, v11.2.2.2.1, v11.2.2.2.2.1, IntKind.i64.wrap ((IntKind.i64.wrap ((IntKind.i64.wrap ((IntKind.i64.wrap ((IntKind.i64.wrap (p3 + 1)) + 1)) + 1)) + 1)) + 1), v11.2.2.2.2.2.2)).set p4.toNat (v13.1, v13.2.1, v13.2.2.1, v13.2.2.2.1, v13.2.2.2.2.1, v13.2.2.2.2.2.1, v12, v13.2.2.2.2.2.2.2))[p4.toNat]?) fun v14 =>
      Option.bind (X133 N v14.2.2.2.2.2.2.2.1 (IntKind.i64.wrap ((IntKind.i64.wrap ((IntKind.i64.wrap ((IntKind.i64.wrap ((IntKind.i64.wrap ((IntKind.i64.wrap ((IntKind.i64.wrap (p3 + 1)) + 1)) + 1)) + 1)) + 1)) + 1)) + 1))) fun v15 =>
      X98.l2.ce N a1 a2 [] n (X98.l2.t v15.1 (IntKind.i64.wrap (p4 + 1)) ((((((((p5.set p4.toNat (p3, v6.2)).set p4.toNat (v7.1, IntKind.i64.wrap (p3 + 1), v7.2.2)).set p4.toNat (v8.1, v8.2.1, IntKind.i64.wrap ((IntKind.i64.wrap (p3 + 1)) + 1), v8.2.2.2)).set p4.toNat (v9.1, v9.2.1, v9.2.2.1, IntKind.i64.wrap ((IntKind.i64.wrap ((IntKind.i64.wrap (p3 + 1)) + 1)) + 1), v9.2.2.2.2)).set p4.toNat (v10.1, v10.2.1, v10.2.2.1, v10.2.2.2.1, IntKind.i64.wrap ((IntKind.i64.wrap ((IntKind.i64.wrap ((IntKind.i64.wrap (p3 + 1)) + 1)) + 1)) + 1), v10.2.2.2.2.2)).set p4.toNat (v11.1, v11.2.1, v11.2.2.1, v11.2.2.2.1, v11.2.2.2.2.1, IntKind.i64.wrap ((IntKind.i64.wrap ((IntKind.i64.wrap ((IntKind.i64.wrap ((IntKind.i64.wrap (p3 + 1)) + 1)) + 1)) + 1)) + 1), v11.2.2.2.2.2.2)).set p4.toNat (v13.1, v13.2.1, v13.2.2.1, v13.2.2.2.1, v13.2.2.2.2.1, v13.2.2.2.2.2.1, v12, v13.2.2.2.2.2.2.2)).set p4.toNat (v14.1, v14.2.1, v14.2.2.1, v14.2.2.2.1, v14.2.2.2.2.1, v14.2.2.2.2.2.1, v14.2.2.2.2.2.2.1, v15.2.1, v14.2.2.2.2.2.2.2.2))) (X98.l2.h v15.1 (IntKind.i64.wrap (p4 + 1)) ((((((((p5.set p4.toNat (p3, v6.2)).set p4.toNat (v7.1, IntKind.i64.wrap (p3 + 1), v7.2.2)).set p4.toNat (v8.1, v8.2.1, IntKind.i64.wrap ((IntKind.i64.wrap (p3 + 1)) + 1), v8.2.2.2)).set p4.toNat (v9.1, v9.2.1, v9.2.2.1, IntKind.i64.wrap ((IntKind.i64.wrap ((IntKind.i64.wrap (p3 + 1)) + 1)) + 1), v9.2.2.2.2)).set p4.toNat (v10.1, v10.2.1, v10.2.2.1, v10.2.2.2.1, IntKind.i64.wrap ((IntKind.i64.wrap ((IntKind.i64.wrap ((IntKind.i64.wrap (p3 + 1)) + 1)) + 1)) + 1), v10.2.2.2.2.2)).set p4.toNat (v11.1, v11.2.1, v11.2.2.1, v11.2.2.2.1, v11.2.2.2.2.1, IntKind.i64.wrap ((IntKind.i64.wrap ((IntKind.i64.wrap ((IntKind.i64.wrap ((IntKind.i64.wrap (p3 + 1)) + 1)) + 1)) + 1)) + 1), v11.2.2.2.2.2.2)).set p4.toNat (v13.1, v13.2.1, v13.2.2.1, v13.2.2.2.1, v13.2.2.2.2.1, v13.2.2.2.2.2.1, v12, v13.2.2.2.2.2.2.2)).set p4.toNat (v14.1, v14.2.1, v14.2.2.1, v14.2.2.2.1, v14.2.2.2.2.1, v14.2.2.2.2.2.1, v14.2.2.2.2.2.2.1, v15.2.1, v14.2.2.2.2.2.2.2.2))) else none) else none) else none) else none) else none) else none) else none) else none) else none) else none) else none) else none) else none) else none) else none) else none)
    else some (p3, p5, a2, ()) := by kernel_rfl
theorem X98.l2.e (N : Nat)  (a1 : List T160.den) (a2 : Int) : ∀ (n : Nat) (p3 : Int) (p4 : Int) (p5 : List T160.den), X98.l2.ce N a1 a2 [] n (X98.l2.t p3 p4 p5) (X98.l2.h p3 p4 p5) = X98.l2 N a1 a2 n p3 p4 p5
  | 0, _, _, _ => rfl
  | n + 1, p3, p4, p5 => by rw [X98.l2.s, X98.l2]; (try simp only [X98.l2.e N a1 a2 n])
def X98 (N : Nat) (a1 : List T160.den) (a2 : Int) : Option (Int × (List T160.den) × Int × Unit) :=
  X98.l2 N a1 a2 N a2 0 a1
theorem X98.ev (N : Nat) (a1 : List T160.den) (a2 : Int) : evM (c98 N) h98 Tryz.f98 as98 rs98 N (a1, a2, ()) = X98 N a1 a2 :=
  (show evM (c98 N) h98 Tryz.f98 as98 rs98 N (a1, a2, ()) =
    X98.l2.ce N a1 a2 [] N (X98.l2.t a2 0 a1) (X98.l2.h a2 0 a1) by kernel_rfl).trans (by simp only [X98.l2.e]; try rfl)
theorem X98.p (N : Nat) : PMut Tryz.prog gl 98 as98 rs98 (fun x => X98 N x.1 x.2.1) :=
  PMut.ev (c := c98 N) ⟨mixed, tiok, fun f k h => (by simp only [c98] at h; split at h <;> first | (cases h; done) | (cases h; first | exact X35.p N)), fun f k h => (by simp only [c98] at h; split at h <;> first | (cases h; done) | (cases h; first | exact X133.p N)), eqtok, fun t n f h => (by cases h)⟩ h98 (f := 98) (fn := Tryz.f98) (b := b98) (by kernel_rfl) (by kernel_rfl) (by kernel_rfl) (by kernel_rfl) (by decide) (fun x y h => ⟨N, (X98.ev N x.1 x.2.1).trans h⟩) (by intro x ds0 H0 h; cases h; rfl)
end Go.Eng.T
end
noncomputable section
namespace Go.Eng.T
open Go.RowKit
open Go.Proofs
set_option linter.unusedVariables false
/- laws.markStringS -/
abbrev as134 : List Sh := [.one (.sl true .str), .one (.int .i64)]
abbrev rs134 : Rs := .one (.one (.int .i64))
def h134 : Hint := { keep := fun | 2 => [0, 1, 5] | _ => [] }
def c134 (N : Nat) : Cfg := { ti := ti, gl := gl, eqt := eqt, meth := fun _ _ => none, con := fun | 35 => some ⟨as35, rs35, fun x => X35 N x.1⟩ | _ => none, nfix := 1 }
def ds134 (a1 : List ByteArray) (a2 : Int) : List D := [.ow 0, .val (.int .i64) a2]
def b134 : Code := match Tryz.f134.body with | some b => b | none => .skip
def X134.l2.t (p3 : Int) (p4 : Int) (p5 : List ByteArray) : List (Nat × D) := [(0, .ow 0), (1, .val (.int .i64) p3), (5, .val (.int .i64) p4)]
def X134.l2.h (p3 : Int) (p4 : Int) (p5 : List ByteArray) : List E := [.arr .str p5]
def X134.l2 (N : Nat) (a1 : List ByteArray) (a2 : Int)  : Nat → Int → Int → (List ByteArray) → Option (Int × (List ByteArray) × Int × Unit)
  | 0, _, _, _ => none
  | n + 1, p3, p4, p5 =>
    bif decide (p4 < (p5.length : Int)) then
      Option.bind (X35 N p3) fun v6 =>
      (if (0 : Int) ≤ p4 then (if p4 < (p5.length : Int) then Option.bind (p5[p4.toNat]?) fun v7 =>
      X134.l2 N a1 a2 n (IntKind.i64.wrap (p3 + 1)) (IntKind.i64.wrap (p4 + 1)) (p5.set p4.toNat v6) else none) else none)
    else some (p3, p5, a2, ())
def X134.l2.ce (N : Nat) (a1 : List ByteArray) (a2 : Int) (oc : List (Nat × (List (Nat × D) → List E → Option (Int × (List ByteArray) × Int × Unit)))) : Nat → List (Nat × D) → List E → Option (Int × (List ByteArray) × Int × Unit) := loopAt (c134 N) h134 N (endK (c134 N) Tryz.f134 (mvRsM rs134 as134 (ds134 a1 a2))) [.b, .a, .b, .a] b134 oc 1
theorem X134.l2.s (N n : Nat)  (a1 : List ByteArray) (a2 : Int) (p3 : Int) (p4 : Int) (p5 : List ByteArray) : X134.l2.ce N a1 a2 [] (n + 1) (X134.l2.t p3 p4 p5) (X134.l2.h p3 p4 p5) =
    bif decide (p4 < (p5.length : Int)) then
      Option.bind (X35 N p3) fun v6 =>
      (if (0 : Int) ≤ p4 then (if p4 < (p5.length : Int) then Option.bind (p5[p4.toNat]?) fun v7 =>
      X134.l2.ce N a1 a2 [] n (X134.l2.t (IntKind.i64.wrap (p3 + 1)) (IntKind.i64.wrap (p4 + 1)) (p5.set p4.toNat v6)) (X134.l2.h (IntKind.i64.wrap (p3 + 1)) (IntKind.i64.wrap (p4 + 1)) (p5.set p4.toNat v6)) else none) else none)
    else some (p3, p5, a2, ()) := by kernel_rfl
theorem X134.l2.e (N : Nat)  (a1 : List ByteArray) (a2 : Int) : ∀ (n : Nat) (p3 : Int) (p4 : Int) (p5 : List ByteArray), X134.l2.ce N a1 a2 [] n (X134.l2.t p3 p4 p5) (X134.l2.h p3 p4 p5) = X134.l2 N a1 a2 n p3 p4 p5
  | 0, _, _, _ => rfl
  | n + 1, p3, p4, p5 => by rw [X134.l2.s, X134.l2]; (try simp only [X134.l2.e N a1 a2 n])
def X134 (N : Nat) (a1 : List ByteArray) (a2 : Int) : Option (Int × (List ByteArray) × Int × Unit) :=
  X134.l2 N a1 a2 N a2 0 a1
theorem X134.ev (N : Nat) (a1 : List ByteArray) (a2 : Int) : evM (c134 N) h134 Tryz.f134 as134 rs134 N (a1, a2, ()) = X134 N a1 a2 :=
  (show evM (c134 N) h134 Tryz.f134 as134 rs134 N (a1, a2, ()) =
    X134.l2.ce N a1 a2 [] N (X134.l2.t a2 0 a1) (X134.l2.h a2 0 a1) by kernel_rfl).trans (by simp only [X134.l2.e]; try rfl)
theorem X134.p (N : Nat) : PMut Tryz.prog gl 134 as134 rs134 (fun x => X134 N x.1 x.2.1) :=
  PMut.ev (c := c134 N) ⟨mixed, tiok, fun f k h => (by simp only [c134] at h; split at h <;> first | (cases h; done) | (cases h; first | exact X35.p N)), fun f k h => (by cases h), eqtok, fun t n f h => (by cases h)⟩ h134 (f := 134) (fn := Tryz.f134) (b := b134) (by kernel_rfl) (by kernel_rfl) (by kernel_rfl) (by kernel_rfl) (by decide) (fun x y h => ⟨N, (X134.ev N x.1 x.2.1).trans h⟩) (by intro x ds0 H0 h; cases h; rfl)
end Go.Eng.T
end
noncomputable section
namespace Go.Eng.T
open Go.RowKit
open Go.Proofs
set_option linter.unusedVariables false
/- laws.markRecAckS -/
abbrev as135 : List Sh := [.one (.sl true T198), .one (.int .i64)]
abbrev rs135 : Rs := .one (.one (.int .i64))
def h135 : Hint := { keep := fun | 2 => [0, 1, 5] | _ => [] }
def c135 (N : Nat) : Cfg := { ti := ti, gl := gl, eqt := eqt, meth := fun _ _ => none, con := fun _ => none, mu := fun | 60 => some ⟨as60, rs60, fun x => X60 N x.1 x.2.1⟩ | _ => none, nfix := 1 }
def ds135 (a1 : List T198.den) (a2 : Int) : List D := [.ow 0, .val (.int .i64) a2]
def b135 : Code := match Tryz.f135.body with | some b => b | none => .skip
def X135.l2.t (p3 : Int) (p4 : Int) (p5 : List T198.den) : List (Nat × D) := [(0, .ow 0), (1, .val (.int .i64) p3), (5, .val (.int .i64) p4)]
def X135.l2.h (p3 : Int) (p4 : Int) (p5 : List T198.den) : List E := [.arr T198 p5]
def X135.l2 (N : Nat) (a1 : List T198.den) (a2 : Int)  : Nat → Int → Int → (List T198.den) → Option (Int × (List T198.den) × Int × Unit)
  | 0, _, _, _ => none
  | n + 1, p3, p4, p5 =>
    bif decide (p4 < (p5.length : Int)) then
      (if (0 : Int) ≤ p4 then (if p4 < (p5.length : Int) then Option.bind (p5[p4.toNat]?) fun v6 =>
      (if (0 : Int) ≤ p4 then (if p4 < ((p5.set p4.toNat (p3, v6.2)).length : Int) then Option.bind ((p5.set p4.toNat (p3, v6.2))[p4.toNat]?) fun v7 =>
      Option.bind (X60 N v7.2.1 (IntKind.i64.wrap (p3 + 1))) fun v8 =>
      X135.l2 N a1 a2 n v8.1 (IntKind.i64.wrap (p4 + 1)) ((p5.set p4.toNat (p3, v6.2)).set p4.toNat (v7.1, v8.2.1, v7.2.2)) else none) else none) else none) else none)
    else some (p3, p5, a2, ())
def X135.l2.ce (N : Nat) (a1 : List T198.den) (a2 : Int) (oc : List (Nat × (List (Nat × D) → List E → Option (Int × (List T198.den) × Int × Unit)))) : Nat → List (Nat × D) → List E → Option (Int × (List T198.den) × Int × Unit) := loopAt (c135 N) h135 N (endK (c135 N) Tryz.f135 (mvRsM rs135 as135 (ds135 a1 a2))) [.b, .a, .b, .a] b135 oc 1
theorem X135.l2.s (N n : Nat)  (a1 : List T198.den) (a2 : Int) (p3 : Int) (p4 : Int) (p5 : List T198.den) : X135.l2.ce N a1 a2 [] (n + 1) (X135.l2.t p3 p4 p5) (X135.l2.h p3 p4 p5) =
    bif decide (p4 < (p5.length : Int)) then
      (if (0 : Int) ≤ p4 then (if p4 < (p5.length : Int) then Option.bind (p5[p4.toNat]?) fun v6 =>
      (if (0 : Int) ≤ p4 then (if p4 < ((p5.set p4.toNat (p3, v6.2)).length : Int) then Option.bind ((p5.set p4.toNat (p3, v6.2))[p4.toNat]?) fun v7 =>
      Option.bind (X60 N v7.2.1 (IntKind.i64.wrap (p3 + 1))) fun v8 =>
      X135.l2.ce N a1 a2 [] n (X135.l2.t v8.1 (IntKind.i64.wrap (p4 + 1)) ((p5.set p4.toNat (p3, v6.2)).set p4.toNat (v7.1, v8.2.1, v7.2.2))) (X135.l2.h v8.1 (IntKind.i64.wrap (p4 + 1)) ((p5.set p4.toNat (p3, v6.2)).set p4.toNat (v7.1, v8.2.1, v7.2.2))) else none) else none) else none) else none)
    else some (p3, p5, a2, ()) := by kernel_rfl
theorem X135.l2.e (N : Nat)  (a1 : List T198.den) (a2 : Int) : ∀ (n : Nat) (p3 : Int) (p4 : Int) (p5 : List T198.den), X135.l2.ce N a1 a2 [] n (X135.l2.t p3 p4 p5) (X135.l2.h p3 p4 p5) = X135.l2 N a1 a2 n p3 p4 p5
  | 0, _, _, _ => rfl
  | n + 1, p3, p4, p5 => by rw [X135.l2.s, X135.l2]; (try simp only [X135.l2.e N a1 a2 n])
def X135 (N : Nat) (a1 : List T198.den) (a2 : Int) : Option (Int × (List T198.den) × Int × Unit) :=
  X135.l2 N a1 a2 N a2 0 a1
theorem X135.ev (N : Nat) (a1 : List T198.den) (a2 : Int) : evM (c135 N) h135 Tryz.f135 as135 rs135 N (a1, a2, ()) = X135 N a1 a2 :=
  (show evM (c135 N) h135 Tryz.f135 as135 rs135 N (a1, a2, ()) =
    X135.l2.ce N a1 a2 [] N (X135.l2.t a2 0 a1) (X135.l2.h a2 0 a1) by kernel_rfl).trans (by simp only [X135.l2.e]; try rfl)
theorem X135.p (N : Nat) : PMut Tryz.prog gl 135 as135 rs135 (fun x => X135 N x.1 x.2.1) :=
  PMut.ev (c := c135 N) ⟨mixed, tiok, fun f k h => (by cases h), fun f k h => (by simp only [c135] at h; split at h <;> first | (cases h; done) | (cases h; first | exact X60.p N)), eqtok, fun t n f h => (by cases h)⟩ h135 (f := 135) (fn := Tryz.f135) (b := b135) (by kernel_rfl) (by kernel_rfl) (by kernel_rfl) (by kernel_rfl) (by decide) (fun x y h => ⟨N, (X135.ev N x.1 x.2.1).trans h⟩) (by intro x ds0 H0 h; cases h; rfl)
end Go.Eng.T
end
