/- Part of the proof: functions that the law reaches, each with the typed function that it computes. -/
import Derived.Test.YtadefgfohmkheaaGreatDoorP1
import Derived.Test.YtadefgfohmkheaaGreatDoorP10
import Derived.Test.YtadefgfohmkheaaGreatDoorP7
import Derived.Test.YtadefgfohmkheaaGreatDoorP3
import Derived.Test.YtadefgfohmkheaaGreatDoorP4
import Derived.Test.YtadefgfohmkheaaGreatDoorP6
noncomputable section
namespace Go.Eng.T
open Go.RowKit
open Go.Proofs
set_option linter.unusedVariables false
/- laws.heldRecorderS -/
abbrev as102 : List Sh := [.one (.sl false T114r), .one (.int .i64)]
abbrev rs102 : Rs := .one (.one (.int .i64))
def h102 : Hint := { keep := fun | 2 => [0, 1, 5] | _ => [] }
def c102 (N : Nat) : Cfg := { ti := ti, gl := gl, eqt := eqt, meth := fun _ _ => none, con := fun | 103 => some ⟨as103, rs103, fun x => X103 N x.1 x.2.1⟩ | 136 => some ⟨as136, rs136, fun x => X136 N x.1 x.2.1⟩ | 137 => some ⟨as137, rs137, fun x => X137 N x.1 x.2.1⟩ | 138 => some ⟨as138, rs138, fun x => X138 N x.1 x.2.1⟩ | 139 => some ⟨as139, rs139, fun x => X139 N x.1 x.2.1⟩ | _ => none }
def b102 : Code := match Tryz.f102.body with | some b => b | none => .skip
def X102.l2.t (a1 : List T114.den) (p3 : Int) (p4 : Int) : List (Nat × D) := [(0, .val (.sl false T114r) a1), (1, .val (.int .i64) p3), (5, .val (.int .i64) p4)]
def X102.l2.h (a1 : List T114.den) (p3 : Int) (p4 : Int) : List E := []
def X102.l2 (N : Nat) (a1 : List T114.den)  : Nat → Int → Int → Option Int
  | 0, _, _ => none
  | n + 1, p3, p4 =>
    bif decide (p4 < (a1.length : Int)) then
      (if (0 : Int) ≤ p4 then Option.bind (a1[p4.toNat]?) fun v6 =>
      bif v6.1 != p3 then
        some (-1)
      else (if (0 : Int) ≤ p4 then Option.bind (a1[p4.toNat]?) fun v8 =>
      bif v8.2.1 != (IntKind.i64.wrap (p3 + 1)) then
        some (-1)
      else (if (0 : Int) ≤ p4 then Option.bind (a1[p4.toNat]?) fun v10 =>
      bif !(v10.2.2.1 == (((IntKind.i64.wrap ((IntKind.i64.wrap (p3 + 1)) + 1)).tmod 3) == 0)) then
        some (-1)
      else (if (0 : Int) ≤ p4 then Option.bind (a1[p4.toNat]?) fun v12 =>
      bif v12.2.2.2.1.1 != (IntKind.i64.wrap ((IntKind.i64.wrap ((IntKind.i64.wrap (p3 + 1)) + 1)) + 1)) then
        some (-1)
      else (if (0 : Int) ≤ p4 then Option.bind (a1[p4.toNat]?) fun v14 =>
      bif v14.2.2.2.1.2.1 != (IntKind.i64.wrap ((IntKind.i64.wrap ((IntKind.i64.wrap ((IntKind.i64.wrap (p3 + 1)) + 1)) + 1)) + 1)) then
        some (-1)
      else (if (0 : Int) ≤ p4 then Option.bind (a1[p4.toNat]?) fun v15 =>
      Option.bind (X137 N v15.2.2.2.1.2.2.1 (IntKind.i64.wrap ((IntKind.i64.wrap ((IntKind.i64.wrap ((IntKind.i64.wrap ((IntKind.i64.wrap (p3 + 1)) + 1)) + 1)) + 1)) + 1))) fun v16 =>
      bif decide (v16 < 0) then
        some (-1)
      else (if (0 : Int) ≤ p4 then Option.bind (a1[p4.toNat]?) fun v18 =>
      bif v18.2.2.2.2.1.1 != v16 then
        some (-1)
      else (if (0 : Int) ≤ p4 then Option.bind (a1[p4.toNat]?) fun v20 =>
      bif v20.2.2.2.2.1.2.1 != (IntKind.i64.wrap (v16 + 1)) then
        some (-1)
      else (if (0 : Int) ≤ p4 then Option.bind (a1[p4.toNat]?) fun v21 =>
      Option.bind (X137 N v21.2.2.2.2.1.2.2.1 (IntKind.i64.wrap ((IntKind.i64.wrap (v16 + 1)) + 1))) fun v22 =>
      bif decide (v22 < 0) then
        some (-1)
      else (if (0 : Int) ≤ p4 then Option.bind (a1[p4.toNat]?) fun v23 =>
      Option.bind (X103 N v23.2.2.2.2.2.1 v22) fun v24 =>
      bif decide (v24 < 0) then
        some (-1)
      else (if (0 : Int) ≤ p4 then Option.bind (a1[p4.toNat]?) fun v25 =>
      Option.bind (X138 N v25.2.2.2.2.2.2.1 v24) fun v26 =>
      bif decide (v26 < 0) then
        some (-1)
      else (if (0 : Int) ≤ p4 then Option.bind (a1[p4.toNat]?) fun v28 =>
      bif !(v28.2.2.2.2.2.2.2.1 == ((v26.tmod 3) == 0)) then
        some (-1)
      else (if (0 : Int) ≤ p4 then Option.bind (a1[p4.toNat]?) fun v30 =>
      bif !(v30.2.2.2.2.2.2.2.2.1 == (((IntKind.i64.wrap (v26 + 1)).tmod 3) == 0)) then
        some (-1)
      else (if (0 : Int) ≤ p4 then Option.bind (a1[p4.toNat]?) fun v32 =>
      bif v32.2.2.2.2.2.2.2.2.2.1 != (IntKind.i64.wrap ((IntKind.i64.wrap (v26 + 1)) + 1)) then
        some (-1)
      else (if (0 : Int) ≤ p4 then Option.bind (a1[p4.toNat]?) fun v33 =>
      Option.bind (X136 N v33.2.2.2.2.2.2.2.2.2.2.1 (IntKind.i64.wrap ((IntKind.i64.wrap ((IntKind.i64.wrap (v26 + 1)) + 1)) + 1))) fun v34 =>
      bif decide (v34 < 0) then
        some (-1)
      else (if (0 : Int) ≤ p4 then Option.bind (a1[p4.toNat]?) fun v35 =>
      Option.bind (X137 N v35.2.2.2.2.2.2.2.2.2.2.2.1 v34) fun v36 =>
      bif decide (v36 < 0) then
        some (-1)
      else (if (0 : Int) ≤ p4 then Option.bind (a1[p4.toNat]?) fun v37 =>
      Option.bind (X139 N v37.2.2.2.2.2.2.2.2.2.2.2.2.1 v36) fun v38 =>
      bif decide (v38 < 0) then
        some (-1)
      else (if (0 : Int) ≤ p4 then Option.bind (a1[p4.toNat]?) fun v39 =>
      bif v39.2.2.2.2.2.2.2.2.2.2.2.2.2.1 != v38 then
        some (-1)
      else X102.l2 N a1 n (IntKind.i64.wrap (v38 + 1)) (IntKind.i64.wrap (p4 + 1)) else none) else none) else none) else none) else none) else none) else none) else none) else none) else none) else none) else none) else none) else none) else none) else none) else none) else none)
    else some p3
def X102.l2.ce (N : Nat) (oc : List (Nat × (List (Nat × D) → List E → Option Int))) : Nat → List (Nat × D) → List E → Option Int := loopAt (c102 N) h102 N (endK (c102 N) Tryz.f102 (mvRs rs102)) [.b, .a, .b, .a] b102 oc 0
theorem X102.l2.s (N n : Nat)  (a1 : List T114.den) (p3 : Int) (p4 : Int) : X102.l2.ce N [] (n + 1) (X102.l2.t a1 p3 p4) (X102.l2.h a1 p3 p4) =
    bif decide (p4 < (a1.length : Int)) then
      (if (0 : Int) ≤ p4 then Option.bind (a1[p4.toNat]?) fun v6 =>
      bif v6.1 != p3 then
        some (-1)
      else (if (0 : Int) ≤ p4 then Option.bind (a1[p4.toNat]?) fun v8 =>
      bif v8.2.1 != (IntKind.i64.wrap (p3 + 1)) then
        some (-1)
      else (if (0 : Int) ≤ p4 then Option.bind (a1[p4.toNat]?) fun v10 =>
      bif !(v10.2.2.1 == (((IntKind.i64.wrap ((IntKind.i64.wrap (p3 + 1)) + 1)).tmod 3) == 0)) then
        some (-1)
      else (if (0 : Int) ≤ p4 then Option.bind (a1[p4.toNat]?) fun v12 =>
      bif v12.2.2.2.1.1 != (IntKind.i64.wrap ((IntKind.i64.wrap ((IntKind.i64.wrap (p3 + 1)) + 1)) + 1)) then
        some (-1)
      else (if (0 : Int) ≤ p4 then Option.bind (a1[p4.toNat]?) fun v14 =>
      bif v14.2.2.2.1.2.1 != (IntKind.i64.wrap ((IntKind.i64.wrap ((IntKind.i64.wrap ((IntKind.i64.wrap (p3 + 1)) + 1)) + 1)) + 1)) then
        some (-1)
      else (if (0 : Int) ≤ p4 then Option.bind (a1[p4.toNat]?) fun v15 =>
      Option.bind (X137 N v15.2.2.2.1.2.2.1 (IntKind.i64.wrap ((IntKind.i64.wrap ((IntKind.i64.wrap ((IntKind.i64.wrap ((IntKind.i64.wrap (p3 + 1)) + 1)) + 1)) + 1)) + 1))) fun v16 =>
      bif decide (v16 < 0) then
        some (-1)
      else (if (0 : Int) ≤ p4 then Option.bind (a1[p4.toNat]?) fun v18 =>
      bif v18.2.2.2.2.1.1 != v16 then
        some (-1)
      else (if (0 : Int) ≤ p4 then Option.bind (a1[p4.toNat]?) fun v20 =>
      bif v20.2.2.2.2.1.2.1 != (IntKind.i64.wrap (v16 + 1)) then
        some (-1)
      else (if (0 : Int) ≤ p4 then Option.bind (a1[p4.toNat]?) fun v21 =>
      Option.bind (X137 N v21.2.2.2.2.1.2.2.1 (IntKind.i64.wrap ((IntKind.i64.wrap (v16 + 1)) + 1))) fun v22 =>
      bif decide (v22 < 0) then
        some (-1)
      else (if (0 : Int) ≤ p4 then Option.bind (a1[p4.toNat]?) fun v23 =>
      Option.bind (X103 N v23.2.2.2.2.2.1 v22) fun v24 =>
      bif decide (v24 < 0) then
        some (-1)
      else (if (0 : Int) ≤ p4 then Option.bind (a1[p4.toNat]?) fun v25 =>
      Option.bind (X138 N v25.2.2.2.2.2.2.1 v24) fun v26 =>
      bif decide (v26 < 0) then
        some (-1)
      else (if (0 : Int) ≤ p4 then Option.bind (a1[p4.toNat]?) fun v28 =>
      bif !(v28.2.2.2.2.2.2.2.1 == ((v26.tmod 3) == 0)) then
        some (-1)
      else (if (0 : Int) ≤ p4 then Option.bind (a1[p4.toNat]?) fun v30 =>
      bif !(v30.2.2.2.2.2.2.2.2.1 == (((IntKind.i64.wrap (v26 + 1)).tmod 3) == 0)) then
        some (-1)
      else (if (0 : Int) ≤ p4 then Option.bind (a1[p4.toNat]?) fun v32 =>
      bif v32.2.2.2.2.2.2.2.2.2.1 != (IntKind.i64.wrap ((IntKind.i64.wrap (v26 + 1)) + 1)) then
        some (-1)
      else (if (0 : Int) ≤ p4 then Option.bind (a1[p4.toNat]?) fun v33 =>
      Option.bind (X136 N v33.2.2.2.2.2.2.2.2.2.2.1 (IntKind.i64.wrap ((IntKind.i64.wrap ((IntKind.i64.wrap (v26 + 1)) + 1)) + 1))) fun v34 =>
      bif decide (v34 < 0) then
        some (-1)
      else (if (0 : Int) ≤ p4 then Option.bind (a1[p4.toNat]?) fun v35 =>
      Option.bind (X137 N v35.2.2.2.2.2.2.2.2.2.2.2.1 v34) fun v36 =>
      bif decide (v36 < 0) then
        some (-1)
      else (if (0 : Int) ≤ p4 then Option.bind (a1[p4.toNat]?) fun v37 =>
      Option.bind (X139 N v37.2.2.2.2.2.2.2.2.2.2.2.2.1 v36) fun v38 =>
      bif decide (v38 < 0) then
        some (-1)
      else (if (0 : Int) ≤ p4 then Option.bind (a1[p4.toNat]?) fun v39 =>
      bif v39.2.2.2.2.2.2.2.2.2.2.2.2.2.1 != v38 then
        some (-1)
      else X102.l2.ce N [] n (X102.l2.t a1 (IntKind.i64.wrap (v38 + 1)) (IntKind.i64.wrap (p4 + 1))) (X102.l2.h a1 (IntKind.i64.wrap (v38 + 1)) (IntKind.i64.wrap (p4 + 1))) else none) else none) else none) else none) else none) else none) else none) else none) else none) else none) else none) else none) else none) else none) else none) else none) else none) else none)
    else some p3 := by kernel_rfl
theorem X102.l2.e (N : Nat)  (a1 : List T114.den) : ∀ (n : Nat) (p3 : Int) (p4 : Int), X102.l2.ce N [] n (X102.l2.t a1 p3 p4) (X102.l2.h a1 p3 p4) = X102.l2 N a1 n p3 p4
  | 0, _, _ => rfl
  | n + 1, p3, p4 => by rw [X102.l2.s, X102.l2]; (try simp only [X102.l2.e N a1 n])
def X102 (N : Nat) (a1 : List T114.den) (a2 : Int) : Option Int :=
  X102.l2 N a1 N a2 0
theorem X102.ev (N : Nat) (a1 : List T114.den) (a2 : Int) : evF (c102 N) h102 Tryz.f102 as102 rs102 N (a1, a2, ()) = X102 N a1 a2 :=
  (show evF (c102 N) h102 Tryz.f102 as102 rs102 N (a1, a2, ()) =
    X102.l2.ce N [] N (X102.l2.t a1 a2 0) (X102.l2.h a1 a2 0) by kernel_rfl).trans (by simp only [X102.l2.e]; try rfl)
theorem X102.p (N : Nat) : PFun Tryz.prog gl 102 as102 rs102 (fun x => X102 N x.1 x.2.1) :=
  PFun.ev (c := c102 N) ⟨mixed, tiok, fun f k h => (by simp only [c102] at h; split at h <;> first | (cases h; done) | (cases h; first | exact X103.p N | exact X136.p N | exact X137.p N | exact X138.p N | exact X139.p N)), fun f k h => (by cases h), eqtok, fun t n f h => (by cases h)⟩ h102 (f := 102) (fn := Tryz.f102) (b := b102) (by kernel_rfl) (by kernel_rfl) (by kernel_rfl) (by kernel_rfl) (by decide) (fun x y h => ⟨N, (X102.ev N x.1 x.2.1).trans h⟩)
end Go.Eng.T
end
noncomputable section
namespace Go.Eng.T
open Go.RowKit
open Go.Proofs
set_option linter.unusedVariables false
/- laws.heldRecFixS -/
abbrev as104 : List Sh := [.one (.sl false T218), .one (.int .i64)]
abbrev rs104 : Rs := .one (.one (.int .i64))
def h104 : Hint := { keep := fun | 2 => [0, 1, 5] | _ => [] }
def c104 (N : Nat) : Cfg := { ti := ti, gl := gl, eqt := eqt, meth := fun _ _ => none, con := fun | 35 => some ⟨as35, rs35, fun x => X35 N x.1⟩ | _ => none }
def b104 : Code := match Tryz.f104.body with | some b => b | none => .skip
def X104.l2.t (a1 : List T218.den) (p3 : Int) (p4 : Int) : List (Nat × D) := [(0, .val (.sl false T218) a1), (1, .val (.int .i64) p3), (5, .val (.int .i64) p4)]
def X104.l2.h (a1 : List T218.den) (p3 : Int) (p4 : Int) : List E := []
def X104.l2 (N : Nat) (a1 : List T218.den)  : Nat → Int → Int → Option Int
  | 0, _, _ => none
  | n + 1, p3, p4 =>
    bif decide (p4 < (a1.length : Int)) then
      (if (0 : Int) ≤ p4 then Option.bind (a1[p4.toNat]?) fun v6 =>
      bif v6.1 != p3 then
        some (-1)
      else (if (0 : Int) ≤ p4 then Option.bind (a1[p4.toNat]?) fun v7 =>
      Option.bind (X35 N (IntKind.i64.wrap (p3 + 1))) fun v8 =>
      bif !(v7.2.1.toList == v8.toList) then
        some (-1)
      else X104.l2 N a1 n (IntKind.i64.wrap ((IntKind.i64.wrap (p3 + 1)) + 1)) (IntKind.i64.wrap (p4 + 1)) else none) else none)
    else some p3
def X104.l2.ce (N : Nat) (oc : List (Nat × (List (Nat × D) → List E → Option Int))) : Nat → List (Nat × D) → List E → Option Int := loopAt (c104 N) h104 N (endK (c104 N) Tryz.f104 (mvRs rs104)) [.b, .a, .b, .a] b104 oc 0
theorem X104.l2.s (N n : Nat)  (a1 : List T218.den) (p3 : Int) (p4 : Int) : X104.l2.ce N [] (n + 1) (X104.l2.t a1 p3 p4) (X104.l2.h a1 p3 p4) =
    bif decide (p4 < (a1.length : Int)) then
      (if (0 : Int) ≤ p4 then Option.bind (a1[p4.toNat]?) fun v6 =>
      bif v6.1 != p3 then
        some (-1)
      else (if (0 : Int) ≤ p4 then Option.bind (a1[p4.toNat]?) fun v7 =>
      Option.bind (X35 N (IntKind.i64.wrap (p3 + 1))) fun v8 =>
      bif !(v7.2.1.toList == v8.toList) then
        some (-1)
      else X104.l2.ce N [] n (X104.l2.t a1 (IntKind.i64.wrap ((IntKind.i64.wrap (p3 + 1)) + 1)) (IntKind.i64.wrap (p4 + 1))) (X104.l2.h a1 (IntKind.i64.wrap ((IntKind.i64.wrap (p3 + 1)) + 1)) (IntKind.i64.wrap (p4 + 1))) else none) else none)
    else some p3 := by kernel_rfl
theorem X104.l2.e (N : Nat)  (a1 : List T218.den) : ∀ (n : Nat) (p3 : Int) (p4 : Int), X104.l2.ce N [] n (X104.l2.t a1 p3 p4) (X104.l2.h a1 p3 p4) = X104.l2 N a1 n p3 p4
  | 0, _, _ => rfl
  | n + 1, p3, p4 => by rw [X104.l2.s, X104.l2]; (try simp only [X104.l2.e N a1 n])
def X104 (N : Nat) (a1 : List T218.den) (a2 : Int) : Option Int :=
  X104.l2 N a1 N a2 0
theorem X104.ev (N : Nat) (a1 : List T218.den) (a2 : Int) : evF (c104 N) h104 Tryz.f104 as104 rs104 N (a1, a2, ()) = X104 N a1 a2 :=
  (show evF (c104 N) h104 Tryz.f104 as104 rs104 N (a1, a2, ()) =
    X104.l2.ce N [] N (X104.l2.t a1 a2 0) (X104.l2.h a1 a2 0) by kernel_rfl).trans (by simp only [X104.l2.e]; try rfl)
theorem X104.p (N : Nat) : PFun Tryz.prog gl 104 as104 rs104 (fun x => X104 N x.1 x.2.1) :=
  PFun.ev (c := c104 N) ⟨mixed, tiok, fun f k h => (by simp only [c104] at h; split at h <;> first | (cases h; done) | (cases h; first | exact X35.p N)), fun f k h => (by cases h), eqtok, fun t n f h => (by cases h)⟩ h104 (f := 104) (fn := Tryz.f104) (b := b104) (by kernel_rfl) (by kernel_rfl) (by kernel_rfl) (by kernel_rfl) (by decide) (fun x y h => ⟨N, (X104.ev N x.1 x.2.1).trans h⟩)
end Go.Eng.T
end
noncomputable section
namespace Go.Eng.T
open Go.RowKit
open Go.Proofs
set_option linter.unusedVariables false
/- laws.heldRecWorld -/
abbrev as64 : List Sh := [.agg T37r, .one (.int .i64)]
abbrev rs64 : Rs := .one (.one (.int .i64))
def h64 : Hint := {  }
def c64 (N : Nat) : Cfg := { ti := ti, gl := gl, eqt := eqt, meth := fun _ _ => none, con := fun | 102 => some ⟨as102, rs102, fun x => X102 N x.1 x.2.1⟩ | 103 => some ⟨as103, rs103, fun x => X103 N x.1 x.2.1⟩ | 104 => some ⟨as104, rs104, fun x => X104 N x.1 x.2.1⟩ | _ => none }
def b64 : Code := match Tryz.f64.body with | some b => b | none => .skip
def X64 (N : Nat) (a1 : T37.den) (a2 : Int) : Option Int :=
  Option.bind (X102 N a1.1 a2) fun v3 =>
  bif decide (v3 < 0) then
    some (-1)
  else Option.bind (X103 N a1.2.1 v3) fun v4 =>
  bif decide (v4 < 0) then
    some (-1)
  else Option.bind (X104 N a1.2.2.1 v4) fun v5 =>
  bif decide (v5 < 0) then
    some (-1)
  else some v5
theorem X64.ev (N : Nat) (a1 : T37.den) (a2 : Int) : evF (c64 N) h64 Tryz.f64 as64 rs64 N (a1, a2, ()) = X64 N a1 a2 := by kernel_rfl
theorem X64.p (N : Nat) : PFun Tryz.prog gl 64 as64 rs64 (fun x => X64 N x.1 x.2.1) :=
  PFun.ev (c := c64 N) ⟨mixed, tiok, fun f k h => (by simp only [c64] at h; split at h <;> first | (cases h; done) | (cases h; first | exact X102.p N | exact X103.p N | exact X104.p N)), fun f k h => (by cases h), eqtok, fun t n f h => (by cases h)⟩ h64 (f := 64) (fn := Tryz.f64) (b := b64) (by kernel_rfl) (by kernel_rfl) (by kernel_rfl) (by kernel_rfl) (by decide) (fun x y h => ⟨N, (X64.ev N x.1 x.2.1).trans h⟩)
end Go.Eng.T
end
noncomputable section
namespace Go.Eng.T
open Go.RowKit
open Go.Proofs
set_option linter.unusedVariables false
/- laws.heldHallAskedS -/
abbrev as65 : List Sh := [.one (.sl false T120), .one (.int .i64)]
abbrev rs65 : Rs := .one (.one (.int .i64))
def h65 : Hint := { keep := fun | 2 => [0, 1, 5] | _ => [] }
def c65 (N : Nat) : Cfg := { ti := ti, gl := gl, eqt := eqt, meth := fun _ _ => none, con := fun | 35 => some ⟨as35, rs35, fun x => X35 N x.1⟩ | _ => none }
def b65 : Code := match Tryz.f65.body with | some b => b | none => .skip
def X65.l2.t (a1 : List T120.den) (p3 : Int) (p4 : Int) : List (Nat × D) := [(0, .val (.sl false T120) a1), (1, .val (.int .i64) p3), (5, .val (.int .i64) p4)]
def X65.l2.h (a1 : List T120.den) (p3 : Int) (p4 : Int) : List E := []
def X65.l2 (N : Nat) (a1 : List T120.den)  : Nat → Int → Int → Option Int
  | 0, _, _ => none
  | n + 1, p3, p4 =>
    bif decide (p4 < (a1.length : Int)) then
      (if (0 : Int) ≤ p4 then Option.bind (a1[p4.toNat]?) fun v7 =>
      Option.bind (X35 N p3) fun v8 =>
      bif !(v7.1.toList == v8.toList) then
        some (-1)
      else (if (0 : Int) ≤ p4 then Option.bind (a1[p4.toNat]?) fun v10 =>
      bif v10.2.1 != (IntKind.i64.wrap (p3 + 1)) then
        some (-1)
      else (if (0 : Int) ≤ p4 then Option.bind (a1[p4.toNat]?) fun v12 =>
      bif v12.2.2.1 != (IntKind.i64.wrap ((IntKind.i64.wrap (p3 + 1)) + 1)) then
        some (-1)
      else (if (0 : Int) ≤ p4 then Option.bind (a1[p4.toNat]?) fun v14 =>
      bif v14.2.2.2.1.1 != (IntKind.i64.wrap ((IntKind.i64.wrap ((IntKind.i64.wrap (p3 + 1)) + 1)) + 1)) then
        some (-1)
      else (if (0 : Int) ≤ p4 then Option.bind (a1[p4.toNat]?) fun v16 =>
      bif v16.2.2.2.1.2.1 != (IntKind.i64.wrap ((IntKind.i64.wrap ((IntKind.i64.wrap ((IntKind.i64.wrap (p3 + 1)) + 1)) + 1)) + 1)) then
        some (-1)
      else (if (0 : Int) ≤ p4 then Option.bind (a1[p4.toNat]?) fun v17 =>
      bif v17.2.2.2.1.2.2.1 != (IntKind.i64.wrap ((IntKind.i64.wrap ((IntKind.i64.wrap ((IntKind.i64.wrap ((IntKind.i64.wrap (p3 + 1)) + 1)) + 1)) + 1)) + 1)) then
        some (-1)
      else X65.l2 N a1 n (IntKind.i64.wrap ((IntKind.i64.wrap ((IntKind.i64.wrap ((IntKind.i64.wrap ((IntKind.i64.wrap ((IntKind.i64.wrap (p3 + 1)) + 1)) + 1)) + 1)) + 1)) + 1)) (IntKind.i64.wrap (p4 + 1)) else none) else none) else none) else none) else none) else none)
    else some p3
def X65.l2.ce (N : Nat) (oc : List (Nat × (List (Nat × D) → List E → Option Int))) : Nat → List (Nat × D) → List E → Option Int := loopAt (c65 N) h65 N (endK (c65 N) Tryz.f65 (mvRs rs65)) [.b, .a, .b, .a] b65 oc 0
theorem X65.l2.s (N n : Nat)  (a1 : List T120.den) (p3 : Int) (p4 : Int) : X65.l2.ce N [] (n + 1) (X65.l2.t a1 p3 p4) (X65.l2.h a1 p3 p4) =
    bif decide (p4 < (a1.length : Int)) then
      (if (0 : Int) ≤ p4 then Option.bind (a1[p4.toNat]?) fun v7 =>
      Option.bind (X35 N p3) fun v8 =>
      bif !(v7.1.toList == v8.toList) then
        some (-1)
      else (if (0 : Int) ≤ p4 then Option.bind (a1[p4.toNat]?) fun v10 =>
      bif v10.2.1 != (IntKind.i64.wrap (p3 + 1)) then
        some (-1)
      else (if (0 : Int) ≤ p4 then Option.bind (a1[p4.toNat]?) fun v12 =>
      bif v12.2.2.1 != (IntKind.i64.wrap ((IntKind.i64.wrap (p3 + 1)) + 1)) then
        some (-1)
      else (if (0 : Int) ≤ p4 then Option.bind (a1[p4.toNat]?) fun v14 =>
      bif v14.2.2.2.1.1 != (IntKind.i64.wrap ((IntKind.i64.wrap ((IntKind.i64.wrap (p3 + 1)) + 1)) + 1)) then
        some (-1)
      else (if (0 : Int) ≤ p4 then Option.bind (a1[p4.toNat]?) fun v16 =>
      bif v16.2.2.2.1.2.1 != (IntKind.i64.wrap ((IntKind.i64.wrap ((IntKind.i64.wrap ((IntKind.i64.wrap (p3 + 1)) + 1)) + 1)) + 1)) then
        some (-1)
      else (if (0 : Int) ≤ p4 then Option.bind (a1[p4.toNat]?) fun v17 =>
      bif v17.2.2.2.1.2.2.1 != (IntKind.i64.wrap ((IntKind.i64.wrap ((IntKind.i64.wrap ((IntKind.i64.wrap ((IntKind.i64.wrap (p3 + 1)) + 1)) + 1)) + 1)) + 1)) then
        some (-1)
      else X65.l2.ce N [] n (X65.l2.t a1 (IntKind.i64.wrap ((IntKind.i64.wrap ((IntKind.i64.wrap ((IntKind.i64.wrap ((IntKind.i64.wrap ((IntKind.i64.wrap (p3 + 1)) + 1)) + 1)) + 1)) + 1)) + 1)) (IntKind.i64.wrap (p4 + 1))) (X65.l2.h a1 (IntKind.i64.wrap ((IntKind.i64.wrap ((IntKind.i64.wrap ((IntKind.i64.wrap ((IntKind.i64.wrap ((IntKind.i64.wrap (p3 + 1)) + 1)) + 1)) + 1)) + 1)) + 1)) (IntKind.i64.wrap (p4 + 1))) else none) else none) else none) else none) else none) else none)
    else some p3 := by kernel_rfl
theorem X65.l2.e (N : Nat)  (a1 : List T120.den) : ∀ (n : Nat) (p3 : Int) (p4 : Int), X65.l2.ce N [] n (X65.l2.t a1 p3 p4) (X65.l2.h a1 p3 p4) = X65.l2 N a1 n p3 p4
  | 0, _, _ => rfl
  | n + 1, p3, p4 => by rw [X65.l2.s, X65.l2]; (try simp only [X65.l2.e N a1 n])
def X65 (N : Nat) (a1 : List T120.den) (a2 : Int) : Option Int :=
  X65.l2 N a1 N a2 0
theorem X65.ev (N : Nat) (a1 : List T120.den) (a2 : Int) : evF (c65 N) h65 Tryz.f65 as65 rs65 N (a1, a2, ()) = X65 N a1 a2 :=
  (show evF (c65 N) h65 Tryz.f65 as65 rs65 N (a1, a2, ()) =
    X65.l2.ce N [] N (X65.l2.t a1 a2 0) (X65.l2.h a1 a2 0) by kernel_rfl).trans (by simp only [X65.l2.e]; try rfl)
theorem X65.p (N : Nat) : PFun Tryz.prog gl 65 as65 rs65 (fun x => X65 N x.1 x.2.1) :=
  PFun.ev (c := c65 N) ⟨mixed, tiok, fun f k h => (by simp only [c65] at h; split at h <;> first | (cases h; done) | (cases h; first | exact X35.p N)), fun f k h => (by cases h), eqtok, fun t n f h => (by cases h)⟩ h65 (f := 65) (fn := Tryz.f65) (b := b65) (by kernel_rfl) (by kernel_rfl) (by kernel_rfl) (by kernel_rfl) (by decide) (fun x y h => ⟨N, (X65.ev N x.1 x.2.1).trans h⟩)
end Go.Eng.T
end
noncomputable section
namespace Go.Eng.T
open Go.RowKit
open Go.Proofs
set_option linter.unusedVariables false
/- laws.heldHallWorld -/
abbrev as37 : List Sh := [.agg T40r, .one (.int .i64)]
abbrev rs37 : Rs := .one (.one (.int .i64))
def h37 : Hint := {  }
def c37 (N : Nat) : Cfg := { ti := ti, gl := gl, eqt := eqt, meth := fun _ _ => none, con := fun | 63 => some ⟨as63, rs63, fun x => X63 N x.1 x.2.1⟩ | 64 => some ⟨as64, rs64, fun x => X64 N x.1 x.2.1⟩ | 65 => some ⟨as65, rs65, fun x => X65 N x.1 x.2.1⟩ | _ => none }
def b37 : Code := match Tryz.f37.body with | some b => b | none => .skip
def X37 (N : Nat) (a1 : T40.den) (a2 : Int) : Option Int :=
  Option.bind (X63 N a1.1 a2) fun v3 =>
  bif decide (v3 < 0) then
    some (-1)
  else Option.bind (X64 N a1.2.1 v3) fun v4 =>
  bif decide (v4 < 0) then
    some (-1)
  else Option.bind (X65 N a1.2.2.2.1 v4) fun v5 =>
  bif decide (v5 < 0) then
    some (-1)
  else some v5
theorem X37.ev (N : Nat) (a1 : T40.den) (a2 : Int) : evF (c37 N) h37 Tryz.f37 as37 rs37 N (a1, a2, ()) = X37 N a1 a2 := by kernel_rfl
theorem X37.p (N : Nat) : PFun Tryz.prog gl 37 as37 rs37 (fun x => X37 N x.1 x.2.1) :=
  PFun.ev (c := c37 N) ⟨mixed, tiok, fun f k h => (by simp only [c37] at h; split at h <;> first | (cases h; done) | (cases h; first | exact X63.p N | exact X64.p N | exact X65.p N)), fun f k h => (by cases h), eqtok, fun t n f h => (by cases h)⟩ h37 (f := 37) (fn := Tryz.f37) (b := b37) (by kernel_rfl) (by kernel_rfl) (by kernel_rfl) (by kernel_rfl) (by decide) (fun x y h => ⟨N, (X37.ev N x.1 x.2.1).trans h⟩)
end Go.Eng.T
end
noncomputable section
namespace Go.Eng.T
open Go.RowKit
open Go.Proofs
set_option linter.unusedVariables false
/- laws.heldDeskS -/
abbrev as38 : List Sh := [.one (.sl false T58), .one (.int .i64)]
abbrev rs38 : Rs := .one (.one (.int .i64))
def h38 : Hint := { keep := fun | 2 => [0, 1, 5] | _ => [] }
def c38 (N : Nat) : Cfg := { ti := ti, gl := gl, eqt := eqt, meth := fun _ _ => none, con := fun | 35 => some ⟨as35, rs35, fun x => X35 N x.1⟩ | _ => none }
def b38 : Code := match Tryz.f38.body with | some b => b | none => .skip
def X38.l2.t (a1 : List T58.den) (p3 : Int) (p4 : Int) : List (Nat × D) := [(0, .val (.sl false T58) a1), (1, .val (.int .i64) p3), (5, .val (.int .i64) p4)]
def X38.l2.h (a1 : List T58.den) (p3 : Int) (p4 : Int) : List E := []
def X38.l2 (N : Nat) (a1 : List T58.den)  : Nat → Int → Int → Option Int
  | 0, _, _ => none
  | n + 1, p3, p4 =>
    bif decide (p4 < (a1.length : Int)) then
      (if (0 : Int) ≤ p4 then Option.bind (a1[p4.toNat]?) fun v7 =>
      Option.bind (X35 N p3) fun v8 =>
      bif !(v7.1.toList == v8.toList) then
        some (-1)
      else (if (0 : Int) ≤ p4 then Option.bind (a1[p4.toNat]?) fun v11 =>
      Option.bind (X35 N (IntKind.i64.wrap (p3 + 1))) fun v12 =>
      bif !(v11.2.1.toList == v12.toList) then
        some (-1)
      else (if (0 : Int) ≤ p4 then Option.bind (a1[p4.toNat]?) fun v15 =>
      Option.bind (X35 N (IntKind.i64.wrap ((IntKind.i64.wrap (p3 + 1)) + 1))) fun v16 =>
      bif !(v15.2.2.1.toList == v16.toList) then
        some (-1)
      else (if (0 : Int) ≤ p4 then Option.bind (a1[p4.toNat]?) fun v17 =>
      Option.bind (X35 N (IntKind.i64.wrap ((IntKind.i64.wrap ((IntKind.i64.wrap (p3 + 1)) + 1)) + 1))) fun v18 =>
      bif !(v17.2.2.2.1.toList == v18.toList) then
        some (-1)
      else X38.l2 N a1 n (IntKind.i64.wrap ((IntKind.i64.wrap ((IntKind.i64.wrap ((IntKind.i64.wrap (p3 + 1)) + 1)) + 1)) + 1)) (IntKind.i64.wrap (p4 + 1)) else none) else none) else none) else none)
    else some p3
def X38.l2.ce (N : Nat) (oc : List (Nat × (List (Nat × D) → List E → Option Int))) : Nat → List (Nat × D) → List E → Option Int := loopAt (c38 N) h38 N (endK (c38 N) Tryz.f38 (mvRs rs38)) [.b, .a, .b, .a] b38 oc 0
theorem X38.l2.s (N n : Nat)  (a1 : List T58.den) (p3 : Int) (p4 : Int) : X38.l2.ce N [] (n + 1) (X38.l2.t a1 p3 p4) (X38.l2.h a1 p3 p4) =
    bif decide (p4 < (a1.length : Int)) then
      (if (0 : Int) ≤ p4 then Option.bind (a1[p4.toNat]?) fun v7 =>
      Option.bind (X35 N p3) fun v8 =>
      bif !(v7.1.toList == v8.toList) then
        some (-1)
      else (if (0 : Int) ≤ p4 then Option.bind (a1[p4.toNat]?) fun v11 =>
      Option.bind (X35 N (IntKind.i64.wrap (p3 + 1))) fun v12 =>
      bif !(v11.2.1.toList == v12.toList) then
        some (-1)
      else (if (0 : Int) ≤ p4 then Option.bind (a1[p4.toNat]?) fun v15 =>
      Option.bind (X35 N (IntKind.i64.wrap ((IntKind.i64.wrap (p3 + 1)) + 1))) fun v16 =>
      bif !(v15.2.2.1.toList == v16.toList) then
        some (-1)
      else (if (0 : Int) ≤ p4 then Option.bind (a1[p4.toNat]?) fun v17 =>
      Option.bind (X35 N (IntKind.i64.wrap ((IntKind.i64.wrap ((IntKind.i64.wrap (p3 + 1)) + 1)) + 1))) fun v18 =>
      bif !(v17.2.2.2.1.toList == v18.toList) then
        some (-1)
      else X38.l2.ce N [] n (X38.l2.t a1 (IntKind.i64.wrap ((IntKind.i64.wrap ((IntKind.i64.wrap ((IntKind.i64.wrap (p3 + 1)) + 1)) + 1)) + 1)) (IntKind.i64.wrap (p4 + 1))) (X38.l2.h a1 (IntKind.i64.wrap ((IntKind.i64.wrap ((IntKind.i64.wrap ((IntKind.i64.wrap (p3 + 1)) + 1)) + 1)) + 1)) (IntKind.i64.wrap (p4 + 1))) else none) else none) else none) else none)
    else some p3 := by kernel_rfl
theorem X38.l2.e (N : Nat)  (a1 : List T58.den) : ∀ (n : Nat) (p3 : Int) (p4 : Int), X38.l2.ce N [] n (X38.l2.t a1 p3 p4) (X38.l2.h a1 p3 p4) = X38.l2 N a1 n p3 p4
  | 0, _, _ => rfl
  | n + 1, p3, p4 => by rw [X38.l2.s, X38.l2]; (try simp only [X38.l2.e N a1 n])
def X38 (N : Nat) (a1 : List T58.den) (a2 : Int) : Option Int :=
  X38.l2 N a1 N a2 0
theorem X38.ev (N : Nat) (a1 : List T58.den) (a2 : Int) : evF (c38 N) h38 Tryz.f38 as38 rs38 N (a1, a2, ()) = X38 N a1 a2 :=
  (show evF (c38 N) h38 Tryz.f38 as38 rs38 N (a1, a2, ()) =
    X38.l2.ce N [] N (X38.l2.t a1 a2 0) (X38.l2.h a1 a2 0) by kernel_rfl).trans (by simp only [X38.l2.e]; try rfl)
theorem X38.p (N : Nat) : PFun Tryz.prog gl 38 as38 rs38 (fun x => X38 N x.1 x.2.1) :=
  PFun.ev (c := c38 N) ⟨mixed, tiok, fun f k h => (by simp only [c38] at h; split at h <;> first | (cases h; done) | (cases h; first | exact X35.p N)), fun f k h => (by cases h), eqtok, fun t n f h => (by cases h)⟩ h38 (f := 38) (fn := Tryz.f38) (b := b38) (by kernel_rfl) (by kernel_rfl) (by kernel_rfl) (by kernel_rfl) (by decide) (fun x y h => ⟨N, (X38.ev N x.1 x.2.1).trans h⟩)
end Go.Eng.T
end
noncomputable section
namespace Go.Eng.T
open Go.RowKit
open Go.Proofs
set_option linter.unusedVariables false
/- laws.heldDeskWorld -/
abbrev as16 : List Sh := [.agg T43r, .one (.int .i64)]
abbrev rs16 : Rs := .one (.one (.int .i64))
def h16 : Hint := {  }
def c16 (N : Nat) : Cfg := { ti := ti, gl := gl, eqt := eqt, meth := fun _ _ => none, con := fun | 37 => some ⟨as37, rs37, fun x => X37 N x.1 x.2.1⟩ | 38 => some ⟨as38, rs38, fun x => X38 N x.1 x.2.1⟩ | _ => none }
def b16 : Code := match Tryz.f16.body with | some b => b | none => .skip
def X16 (N : Nat) (a1 : T43.den) (a2 : Int) : Option Int :=
  Option.bind (X37 N a1.1 a2) fun v3 =>
  bif decide (v3 < 0) then
    some (-1)
  else Option.bind (X38 N a1.2.1 v3) fun v4 =>
  bif decide (v4 < 0) then
    some (-1)
  else some v4
theorem X16.ev (N : Nat) (a1 : T43.den) (a2 : Int) : evF (c16 N) h16 Tryz.f16 as16 rs16 N (a1, a2, ()) = X16 N a1 a2 := by kernel_rfl
theorem X16.p (N : Nat) : PFun Tryz.prog gl 16 as16 rs16 (fun x => X16 N x.1 x.2.1) :=
  PFun.ev (c := c16 N) ⟨mixed, tiok, fun f k h => (by simp only [c16] at h; split at h <;> first | (cases h; done) | (cases h; first | exact X37.p N | exact X38.p N)), fun f k h => (by cases h), eqtok, fun t n f h => (by cases h)⟩ h16 (f := 16) (fn := Tryz.f16) (b := b16) (by kernel_rfl) (by kernel_rfl) (by kernel_rfl) (by kernel_rfl) (by decide) (fun x y h => ⟨N, (X16.ev N x.1 x.2.1).trans h⟩)
end Go.Eng.T
end
noncomputable section
namespace Go.Eng.T
open Go.RowKit
open Go.Proofs
set_option linter.unusedVariables false
/- laws.FnExactDeskNew -/
abbrev as3 : List Sh := [.agg T25r, .one (.int .i64), .one (.sl false T58)]
abbrev rs3 : Rs := .one (.one .bool)
def h3 : Hint := {  }
def c3 (N : Nat) : Cfg := { ti := ti, gl := gl, eqt := eqt, meth := fun _ _ => none, con := fun | 4 => some ⟨as4, rs4, fun x => X4 N x.1 x.2.1⟩ | 5 => some ⟨as5, rs5, fun x => X5 N x.1 x.2.1⟩ | 6 => some ⟨as6, rs6, fun x => X6 N x.1 x.2.1 x.2.2.1⟩ | 7 => some ⟨as7, rs7, fun x => X7 N x.1⟩ | 8 => some ⟨as8, rs8, fun x => X8 N x.1⟩ | 9 => some ⟨as9, rs9, fun x => X9 N x.1 x.2.1 x.2.2.1⟩ | 10 => some ⟨as10, rs10, fun x => X10 N x.1 x.2.1⟩ | 11 => some ⟨as11, rs11, fun x => X11 N x.1 x.2.1⟩ | 12 => some ⟨as12, rs12, fun x => X12 N x.1 x.2.1⟩ | 16 => some ⟨as16, rs16, fun x => X16 N x.1 x.2.1⟩ | _ => none, mu := fun | 13 => some ⟨as13, rs13, fun x => X13 N x.1 x.2.1⟩ | 14 => some ⟨as14, rs14, fun x => X14 N x.1 x.2.1⟩ | 15 => some ⟨as15, rs15, fun x => X15 N x.1 x.2.1⟩ | _ => none }
def b3 : Code := match Tryz.f3.body with | some b => b | none => .skip
def X3 (N : Nat) (a1 : T25.den) (a2 : Int) (a3 : List T58.den) : Option Bool :=
  Option.bind (X4 N a1 1048576) fun v4 =>
  bif decide (v4 < 0) then
    some true
  else Option.bind (X5 N a3 v4) fun v5 =>
  bif decide (v5 < 0) then
    some true
  else Option.bind (X7 N a1) fun v6 =>
  Option.bind (X8 N a3) fun v7 =>
  Option.bind (X6 N v6 a2 v7) fun v8 =>
  Option.bind (X7 N a1) fun v9 =>
  Option.bind (X8 N a3) fun v10 =>
  Option.bind (X9 N v9 a2 v10) fun v11 =>
  Option.bind (X10 N v11 v8) fun v13 =>
  bif !v13 then
    some false
  else Option.bind (X7 N a1) fun v16 =>
  Option.bind (X11 N v9 v16) fun v17 =>
  bif !v17 then
    some false
  else Option.bind (X8 N a3) fun v20 =>
  Option.bind (X12 N v10 v20) fun v21 =>
  bif !v21 then
    some false
  else Option.bind (X13 N v9 1) fun v22 =>
  Option.bind (X14 N v10 v22.1) fun v23 =>
  bif decide (v23.1 < 0) then
    some false
  else Option.bind (X10 N v11 v8) fun v25 =>
  bif !v25 then
    some false
  else Option.bind (X15 N v11 1) fun v26 =>
  Option.bind (X16 N ((v26.2.1.1.1, v26.2.1.1.2.1, v11.1.2.2.1, v26.2.1.1.2.2.2), v26.2.1.2) 1) fun v27 =>
  bif decide (v27 < 0) then
    some false
  else bif v27 != v26.1 then
    some false
  else Option.bind (X7 N a1) fun v28 =>
  Option.bind (X8 N a3) fun v29 =>
  Option.bind (X9 N v28 a2 v29) fun v30 =>
  Option.bind (X10 N v30 v8) fun v32 =>
  bif !v32 then
    some false
  else Option.bind (X16 N ((v26.2.1.1.1, v26.2.1.1.2.1, v11.1.2.2.1, v26.2.1.1.2.2.2), v26.2.1.2) 1) fun v33 =>
  bif decide (v33 < 0) then
    some false
  else bif v33 != v26.1 then
    some false
  else some true
theorem X3.ev (N : Nat) (a1 : T25.den) (a2 : Int) (a3 : List T58.den) : evF (c3 N) h3 Tryz.f3 as3 rs3 N (a1, a2, a3, ()) = X3 N a1 a2 a3 := by kernel_rfl
theorem X3.p (N : Nat) : PFun Tryz.prog gl 3 as3 rs3 (fun x => X3 N x.1 x.2.1 x.2.2.1) :=
  PFun.ev (c := c3 N) ⟨mixed, tiok, fun f k h => (by simp only [c3] at h; split at h <;> first | (cases h; done) | (cases h; first | exact X4.p N | exact X5.p N | exact X6.p N | exact X7.p N | exact X8.p N | exact X9.p N | exact X10.p N | exact X11.p N | exact X12.p N | exact X16.p N)), fun f k h => (by simp only [c3] at h; split at h <;> first | (cases h; done) | (cases h; first | exact X13.p N | exact X14.p N | exact X15.p N)), eqtok, fun t n f h => (by cases h)⟩ h3 (f := 3) (fn := Tryz.f3) (b := b3) (by kernel_rfl) (by kernel_rfl) (by kernel_rfl) (by kernel_rfl) (by decide) (fun x y h => ⟨N, (X3.ev N x.1 x.2.1 x.2.2.1).trans h⟩)
end Go.Eng.T
end
