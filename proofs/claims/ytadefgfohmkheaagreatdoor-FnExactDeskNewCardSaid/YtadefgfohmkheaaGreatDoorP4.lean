/- Part of the proof: functions that the law reaches, each with the typed function that it computes. -/
import Derived.Test.YtadefgfohmkheaaGreatDoorP1
import Derived.Test.YtadefgfohmkheaaGreatDoorP3
noncomputable section
namespace Go.Eng.T
open Go.RowKit
open Go.Proofs
set_option linter.unusedVariables false
/- laws.toDeskS -/
abbrev as8 : List Sh := [.one (.sl false T58)]
abbrev rs8 : Rs := .one (.one (.sl true T58))
def h8 : Hint := { keep := fun | 3 => [0, 3, 4] | _ => [] }
def c8 (N : Nat) : Cfg := { ti := ti, gl := gl, eqt := eqt, meth := fun _ _ => none, con := fun | 24 => some ⟨as24, rs24, fun x => X24 N x.1⟩ | _ => none }
def b8 : Code := match Tryz.f8.body with | some b => b | none => .skip
def X8.l3.t (a1 : List T58.den) (p2 : Int) (p3 : List T58.den) : List (Nat × D) := [(0, .val (.sl false T58) a1), (3, .ow 0), (4, .val (.int .i64) p2)]
def X8.l3.h (a1 : List T58.den) (p2 : Int) (p3 : List T58.den) : List E := [.arr T58 p3]
def X8.l3 (N : Nat) (a1 : List T58.den)  : Nat → Int → (List T58.den) → Option (List T58.den)
  | 0, _, _ => none
  | n + 1, p2, p3 =>
    bif decide (p2 < (a1.length : Int)) then
      (if (0 : Int) ≤ p2 then Option.bind (a1[p2.toNat]?) fun v4 =>
      Option.bind (X24 N v4) fun v5 =>
      (if (0 : Int) ≤ p2 then (if p2 < (p3.length : Int) then Option.bind (p3[p2.toNat]?) fun v6 =>
      X8.l3 N a1 n (IntKind.i64.wrap (p2 + 1)) (p3.set p2.toNat v5) else none) else none) else none)
    else some p3
def X8.l3.ce (N : Nat) (oc : List (Nat × (List (Nat × D) → List E → Option (List T58.den)))) : Nat → List (Nat × D) → List E → Option (List T58.den) := loopAt (c8 N) h8 N (endK (c8 N) Tryz.f8 (mvRs rs8)) [.b, .b, .a, .b, .a] b8 oc 1
theorem X8.l3.s (N n : Nat)  (a1 : List T58.den) (p2 : Int) (p3 : List T58.den) : X8.l3.ce N [] (n + 1) (X8.l3.t a1 p2 p3) (X8.l3.h a1 p2 p3) =
    bif decide (p2 < (a1.length : Int)) then
      (if (0 : Int) ≤ p2 then Option.bind (a1[p2.toNat]?) fun v4 =>
      Option.bind (X24 N v4) fun v5 =>
      (if (0 : Int) ≤ p2 then (if p2 < (p3.length : Int) then Option.bind (p3[p2.toNat]?) fun v6 =>
      X8.l3.ce N [] n (X8.l3.t a1 (IntKind.i64.wrap (p2 + 1)) (p3.set p2.toNat v5)) (X8.l3.h a1 (IntKind.i64.wrap (p2 + 1)) (p3.set p2.toNat v5)) else none) else none) else none)
    else some p3 := by kernel_rfl
theorem X8.l3.e (N : Nat)  (a1 : List T58.den) : ∀ (n : Nat) (p2 : Int) (p3 : List T58.den), X8.l3.ce N [] n (X8.l3.t a1 p2 p3) (X8.l3.h a1 p2 p3) = X8.l3 N a1 n p2 p3
  | 0, _, _ => rfl
  | n + 1, p2, p3 => by rw [X8.l3.s, X8.l3]; (try simp only [X8.l3.e N a1 n])
def X8 (N : Nat) (a1 : List T58.den) : Option (List T58.den) :=
  (if (0 : Int) ≤ (a1.length : Int) then (if (a1.length : Int) ≤ (a1.length : Int) then (if ((a1.length : Int) * 64) ≤ (140737488355328 : Int) then (if (a1.length : Int) ≤ (9223372036854775807 : Int) then X8.l3 N a1 N 0 (List.replicate (a1.length : Int).toNat ((⟨#[]⟩ : ByteArray), (⟨#[]⟩ : ByteArray), (⟨#[]⟩ : ByteArray), (⟨#[]⟩ : ByteArray), ())) else none) else none) else none) else none)
theorem X8.ev (N : Nat) (a1 : List T58.den) : evF (c8 N) h8 Tryz.f8 as8 rs8 N (a1, ()) = X8 N a1 :=
  (show evF (c8 N) h8 Tryz.f8 as8 rs8 N (a1, ()) =
    (if (0 : Int) ≤ (a1.length : Int) then (if (a1.length : Int) ≤ (a1.length : Int) then (if ((a1.length : Int) * 64) ≤ (140737488355328 : Int) then (if (a1.length : Int) ≤ (9223372036854775807 : Int) then X8.l3.ce N [] N (X8.l3.t a1 0 (List.replicate (a1.length : Int).toNat ((⟨#[]⟩ : ByteArray), (⟨#[]⟩ : ByteArray), (⟨#[]⟩ : ByteArray), (⟨#[]⟩ : ByteArray), ()))) (X8.l3.h a1 0 (List.replicate (a1.length : Int).toNat ((⟨#[]⟩ : ByteArray), (⟨#[]⟩ : ByteArray), (⟨#[]⟩ : ByteArray), (⟨#[]⟩ : ByteArray), ()))) else none) else none) else none) else none) by kernel_rfl).trans (by simp only [X8.l3.e]; try rfl)
theorem X8.p (N : Nat) : PFun Tryz.prog gl 8 as8 rs8 (fun x => X8 N x.1) :=
  PFun.ev (c := c8 N) ⟨mixed, tiok, fun f k h => (by simp only [c8] at h; split at h <;> first | (cases h; done) | (cases h; first | exact X24.p N)), fun f k h => (by cases h), eqtok, fun t n f h => (by cases h)⟩ h8 (f := 8) (fn := Tryz.f8) (b := b8) (by kernel_rfl) (by kernel_rfl) (by kernel_rfl) (by kernel_rfl) (by decide) (fun x y h => ⟨N, (X8.ev N x.1).trans h⟩)
end Go.Eng.T
end
noncomputable section
namespace Go.Eng.T
open Go.RowKit
open Go.Proofs
set_option linter.unusedVariables false
/- impl.nameByte -/
abbrev as150 : List Sh := [.one (.int .u8)]
abbrev rs150 : Rs := .one (.one .bool)
def h150 : Hint := {  }
def c150 (N : Nat) : Cfg := { ti := ti, gl := gl, eqt := eqt, meth := fun _ _ => none, con := fun _ => none }
def b150 : Code := match Tryz.f150.body with | some b => b | none => .skip
def X150 (N : Nat) (a1 : Int) : Option Bool :=
  bif decide (a1 ≥ 97) then
    bif decide (a1 ≤ 122) then
      some true
    else bif decide (a1 ≥ 48) then
      bif decide (a1 ≤ 57) then
        some true
      else some (a1 == 45)
    else some (a1 == 45)
  else bif decide (a1 ≥ 48) then
    bif decide (a1 ≤ 57) then
      some true
    else some (a1 == 45)
  else some (a1 == 45)
theorem X150.ev (N : Nat) (a1 : Int) : evF (c150 N) h150 Tryz.f150 as150 rs150 N (a1, ()) = X150 N a1 := by kernel_rfl
theorem X150.p (N : Nat) : PFun Tryz.prog gl 150 as150 rs150 (fun x => X150 N x.1) :=
  PFun.ev (c := c150 N) ⟨mixed, tiok, fun f k h => (by cases h), fun f k h => (by cases h), eqtok, fun t n f h => (by cases h)⟩ h150 (f := 150) (fn := Tryz.f150) (b := b150) (by kernel_rfl) (by kernel_rfl) (by kernel_rfl) (by kernel_rfl) (by decide) (fun x y h => ⟨N, (X150.ev N x.1).trans h⟩)
end Go.Eng.T
end
noncomputable section
namespace Go.Eng.T
open Go.RowKit
open Go.Proofs
set_option linter.unusedVariables false
/- impl.nameBytes -/
abbrev as121 : List Sh := [.one .str]
abbrev rs121 : Rs := .one (.one .bool)
def h121 : Hint := { keep := fun | 2 => [0, 5, 6] | _ => [] }
def c121 (N : Nat) : Cfg := { ti := ti, gl := gl, eqt := eqt, meth := fun _ _ => none, con := fun | 150 => some ⟨as150, rs150, fun x => X150 N x.1⟩ | _ => none }
def b121 : Code := match Tryz.f121.body with | some b => b | none => .skip
def X121.l2.t (a1 : ByteArray) (p2 : Int) : List (Nat × D) := [(0, .val .str a1), (5, .val (.int .i64) (a1.size : Int)), (6, .val (.int .i64) p2)]
def X121.l2.h (a1 : ByteArray) (p2 : Int) : List E := []
def X121.l2 (N : Nat) (a1 : ByteArray)  : Nat → Int → Option Bool
  | 0, _ => none
  | n + 1, p2 =>
    bif decide (p2 < (a1.size : Int)) then
      (if (0 : Int) ≤ p2 then Option.bind (a1[p2.toNat]?) fun b3 =>
      Option.bind (X150 N (b3.toNat : Int)) fun v4 =>
      bif !v4 then
        some false
      else X121.l2 N a1 n (IntKind.i64.wrap (p2 + 1)) else none)
    else some true
def X121.l2.ce (N : Nat) (oc : List (Nat × (List (Nat × D) → List E → Option Bool))) : Nat → List (Nat × D) → List E → Option Bool := loopAt (c121 N) h121 N (endK (c121 N) Tryz.f121 (mvRs rs121)) [.b, .a, .b, .a] b121 oc 0
theorem X121.l2.s (N n : Nat)  (a1 : ByteArray) (p2 : Int) : X121.l2.ce N [] (n + 1) (X121.l2.t a1 p2) (X121.l2.h a1 p2) =
    bif decide (p2 < (a1.size : Int)) then
      (if (0 : Int) ≤ p2 then Option.bind (a1[p2.toNat]?) fun b3 =>
      Option.bind (X150 N (b3.toNat : Int)) fun v4 =>
      bif !v4 then
        some false
      else X121.l2.ce N [] n (X121.l2.t a1 (IntKind.i64.wrap (p2 + 1))) (X121.l2.h a1 (IntKind.i64.wrap (p2 + 1))) else none)
    else some true := by kernel_rfl
theorem X121.l2.e (N : Nat)  (a1 : ByteArray) : ∀ (n : Nat) (p2 : Int), X121.l2.ce N [] n (X121.l2.t a1 p2) (X121.l2.h a1 p2) = X121.l2 N a1 n p2
  | 0, _ => rfl
  | n + 1, p2 => by rw [X121.l2.s, X121.l2]; (try simp only [X121.l2.e N a1 n])
def X121 (N : Nat) (a1 : ByteArray) : Option Bool :=
  X121.l2 N a1 N 0
theorem X121.ev (N : Nat) (a1 : ByteArray) : evF (c121 N) h121 Tryz.f121 as121 rs121 N (a1, ()) = X121 N a1 :=
  (show evF (c121 N) h121 Tryz.f121 as121 rs121 N (a1, ()) =
    X121.l2.ce N [] N (X121.l2.t a1 0) (X121.l2.h a1 0) by kernel_rfl).trans (by simp only [X121.l2.e]; try rfl)
theorem X121.p (N : Nat) : PFun Tryz.prog gl 121 as121 rs121 (fun x => X121 N x.1) :=
  PFun.ev (c := c121 N) ⟨mixed, tiok, fun f k h => (by simp only [c121] at h; split at h <;> first | (cases h; done) | (cases h; first | exact X150.p N)), fun f k h => (by cases h), eqtok, fun t n f h => (by cases h)⟩ h121 (f := 121) (fn := Tryz.f121) (b := b121) (by kernel_rfl) (by kernel_rfl) (by kernel_rfl) (by kernel_rfl) (by decide) (fun x y h => ⟨N, (X121.ev N x.1).trans h⟩)
end Go.Eng.T
end
noncomputable section
namespace Go.Eng.T
open Go.RowKit
open Go.Proofs
set_option linter.unusedVariables false
/- impl.isName -/
abbrev as83 : List Sh := [.one .str]
abbrev rs83 : Rs := .one (.one .bool)
def h83 : Hint := {  }
def c83 (N : Nat) : Cfg := { ti := ti, gl := gl, eqt := eqt, meth := fun _ _ => none, con := fun | 121 => some ⟨as121, rs121, fun x => X121 N x.1⟩ | _ => none }
def b83 : Code := match Tryz.f83.body with | some b => b | none => .skip
def X83 (N : Nat) (a1 : ByteArray) : Option Bool :=
  bif decide ((a1.size : Int) ≥ 1) then
    bif decide ((a1.size : Int) ≤ 16) then
      Option.bind (X121 N a1) fun v2 =>
      some v2
    else some false
  else some false
theorem X83.ev (N : Nat) (a1 : ByteArray) : evF (c83 N) h83 Tryz.f83 as83 rs83 N (a1, ()) = X83 N a1 := by kernel_rfl
theorem X83.p (N : Nat) : PFun Tryz.prog gl 83 as83 rs83 (fun x => X83 N x.1) :=
  PFun.ev (c := c83 N) ⟨mixed, tiok, fun f k h => (by simp only [c83] at h; split at h <;> first | (cases h; done) | (cases h; first | exact X121.p N)), fun f k h => (by cases h), eqtok, fun t n f h => (by cases h)⟩ h83 (f := 83) (fn := Tryz.f83) (b := b83) (by kernel_rfl) (by kernel_rfl) (by kernel_rfl) (by kernel_rfl) (by decide) (fun x y h => ⟨N, (X83.ev N x.1).trans h⟩)
end Go.Eng.T
end
noncomputable section
namespace Go.Eng.T
open Go.RowKit
open Go.Proofs
set_option linter.unusedVariables false
/- impl.teamOf -/
abbrev as84 : List Sh := [.one (.sl false T77), .one .str]
abbrev rs84 : Rs := .one (.one (.int .i64))
def h84 : Hint := { keep := fun | 2 => [1, 7, 8, 9] | _ => [] }
def c84 (N : Nat) : Cfg := { ti := ti, gl := gl, eqt := eqt, meth := fun _ _ => none, con := fun _ => none }
def b84 : Code := match Tryz.f84.body with | some b => b | none => .skip
def X84.l2.t (a1 : List T77.den) (a2 : ByteArray) (p3 : Int) : List (Nat × D) := [(1, .val .str a2), (7, .val (.sl false T77) a1), (8, .val (.int .i64) (a1.length : Int)), (9, .val (.int .i64) p3)]
def X84.l2.h (a1 : List T77.den) (a2 : ByteArray) (p3 : Int) : List E := []
def X84.l2 (N : Nat) (a1 : List T77.den) (a2 : ByteArray)  : Nat → Int → Option Int
  | 0, _ => none
  | n + 1, p3 =>
    bif decide (p3 < (a1.length : Int)) then
      (if (0 : Int) ≤ p3 then Option.bind (a1[p3.toNat]?) fun v4 =>
      bif v4.1.toList == a2.toList then
        some p3
      else X84.l2 N a1 a2 n (IntKind.i64.wrap (p3 + 1)) else none)
    else some (-1)
def X84.l2.ce (N : Nat) (oc : List (Nat × (List (Nat × D) → List E → Option Int))) : Nat → List (Nat × D) → List E → Option Int := loopAt (c84 N) h84 N (endK (c84 N) Tryz.f84 (mvRs rs84)) [.b, .a, .b, .a] b84 oc 0
theorem X84.l2.s (N n : Nat)  (a1 : List T77.den) (a2 : ByteArray) (p3 : Int) : X84.l2.ce N [] (n + 1) (X84.l2.t a1 a2 p3) (X84.l2.h a1 a2 p3) =
    bif decide (p3 < (a1.length : Int)) then
      (if (0 : Int) ≤ p3 then Option.bind (a1[p3.toNat]?) fun v4 =>
      bif v4.1.toList == a2.toList then
        some p3
      else X84.l2.ce N [] n (X84.l2.t a1 a2 (IntKind.i64.wrap (p3 + 1))) (X84.l2.h a1 a2 (IntKind.i64.wrap (p3 + 1))) else none)
    else some (-1) := by kernel_rfl
theorem X84.l2.e (N : Nat)  (a1 : List T77.den) (a2 : ByteArray) : ∀ (n : Nat) (p3 : Int), X84.l2.ce N [] n (X84.l2.t a1 a2 p3) (X84.l2.h a1 a2 p3) = X84.l2 N a1 a2 n p3
  | 0, _ => rfl
  | n + 1, p3 => by rw [X84.l2.s, X84.l2]; (try simp only [X84.l2.e N a1 a2 n])
def X84 (N : Nat) (a1 : List T77.den) (a2 : ByteArray) : Option Int :=
  X84.l2 N a1 a2 N 0
theorem X84.ev (N : Nat) (a1 : List T77.den) (a2 : ByteArray) : evF (c84 N) h84 Tryz.f84 as84 rs84 N (a1, a2, ()) = X84 N a1 a2 :=
  (show evF (c84 N) h84 Tryz.f84 as84 rs84 N (a1, a2, ()) =
    X84.l2.ce N [] N (X84.l2.t a1 a2 0) (X84.l2.h a1 a2 0) by kernel_rfl).trans (by simp only [X84.l2.e]; try rfl)
theorem X84.p (N : Nat) : PFun Tryz.prog gl 84 as84 rs84 (fun x => X84 N x.1 x.2.1) :=
  PFun.ev (c := c84 N) ⟨mixed, tiok, fun f k h => (by cases h), fun f k h => (by cases h), eqtok, fun t n f h => (by cases h)⟩ h84 (f := 84) (fn := Tryz.f84) (b := b84) (by kernel_rfl) (by kernel_rfl) (by kernel_rfl) (by kernel_rfl) (by decide) (fun x y h => ⟨N, (X84.ev N x.1 x.2.1).trans h⟩)
end Go.Eng.T
end
noncomputable section
namespace Go.Eng.T
open Go.RowKit
open Go.Proofs
set_option linter.unusedVariables false
/- impl.GateTeamsOk -/
abbrev as51 : List Sh := [.one (.sl false T77)]
abbrev rs51 : Rs := .one (.one .bool)
def h51 : Hint := { keep := fun | 4 => [0, 12, 13, 14] | 10 => [0, 51, 52, 53] | 14 => [0, 7, 8, 51, 52, 53] | _ => [] }
def c51 (N : Nat) : Cfg := { ti := ti, gl := gl, eqt := eqt, meth := fun _ _ => none, con := fun | 83 => some ⟨as83, rs83, fun x => X83 N x.1⟩ | 84 => some ⟨as84, rs84, fun x => X84 N x.1 x.2.1⟩ | _ => none }
def b51 : Code := match Tryz.f51.body with | some b => b | none => .skip
def X51.l14.t (a1 : List T77.den) (p14 : Int) (v15 : T77.den) (p22 : Int) (p23 : ByteArray) : List (Nat × D) := [(0, .val (.sl false T77) a1), (7, .val (.int .i64) p22), (8, .val .str p23), (51, .val (.sl false T77) a1), (52, .val (.int .i64) (a1.length : Int)), (53, .val (.int .i64) p14)]
def X51.l14.h (a1 : List T77.den) (p14 : Int) (v15 : T77.den) (p22 : Int) (p23 : ByteArray) : List E := [.box [.val .str v15.1, .val .str v15.2.1]]
def X51.l10.t (a1 : List T77.den) (p14 : Int) : List (Nat × D) := [(0, .val (.sl false T77) a1), (51, .val (.sl false T77) a1), (52, .val (.int .i64) (a1.length : Int)), (53, .val (.int .i64) p14)]
def X51.l10.h (a1 : List T77.den) (p14 : Int) : List E := []
def X51.l4.t (a1 : List T77.den) (p8 : Int) : List (Nat × D) := [(0, .val (.sl false T77) a1), (12, .val (.sl false T77) a1), (13, .val (.int .i64) (a1.length : Int)), (14, .val (.int .i64) p8)]
def X51.l4.h (a1 : List T77.den) (p8 : Int) : List E := []
def X51.l14 (N : Nat) (a1 : List T77.den) (p14 : Int) (v15 : T77.den) (k10 : Int → Option Bool) : Nat → Int → ByteArray → Option Bool
  | 0, _, _ => none
  | n + 1, p22, p23 =>
    bif !(p23.toList == (⟨#[]⟩ : ByteArray).toList) then
      bif decide ((IntKind.i64.wrap (p22 + 1)) > 4) then
        some false
      else Option.bind (X84 N a1 p23) fun v24 =>
      (if (0 : Int) ≤ v24 then Option.bind (a1[v24.toNat]?) fun v25 =>
      X51.l14 N a1 p14 v15 k10 n (IntKind.i64.wrap (p22 + 1)) v25.2.1 else none)
    else k10 (IntKind.i64.wrap (p14 + 1))
def X51.l14.ce (N : Nat) (oc : List (Nat × (List (Nat × D) → List E → Option Bool))) : Nat → List (Nat × D) → List E → Option Bool := loopAt (c51 N) h51 N (endK (c51 N) Tryz.f51 (mvRs rs51)) [.b, .b, .b, .a, .b, .a, .a, .b, .b, .a, .a, .b, .b, .b, .a] b51 oc 1
theorem X51.l14.s (N n : Nat) (g10 : List (Nat × D) → List E → Option Bool) (a1 : List T77.den) (p14 : Int) (v15 : T77.den) (p22 : Int) (p23 : ByteArray) : X51.l14.ce N [(0, g10)] (n + 1) (X51.l14.t a1 p14 v15 p22 p23) (X51.l14.h a1 p14 v15 p22 p23) =
    bif !(p23.toList == (⟨#[]⟩ : ByteArray).toList) then
      bif decide ((IntKind.i64.wrap (p22 + 1)) > 4) then
        some false
      else Option.bind (X84 N a1 p23) fun v24 =>
      (if (0 : Int) ≤ v24 then Option.bind (a1[v24.toNat]?) fun v25 =>
      X51.l14.ce N [(0, g10)] n (X51.l14.t a1 p14 v15 (IntKind.i64.wrap (p22 + 1)) v25.2.1) (X51.l14.h a1 p14 v15 (IntKind.i64.wrap (p22 + 1)) v25.2.1) else none)
    else g10 (X51.l10.t a1 (IntKind.i64.wrap (p14 + 1))) (X51.l10.h a1 (IntKind.i64.wrap (p14 + 1))) := by kernel_rfl
theorem X51.l14.e (N : Nat) (g10 : List (Nat × D) → List E → Option Bool) (a1 : List T77.den) (p14 : Int) (v15 : T77.den) : ∀ (n : Nat) (p22 : Int) (p23 : ByteArray), X51.l14.ce N [(0, g10)] n (X51.l14.t a1 p14 v15 p22 p23) (X51.l14.h a1 p14 v15 p22 p23) = X51.l14 N a1 p14 v15 (fun p14 => g10 (X51.l10.t a1 p14) (X51.l10.h a1 p14)) n p22 p23
  | 0, _, _ => rfl
  | n + 1, p22, p23 => by rw [X51.l14.s, X51.l14]; (try simp only [X51.l14.e N g10 a1 p14 v15 n])
def X51.l10 (N : Nat) (a1 : List T77.den)  : Nat → Int → Option Bool
  | 0, _ => none
  | n + 1, p14 =>
    bif decide (p14 < (a1.length : Int)) then
      (if (0 : Int) ≤ p14 then Option.bind (a1[p14.toNat]?) fun v15 =>
      X51.l14 N a1 p14 v15 (X51.l10 N a1 n) N 0 v15.2.1 else none)
    else some true
def X51.l10.ce (N : Nat) (oc : List (Nat × (List (Nat × D) → List E → Option Bool))) : Nat → List (Nat × D) → List E → Option Bool := loopAt (c51 N) h51 N (endK (c51 N) Tryz.f51 (mvRs rs51)) [.b, .b, .b, .a, .b, .a] b51 oc 0
theorem X51.l10.s (N n : Nat)  (a1 : List T77.den) (p14 : Int) : X51.l10.ce N [] (n + 1) (X51.l10.t a1 p14) (X51.l10.h a1 p14) =
    bif decide (p14 < (a1.length : Int)) then
      (if (0 : Int) ≤ p14 then Option.bind (a1[p14.toNat]?) fun v15 =>
      X51.l14.ce N [(0, X51.l10.ce N [] n)] N (X51.l14.t a1 p14 v15 0 v15.2.1) (X51.l14.h a1 p14 v15 0 v15.2.1) else none)
    else some true := by kernel_rfl
theorem X51.l10.e (N : Nat)  (a1 : List T77.den) : ∀ (n : Nat) (p14 : Int), X51.l10.ce N [] n (X51.l10.t a1 p14) (X51.l10.h a1 p14) = X51.l10 N a1 n p14
  | 0, _ => rfl
  | n + 1, p14 => by rw [X51.l10.s, X51.l10]; (try simp only [X51.l10.e N a1 n, X51.l14.e])
def X51.l4 (N : Nat) (a1 : List T77.den)  : Nat → Int → Option Bool
  | 0, _ => none
  | n + 1, p8 =>
    bif decide (p8 < (a1.length : Int)) then
      (if (0 : Int) ≤ p8 then Option.bind (a1[p8.toNat]?) fun v9 =>
      Option.bind (X83 N v9.1) fun v10 =>
      bif !v10 then
        some false
      else bif decide (p8 > 0) then
        (if (0 : Int) ≤ (IntKind.i64.wrap (p8 - 1)) then Option.bind (a1[(IntKind.i64.wrap (p8 - 1)).toNat]?) fun v11 =>
        bif !(Op.bytesLess v11.1.toList v9.1.toList) then
          some false
        else bif !(v9.2.1.toList == (⟨#[]⟩ : ByteArray).toList) then
          Option.bind (X84 N a1 v9.2.1) fun v12 =>
          bif decide (v12 < 0) then
            some false
          else X51.l4 N a1 n (IntKind.i64.wrap (p8 + 1))
        else X51.l4 N a1 n (IntKind.i64.wrap (p8 + 1)) else none)
      else bif !(v9.2.1.toList == (⟨#[]⟩ : ByteArray).toList) then
        Option.bind (X84 N a1 v9.2.1) fun v13 =>
        bif decide (v13 < 0) then
          some false
        else X51.l4 N a1 n (IntKind.i64.wrap (p8 + 1))
      else X51.l4 N a1 n (IntKind.i64.wrap (p8 + 1)) else none)
    else X51.l10 N a1 N 0
def X51.l4.ce (N : Nat) (oc : List (Nat × (List (Nat × D) → List E → Option Bool))) : Nat → List (Nat × D) → List E → Option Bool := loopAt (c51 N) h51 N (endK (c51 N) Tryz.f51 (mvRs rs51)) [.b, .b, .a, .b, .a] b51 oc 0
theorem X51.l4.s (N n : Nat)  (a1 : List T77.den) (p8 : Int) : X51.l4.ce N [] (n + 1) (X51.l4.t a1 p8) (X51.l4.h a1 p8) =
    bif decide (p8 < (a1.length : Int)) then
      (if (0 : Int) ≤ p8 then Option.bind (a1[p8.toNat]?) fun v9 =>
      Option.bind (X83 N v9.1) fun v10 =>
      bif !v10 then
        some false
      else bif decide (p8 > 0) then
        (if (0 : Int) ≤ (IntKind.i64.wrap (p8 - 1)) then Option.bind (a1[(IntKind.i64.wrap (p8 - 1)).toNat]?) fun v11 =>
        bif !(Op.bytesLess v11.1.toList v9.1.toList) then
          some false
        else bif !(v9.2.1.toList == (⟨#[]⟩ : ByteArray).toList) then
          Option.bind (X84 N a1 v9.2.1) fun v12 =>
          bif decide (v12 < 0) then
            some false
          else X51.l4.ce N [] n (X51.l4.t a1 (IntKind.i64.wrap (p8 + 1))) (X51.l4.h a1 (IntKind.i64.wrap (p8 + 1)))
        else X51.l4.ce N [] n (X51.l4.t a1 (IntKind.i64.wrap (p8 + 1))) (X51.l4.h a1 (IntKind.i64.wrap (p8 + 1))) else none)
      else bif !(v9.2.1.toList == (⟨#[]⟩ : ByteArray).toList) then
        Option.bind (X84 N a1 v9.2.1) fun v13 =>
        bif decide (v13 < 0) then
          some false
        else X51.l4.ce N [] n (X51.l4.t a1 (IntKind.i64.wrap (p8 + 1))) (X51.l4.h a1 (IntKind.i64.wrap (p8 + 1)))
      else X51.l4.ce N [] n (X51.l4.t a1 (IntKind.i64.wrap (p8 + 1))) (X51.l4.h a1 (IntKind.i64.wrap (p8 + 1))) else none)
    else X51.l10.ce N [] N (X51.l10.t a1 0) (X51.l10.h a1 0) := by kernel_rfl
theorem X51.l4.e (N : Nat)  (a1 : List T77.den) : ∀ (n : Nat) (p8 : Int), X51.l4.ce N [] n (X51.l4.t a1 p8) (X51.l4.h a1 p8) = X51.l4 N a1 n p8
  | 0, _ => rfl
  | n + 1, p8 => by rw [X51.l4.s, X51.l4]; (try simp only [X51.l4.e N a1 n, X51.l10.e])
def X51 (N : Nat) (a1 : List T77.den) : Option Bool :=
  bif decide ((a1.length : Int) > 12) then
    some false
  else X51.l4 N a1 N 0
theorem X51.ev (N : Nat) (a1 : List T77.den) : evF (c51 N) h51 Tryz.f51 as51 rs51 N (a1, ()) = X51 N a1 :=
  (show evF (c51 N) h51 Tryz.f51 as51 rs51 N (a1, ()) =
    bif decide ((a1.length : Int) > 12) then
      some false
    else X51.l4.ce N [] N (X51.l4.t a1 0) (X51.l4.h a1 0) by kernel_rfl).trans (by simp only [X51.l4.e]; try rfl)
theorem X51.p (N : Nat) : PFun Tryz.prog gl 51 as51 rs51 (fun x => X51 N x.1) :=
  PFun.ev (c := c51 N) ⟨mixed, tiok, fun f k h => (by simp only [c51] at h; split at h <;> first | (cases h; done) | (cases h; first | exact X83.p N | exact X84.p N)), fun f k h => (by cases h), eqtok, fun t n f h => (by cases h)⟩ h51 (f := 51) (fn := Tryz.f51) (b := b51) (by kernel_rfl) (by kernel_rfl) (by kernel_rfl) (by kernel_rfl) (by decide) (fun x y h => ⟨N, (X51.ev N x.1).trans h⟩)
end Go.Eng.T
end
noncomputable section
namespace Go.Eng.T
open Go.RowKit
open Go.Proofs
set_option linter.unusedVariables false
/- impl.hwLetters -/
abbrev as85 : List Sh := [.one .str]
abbrev rs85 : Rs := .one (.one .bool)
def h85 : Hint := { keep := fun | 2 => [0, 6, 7] | _ => [] }
def c85 (N : Nat) : Cfg := { ti := ti, gl := gl, eqt := eqt, meth := fun _ _ => none, con := fun _ => none }
def b85 : Code := match Tryz.f85.body with | some b => b | none => .skip
def X85.l2.t (a1 : ByteArray) (p2 : Int) : List (Nat × D) := [(0, .val .str a1), (6, .val (.int .i64) (a1.size : Int)), (7, .val (.int .i64) p2)]
def X85.l2.h (a1 : ByteArray) (p2 : Int) : List E := []
def X85.l2 (N : Nat) (a1 : ByteArray)  : Nat → Int → Option Bool
  | 0, _ => none
  | n + 1, p2 =>
    bif decide (p2 < (a1.size : Int)) then
      (if (0 : Int) ≤ p2 then Option.bind (a1[p2.toNat]?) fun b3 =>
      bif decide ((b3.toNat : Int) < 97) then
        bif decide ((b3.toNat : Int) < 48) then
          bif (b3.toNat : Int) != 45 then
            some false
          else X85.l2 N a1 n (IntKind.i64.wrap (p2 + 1))
        else bif decide ((b3.toNat : Int) > 57) then
          bif (b3.toNat : Int) != 45 then
            some false
          else X85.l2 N a1 n (IntKind.i64.wrap (p2 + 1))
        else X85.l2 N a1 n (IntKind.i64.wrap (p2 + 1))
      else bif decide ((b3.toNat : Int) > 122) then
        bif decide ((b3.toNat : Int) < 48) then
          bif (b3.toNat : Int) != 45 then
            some false
          else X85.l2 N a1 n (IntKind.i64.wrap (p2 + 1))
        else bif decide ((b3.toNat : Int) > 57) then
          bif (b3.toNat : Int) != 45 then
            some false
          else X85.l2 N a1 n (IntKind.i64.wrap (p2 + 1))
        else X85.l2 N a1 n (IntKind.i64.wrap (p2 + 1))
      else X85.l2 N a1 n (IntKind.i64.wrap (p2 + 1)) else none)
    else some true
def X85.l2.ce (N : Nat) (oc : List (Nat × (List (Nat × D) → List E → Option Bool))) : Nat → List (Nat × D) → List E → Option Bool := loopAt (c85 N) h85 N (endK (c85 N) Tryz.f85 (mvRs rs85)) [.b, .a, .b, .a] b85 oc 0
theorem X85.l2.s (N n : Nat)  (a1 : ByteArray) (p2 : Int) : X85.l2.ce N [] (n + 1) (X85.l2.t a1 p2) (X85.l2.h a1 p2) =
    bif decide (p2 < (a1.size : Int)) then
      (if (0 : Int) ≤ p2 then Option.bind (a1[p2.toNat]?) fun b3 =>
      bif decide ((b3.toNat : Int) < 97) then
        bif decide ((b3.toNat : Int) < 48) then
          bif (b3.toNat : Int) != 45 then
            some false
          else X85.l2.ce N [] n (X85.l2.t a1 (IntKind.i64.wrap (p2 + 1))) (X85.l2.h a1 (IntKind.i64.wrap (p2 + 1)))
        else bif decide ((b3.toNat : Int) > 57) then
          bif (b3.toNat : Int) != 45 then
            some false
          else X85.l2.ce N [] n (X85.l2.t a1 (IntKind.i64.wrap (p2 + 1))) (X85.l2.h a1 (IntKind.i64.wrap (p2 + 1)))
        else X85.l2.ce N [] n (X85.l2.t a1 (IntKind.i64.wrap (p2 + 1))) (X85.l2.h a1 (IntKind.i64.wrap (p2 + 1)))
      else bif decide ((b3.toNat : Int) > 122) then
        bif decide ((b3.toNat : Int) < 48) then
          bif (b3.toNat : Int) != 45 then
            some false
          else X85.l2.ce N [] n (X85.l2.t a1 (IntKind.i64.wrap (p2 + 1))) (X85.l2.h a1 (IntKind.i64.wrap (p2 + 1)))
        else bif decide ((b3.toNat : Int) > 57) then
          bif (b3.toNat : Int) != 45 then
            some false
          else X85.l2.ce N [] n (X85.l2.t a1 (IntKind.i64.wrap (p2 + 1))) (X85.l2.h a1 (IntKind.i64.wrap (p2 + 1)))
        else X85.l2.ce N [] n (X85.l2.t a1 (IntKind.i64.wrap (p2 + 1))) (X85.l2.h a1 (IntKind.i64.wrap (p2 + 1)))
      else X85.l2.ce N [] n (X85.l2.t a1 (IntKind.i64.wrap (p2 + 1))) (X85.l2.h a1 (IntKind.i64.wrap (p2 + 1))) else none)
    else some true := by kernel_rfl
theorem X85.l2.e (N : Nat)  (a1 : ByteArray) : ∀ (n : Nat) (p2 : Int), X85.l2.ce N [] n (X85.l2.t a1 p2) (X85.l2.h a1 p2) = X85.l2 N a1 n p2
  | 0, _ => rfl
  | n + 1, p2 => by rw [X85.l2.s, X85.l2]; (try simp only [X85.l2.e N a1 n])
def X85 (N : Nat) (a1 : ByteArray) : Option Bool :=
  X85.l2 N a1 N 0
theorem X85.ev (N : Nat) (a1 : ByteArray) : evF (c85 N) h85 Tryz.f85 as85 rs85 N (a1, ()) = X85 N a1 :=
  (show evF (c85 N) h85 Tryz.f85 as85 rs85 N (a1, ()) =
    X85.l2.ce N [] N (X85.l2.t a1 0) (X85.l2.h a1 0) by kernel_rfl).trans (by simp only [X85.l2.e]; try rfl)
theorem X85.p (N : Nat) : PFun Tryz.prog gl 85 as85 rs85 (fun x => X85 N x.1) :=
  PFun.ev (c := c85 N) ⟨mixed, tiok, fun f k h => (by cases h), fun f k h => (by cases h), eqtok, fun t n f h => (by cases h)⟩ h85 (f := 85) (fn := Tryz.f85) (b := b85) (by kernel_rfl) (by kernel_rfl) (by kernel_rfl) (by kernel_rfl) (by decide) (fun x y h => ⟨N, (X85.ev N x.1).trans h⟩)
end Go.Eng.T
end
noncomputable section
namespace Go.Eng.T
open Go.RowKit
open Go.Proofs
set_option linter.unusedVariables false
/- impl.hwName -/
abbrev as52 : List Sh := [.one .str]
abbrev rs52 : Rs := .one (.one .bool)
def h52 : Hint := {  }
def c52 (N : Nat) : Cfg := { ti := ti, gl := gl, eqt := eqt, meth := fun _ _ => none, con := fun | 85 => some ⟨as85, rs85, fun x => X85 N x.1⟩ | _ => none }
def b52 : Code := match Tryz.f52.body with | some b => b | none => .skip
def X52 (N : Nat) (a1 : ByteArray) : Option Bool :=
  bif decide ((a1.size : Int) ≥ 1) then
    bif decide ((a1.size : Int) ≤ 16) then
      Option.bind (X85 N a1) fun v2 =>
      some v2
    else some false
  else some false
theorem X52.ev (N : Nat) (a1 : ByteArray) : evF (c52 N) h52 Tryz.f52 as52 rs52 N (a1, ()) = X52 N a1 := by kernel_rfl
theorem X52.p (N : Nat) : PFun Tryz.prog gl 52 as52 rs52 (fun x => X52 N x.1) :=
  PFun.ev (c := c52 N) ⟨mixed, tiok, fun f k h => (by simp only [c52] at h; split at h <;> first | (cases h; done) | (cases h; first | exact X85.p N)), fun f k h => (by cases h), eqtok, fun t n f h => (by cases h)⟩ h52 (f := 52) (fn := Tryz.f52) (b := b52) (by kernel_rfl) (by kernel_rfl) (by kernel_rfl) (by kernel_rfl) (by decide) (fun x y h => ⟨N, (X52.ev N x.1).trans h⟩)
end Go.Eng.T
end
noncomputable section
namespace Go.Eng.T
open Go.RowKit
open Go.Proofs
set_option linter.unusedVariables false
/- impl.hwRuleOk -/
abbrev as53 : List Sh := [.agg T81r]
abbrev rs53 : Rs := .one (.one .bool)
def h53 : Hint := { keep := fun | 4 => [1, 22, 23, 24] | _ => [] }
def c53 (N : Nat) : Cfg := { ti := ti, gl := gl, eqt := eqt, meth := fun _ _ => none, con := fun | 52 => some ⟨as52, rs52, fun x => X52 N x.1⟩ | 85 => some ⟨as85, rs85, fun x => X85 N x.1⟩ | _ => none }
def b53 : Code := match Tryz.f53.body with | some b => b | none => .skip
def X53.l4.t (a1 : T81.den) (p24 : Int) : List (Nat × D) := [(1, .bp 0 0), (22, .val (.sl false (.int .i64)) a1.1), (23, .val (.int .i64) (a1.1.length : Int)), (24, .val (.int .i64) p24)]
def X53.l4.h (a1 : T81.den) (p24 : Int) : List E := [.box [.val (.sl false (.int .i64)) a1.1, .val .str a1.2.1, .val .str a1.2.2.1, .val .str a1.2.2.2.1]]
def X53.l4 (N : Nat) (a1 : T81.den)  : Nat → Int → Option Bool
  | 0, _ => none
  | n + 1, p24 =>
    bif decide (p24 < (a1.1.length : Int)) then
      (if (0 : Int) ≤ p24 then Option.bind (a1.1[p24.toNat]?) fun v25 =>
      bif decide (v25 < 1) then
        some false
      else bif decide (v25 > 5) then
        some false
      else bif decide (p24 > 0) then
        (if (0 : Int) ≤ (IntKind.i64.wrap (p24 - 1)) then Option.bind (a1.1[(IntKind.i64.wrap (p24 - 1)).toNat]?) fun v26 =>
        bif decide (v26 ≥ v25) then
          some false
        else X53.l4 N a1 n (IntKind.i64.wrap (p24 + 1)) else none)
      else X53.l4 N a1 n (IntKind.i64.wrap (p24 + 1)) else none)
    else bif a1.2.1.toList == (⟨#[]⟩ : ByteArray).toList then
      bif a1.2.2.1.toList == (⟨#[]⟩ : ByteArray).toList then
        some true
      else Option.bind (X52 N a1.2.2.1) fun v27 =>
      some v27
    else Option.bind (X52 N a1.2.1) fun v28 =>
    bif v28 then
      bif a1.2.2.1.toList == (⟨#[]⟩ : ByteArray).toList then
        some true
      else Option.bind (X52 N a1.2.2.1) fun v29 =>
      some v29
    else some false
def X53.l4.ce (N : Nat) (oc : List (Nat × (List (Nat × D) → List E → Option Bool))) : Nat → List (Nat × D) → List E → Option Bool := loopAt (c53 N) h53 N (endK (c53 N) Tryz.f53 (mvRs rs53)) [.b, .b, .a, .b, .a] b53 oc 1
theorem X53.l4.s (N n : Nat)  (a1 : T81.den) (p24 : Int) : X53.l4.ce N [] (n + 1) (X53.l4.t a1 p24) (X53.l4.h a1 p24) =
    bif decide (p24 < (a1.1.length : Int)) then
      (if (0 : Int) ≤ p24 then Option.bind (a1.1[p24.toNat]?) fun v25 =>
      bif decide (v25 < 1) then
        some false
      else bif decide (v25 > 5) then
        some false
      else bif decide (p24 > 0) then
        (if (0 : Int) ≤ (IntKind.i64.wrap (p24 - 1)) then Option.bind (a1.1[(IntKind.i64.wrap (p24 - 1)).toNat]?) fun v26 =>
        bif decide (v26 ≥ v25) then
          some false
        else X53.l4.ce N [] n (X53.l4.t a1 (IntKind.i64.wrap (p24 + 1))) (X53.l4.h a1 (IntKind.i64.wrap (p24 + 1))) else none)
      else X53.l4.ce N [] n (X53.l4.t a1 (IntKind.i64.wrap (p24 + 1))) (X53.l4.h a1 (IntKind.i64.wrap (p24 + 1))) else none)
    else bif a1.2.1.toList == (⟨#[]⟩ : ByteArray).toList then
      bif a1.2.2.1.toList == (⟨#[]⟩ : ByteArray).toList then
        some true
      else Option.bind (X52 N a1.2.2.1) fun v27 =>
      some v27
    else Option.bind (X52 N a1.2.1) fun v28 =>
    bif v28 then
      bif a1.2.2.1.toList == (⟨#[]⟩ : ByteArray).toList then
        some true
      else Option.bind (X52 N a1.2.2.1) fun v29 =>
      some v29
    else some false := by kernel_rfl
theorem X53.l4.e (N : Nat)  (a1 : T81.den) : ∀ (n : Nat) (p24 : Int), X53.l4.ce N [] n (X53.l4.t a1 p24) (X53.l4.h a1 p24) = X53.l4 N a1 n p24
  | 0, _ => rfl
  | n + 1, p24 => by rw [X53.l4.s, X53.l4]; (try simp only [X53.l4.e N a1 n])
def X53 (N : Nat) (a1 : T81.den) : Option Bool :=
  bif (a1.1.length : Int) == 0 then
    some false
  else bif decide ((a1.2.2.2.1.size : Int) > 16) then
    some false
  else Option.bind (X85 N a1.2.2.2.1) fun v3 =>
  bif !v3 then
    some false
  else X53.l4 N a1 N 0
theorem X53.ev (N : Nat) (a1 : T81.den) : evF (c53 N) h53 Tryz.f53 as53 rs53 N (a1, ()) = X53 N a1 :=
  (show evF (c53 N) h53 Tryz.f53 as53 rs53 N (a1, ()) =
    bif (a1.1.length : Int) == 0 then
      some false
    else bif decide ((a1.2.2.2.1.size : Int) > 16) then
      some false
    else Option.bind (X85 N a1.2.2.2.1) fun v3 =>
    bif !v3 then
      some false
    else X53.l4.ce N [] N (X53.l4.t a1 0) (X53.l4.h a1 0) by kernel_rfl).trans (by simp only [X53.l4.e]; try rfl)
theorem X53.p (N : Nat) : PFun Tryz.prog gl 53 as53 rs53 (fun x => X53 N x.1) :=
  PFun.ev (c := c53 N) ⟨mixed, tiok, fun f k h => (by simp only [c53] at h; split at h <;> first | (cases h; done) | (cases h; first | exact X52.p N | exact X85.p N)), fun f k h => (by cases h), eqtok, fun t n f h => (by cases h)⟩ h53 (f := 53) (fn := Tryz.f53) (b := b53) (by kernel_rfl) (by kernel_rfl) (by kernel_rfl) (by kernel_rfl) (by decide) (fun x y h => ⟨N, (X53.ev N x.1).trans h⟩)
end Go.Eng.T
end
noncomputable section
namespace Go.Eng.T
open Go.RowKit
open Go.Proofs
set_option linter.unusedVariables false
/- impl.HallHouseOk -/
abbrev as27 : List Sh := [.agg T25r]
abbrev rs27 : Rs := .one (.one .bool)
def h27 : Hint := { keep := fun | 4 => [16, 17, 18] | _ => [] }
def c27 (N : Nat) : Cfg := { ti := ti, gl := gl, eqt := eqt, meth := fun _ _ => none, con := fun | 51 => some ⟨as51, rs51, fun x => X51 N x.1⟩ | 52 => some ⟨as52, rs52, fun x => X52 N x.1⟩ | 53 => some ⟨as53, rs53, fun x => X53 N x.1⟩ | _ => none }
def b27 : Code := match Tryz.f27.body with | some b => b | none => .skip
def X27.l4.t (a1 : T25.den) (p10 : Int) : List (Nat × D) := [(16, .val (.sl false T83r) a1.2.1), (17, .val (.int .i64) (a1.2.1.length : Int)), (18, .val (.int .i64) p10)]
def X27.l4.h (a1 : T25.den) (p10 : Int) : List E := [.box [.val (.sl false T77) a1.1, .val (.sl false T83r) a1.2.1]]
def X27.l4 (N : Nat) (a1 : T25.den)  : Nat → Int → Option Bool
  | 0, _ => none
  | n + 1, p10 =>
    bif decide (p10 < (a1.2.1.length : Int)) then
      (if (0 : Int) ≤ p10 then Option.bind (a1.2.1[p10.toNat]?) fun v11 =>
      bif v11.1 != (IntKind.i64.wrap (p10 + 1)) then
        some false
      else Option.bind (X52 N v11.2.1) fun v12 =>
      bif !v12 then
        some false
      else bif !(v11.2.2.1.toList == (⟨#[]⟩ : ByteArray).toList) then
        some false
      else Option.bind (X53 N v11.2.2.2.1) fun v13 =>
      bif !v13 then
        some false
      else X27.l4 N a1 n (IntKind.i64.wrap (p10 + 1)) else none)
    else some true
def X27.l4.ce (N : Nat) (oc : List (Nat × (List (Nat × D) → List E → Option Bool))) : Nat → List (Nat × D) → List E → Option Bool := loopAt (c27 N) h27 N (endK (c27 N) Tryz.f27 (mvRs rs27)) [.b, .b, .a, .b, .a] b27 oc 1
theorem X27.l4.s (N n : Nat)  (a1 : T25.den) (p10 : Int) : X27.l4.ce N [] (n + 1) (X27.l4.t a1 p10) (X27.l4.h a1 p10) =
    bif decide (p10 < (a1.2.1.length : Int)) then
      (if (0 : Int) ≤ p10 then Option.bind (a1.2.1[p10.toNat]?) fun v11 =>
      bif v11.1 != (IntKind.i64.wrap (p10 + 1)) then
        some false
      else Option.bind (X52 N v11.2.1) fun v12 =>
      bif !v12 then
        some false
      else bif !(v11.2.2.1.toList == (⟨#[]⟩ : ByteArray).toList) then
        some false
      else Option.bind (X53 N v11.2.2.2.1) fun v13 =>
      bif !v13 then
        some false
      else X27.l4.ce N [] n (X27.l4.t a1 (IntKind.i64.wrap (p10 + 1))) (X27.l4.h a1 (IntKind.i64.wrap (p10 + 1))) else none)
    else some true := by kernel_rfl
theorem X27.l4.e (N : Nat)  (a1 : T25.den) : ∀ (n : Nat) (p10 : Int), X27.l4.ce N [] n (X27.l4.t a1 p10) (X27.l4.h a1 p10) = X27.l4 N a1 n p10
  | 0, _ => rfl
  | n + 1, p10 => by rw [X27.l4.s, X27.l4]; (try simp only [X27.l4.e N a1 n])
def X27 (N : Nat) (a1 : T25.den) : Option Bool :=
  Option.bind (X51 N a1.1) fun v3 =>
  bif !v3 then
    some false
  else bif decide ((a1.2.1.length : Int) > 24) then
    some false
  else X27.l4 N a1 N 0
theorem X27.ev (N : Nat) (a1 : T25.den) : evF (c27 N) h27 Tryz.f27 as27 rs27 N (a1, ()) = X27 N a1 :=
  (show evF (c27 N) h27 Tryz.f27 as27 rs27 N (a1, ()) =
    Option.bind (X51 N a1.1) fun v3 =>
    bif !v3 then
      some false
    else bif decide ((a1.2.1.length : Int) > 24) then
      some false
    else X27.l4.ce N [] N (X27.l4.t a1 0) (X27.l4.h a1 0) by kernel_rfl).trans (by simp only [X27.l4.e]; try rfl)
theorem X27.p (N : Nat) : PFun Tryz.prog gl 27 as27 rs27 (fun x => X27 N x.1) :=
  PFun.ev (c := c27 N) ⟨mixed, tiok, fun f k h => (by simp only [c27] at h; split at h <;> first | (cases h; done) | (cases h; first | exact X51.p N | exact X52.p N | exact X53.p N)), fun f k h => (by cases h), eqtok, fun t n f h => (by cases h)⟩ h27 (f := 27) (fn := Tryz.f27) (b := b27) (by kernel_rfl) (by kernel_rfl) (by kernel_rfl) (by kernel_rfl) (by decide) (fun x y h => ⟨N, (X27.ev N x.1).trans h⟩)
end Go.Eng.T
end
noncomputable section
namespace Go.Eng.T
open Go.RowKit
open Go.Proofs
set_option linter.unusedVariables false
/- slices.Clone[[]impl.GateTeam,impl.GateTeam] -/
abbrev as79 : List Sh := [.one (.sl false T77)]
abbrev rs79 : Rs := .one (.one (.sl true T77))
def h79 : Hint := { join := fun | 3 => some ([0], 0) | _ => none }
def c79 (N : Nat) : Cfg := { ti := ti, gl := gl, eqt := eqt, meth := fun _ _ => none, con := fun _ => none }
def b79 : Code := match Tryz.f79.body with | some b => b | none => .skip
def X79.j3.t (a1 : List T77.den) : List (Nat × D) := [(0, .val (.sl false T77) a1)]
def X79.j3.h (a1 : List T77.den) : List E := []
def X79.j3 (N : Nat) (a1 : List T77.den)   : Option (List T77.den) :=
    pass N <|
    (if (([] : List T77.den).length + a1.length) * 32 ≤ 140737488355328 then some (([] : List T77.den) ++ a1) else none)
def X79.j3.ce (N : Nat) (oc : List (Nat × (List (Nat × D) → List E → Option (List T77.den)))) : List (Nat × D) → List E → Option (List T77.den) := joinAt (c79 N) h79 N (endK (c79 N) Tryz.f79 (mvRs rs79)) [.b, .b] b79 oc
theorem X79.j3.e (N : Nat)  (a1 : List T77.den) : X79.j3.ce N [] (X79.j3.t a1) (X79.j3.h a1) = X79.j3 N a1 :=
  (joinAt_eq (show partAt (c79 N) h79 N (endK (c79 N) Tryz.f79 (mvRs rs79)) [.b, .b] b79 [] (X79.j3.t a1) (X79.j3.h a1) =
    (if (([] : List T77.den).length + a1.length) * 32 ≤ 140737488355328 then some (([] : List T77.den) ++ a1) else none) by kernel_rfl)).trans (by rfl)
def X79 (N : Nat) (a1 : List T77.den) : Option (List T77.den) :=
  bif a1.isEmpty then
    both (some ([] : List T77.den)) (X79.j3 N a1)
  else X79.j3 N a1
theorem X79.ev (N : Nat) (a1 : List T77.den) : evF (c79 N) h79 Tryz.f79 as79 rs79 N (a1, ()) = X79 N a1 :=
  (show evF (c79 N) h79 Tryz.f79 as79 rs79 N (a1, ()) =
    bif a1.isEmpty then
      both (some ([] : List T77.den)) (X79.j3.ce N [] (X79.j3.t a1) (X79.j3.h a1))
    else X79.j3.ce N [] (X79.j3.t a1) (X79.j3.h a1) by kernel_rfl).trans (by simp only [X79.j3.e, X79.j3.e]; try rfl)
theorem X79.p (N : Nat) : PFun Tryz.prog gl 79 as79 rs79 (fun x => X79 N x.1) :=
  PFun.ev (c := c79 N) ⟨mixed, tiok, fun f k h => (by cases h), fun f k h => (by cases h), eqtok, fun t n f h => (by cases h)⟩ h79 (f := 79) (fn := Tryz.f79) (b := b79) (by kernel_rfl) (by kernel_rfl) (by kernel_rfl) (by kernel_rfl) (by decide) (fun x y h => ⟨N, (X79.ev N x.1).trans h⟩)
end Go.Eng.T
end
noncomputable section
namespace Go.Eng.T
open Go.RowKit
open Go.Proofs
set_option linter.unusedVariables false
/- slices.Clone[[]impl.GateGrant,impl.GateGrant] -/
abbrev as119 : List Sh := [.one (.sl false T83r)]
abbrev rs119 : Rs := .one (.one (.sl true T83r))
def h119 : Hint := { row := fun | 5 => some T83r | _ => none, join := fun | 3 => some ([0], 0) | _ => none }
def c119 (N : Nat) : Cfg := { ti := ti, gl := gl, eqt := eqt, meth := fun _ _ => none, con := fun _ => none }
def b119 : Code := match Tryz.f119.body with | some b => b | none => .skip
def X119.j3.t (a1 : List T83.den) : List (Nat × D) := [(0, .val (.sl false T83r) a1)]
def X119.j3.h (a1 : List T83.den) : List E := []
def X119.j3 (N : Nat) (a1 : List T83.den)   : Option (List T83.den) :=
    pass N <|
    (if (([] : List T83.den).length + a1.length) * 112 ≤ 140737488355328 then some (([] : List T83.den) ++ a1) else none)
def X119.j3.ce (N : Nat) (oc : List (Nat × (List (Nat × D) → List E → Option (List T83.den)))) : List (Nat × D) → List E → Option (List T83.den) := joinAt (c119 N) h119 N (endK (c119 N) Tryz.f119 (mvRs rs119)) [.b, .b] b119 oc
theorem X119.j3.e (N : Nat)  (a1 : List T83.den) : X119.j3.ce N [] (X119.j3.t a1) (X119.j3.h a1) = X119.j3 N a1 :=
  (joinAt_eq (show partAt (c119 N) h119 N (endK (c119 N) Tryz.f119 (mvRs rs119)) [.b, .b] b119 [] (X119.j3.t a1) (X119.j3.h a1) =
    (if (([] : List T83.den).length + a1.length) * 112 ≤ 140737488355328 then some (([] : List T83.den) ++ a1) else none) by kernel_rfl)).trans (by rfl)
def X119 (N : Nat) (a1 : List T83.den) : Option (List T83.den) :=
  bif a1.isEmpty then
    both (some ([] : List T83.den)) (X119.j3 N a1)
  else X119.j3 N a1
theorem X119.ev (N : Nat) (a1 : List T83.den) : evF (c119 N) h119 Tryz.f119 as119 rs119 N (a1, ()) = X119 N a1 :=
  (show evF (c119 N) h119 Tryz.f119 as119 rs119 N (a1, ()) =
    bif a1.isEmpty then
      both (some ([] : List T83.den)) (X119.j3.ce N [] (X119.j3.t a1) (X119.j3.h a1))
    else X119.j3.ce N [] (X119.j3.t a1) (X119.j3.h a1) by kernel_rfl).trans (by simp only [X119.j3.e, X119.j3.e]; try rfl)
theorem X119.p (N : Nat) : PFun Tryz.prog gl 119 as119 rs119 (fun x => X119 N x.1) :=
  PFun.ev (c := c119 N) ⟨mixed, tiok, fun f k h => (by cases h), fun f k h => (by cases h), eqtok, fun t n f h => (by cases h)⟩ h119 (f := 119) (fn := Tryz.f119) (b := b119) (by kernel_rfl) (by kernel_rfl) (by kernel_rfl) (by kernel_rfl) (by decide) (fun x y h => ⟨N, (X119.ev N x.1).trans h⟩)
end Go.Eng.T
end
noncomputable section
namespace Go.Eng.T
open Go.RowKit
open Go.Proofs
set_option linter.unusedVariables false
/- slices.Clone[[]int,int] -/
abbrev as120 : List Sh := [.one (.sl false (.int .i64))]
abbrev rs120 : Rs := .one (.one (.sl true (.int .i64)))
def h120 : Hint := { join := fun | 3 => some ([0], 0) | _ => none }
def c120 (N : Nat) : Cfg := { ti := ti, gl := gl, eqt := eqt, meth := fun _ _ => none, con := fun _ => none }
def b120 : Code := match Tryz.f120.body with | some b => b | none => .skip
def X120.j3.t (a1 : List Int) : List (Nat × D) := [(0, .val (.sl false (.int .i64)) a1)]
def X120.j3.h (a1 : List Int) : List E := []
def X120.j3 (N : Nat) (a1 : List Int)   : Option (List Int) :=
    pass N <|
    (if (([] : List Int).length + a1.length) * 8 ≤ 140737488355328 then some (([] : List Int) ++ a1) else none)
def X120.j3.ce (N : Nat) (oc : List (Nat × (List (Nat × D) → List E → Option (List Int)))) : List (Nat × D) → List E → Option (List Int) := joinAt (c120 N) h120 N (endK (c120 N) Tryz.f120 (mvRs rs120)) [.b, .b] b120 oc
theorem X120.j3.e (N : Nat)  (a1 : List Int) : X120.j3.ce N [] (X120.j3.t a1) (X120.j3.h a1) = X120.j3 N a1 :=
  (joinAt_eq (show partAt (c120 N) h120 N (endK (c120 N) Tryz.f120 (mvRs rs120)) [.b, .b] b120 [] (X120.j3.t a1) (X120.j3.h a1) =
    (if (([] : List Int).length + a1.length) * 8 ≤ 140737488355328 then some (([] : List Int) ++ a1) else none) by kernel_rfl)).trans (by rfl)
def X120 (N : Nat) (a1 : List Int) : Option (List Int) :=
  bif a1.isEmpty then
    both (some ([] : List Int)) (X120.j3 N a1)
  else X120.j3 N a1
theorem X120.ev (N : Nat) (a1 : List Int) : evF (c120 N) h120 Tryz.f120 as120 rs120 N (a1, ()) = X120 N a1 :=
  (show evF (c120 N) h120 Tryz.f120 as120 rs120 N (a1, ()) =
    bif a1.isEmpty then
      both (some ([] : List Int)) (X120.j3.ce N [] (X120.j3.t a1) (X120.j3.h a1))
    else X120.j3.ce N [] (X120.j3.t a1) (X120.j3.h a1) by kernel_rfl).trans (by simp only [X120.j3.e, X120.j3.e]; try rfl)
theorem X120.p (N : Nat) : PFun Tryz.prog gl 120 as120 rs120 (fun x => X120 N x.1) :=
  PFun.ev (c := c120 N) ⟨mixed, tiok, fun f k h => (by cases h), fun f k h => (by cases h), eqtok, fun t n f h => (by cases h)⟩ h120 (f := 120) (fn := Tryz.f120) (b := b120) (by kernel_rfl) (by kernel_rfl) (by kernel_rfl) (by kernel_rfl) (by decide) (fun x y h => ⟨N, (X120.ev N x.1).trans h⟩)
end Go.Eng.T
end
noncomputable section
namespace Go.Eng.T
open Go.RowKit
open Go.Proofs
set_option linter.unusedVariables false
/- impl.hwGrants -/
abbrev as80 : List Sh := [.one (.sl false T83r)]
abbrev rs80 : Rs := .one (.one (.sl true T83))
def h80 : Hint := { keep := fun | 3 => [3, 8, 9] | _ => [], mix := fun | 3 => [(0, T83)] | _ => [] }
def c80 (N : Nat) : Cfg := { ti := ti, gl := gl, eqt := eqt, meth := fun _ _ => none, con := fun | 119 => some ⟨as119, rs119, fun x => X119 N x.1⟩ | 120 => some ⟨as120, rs120, fun x => X120 N x.1⟩ | _ => none }
def b80 : Code := match Tryz.f80.body with | some b => b | none => .skip
def X80.l3.t (v2 : List T83.den) (p3 : Int) (p4 : List T83.den) (p5 : Nat) : List (Nat × D) := [(3, .ow 0), (8, .val (.int .i64) (v2.length : Int)), (9, .val (.int .i64) p3)]
def X80.l3.h (v2 : List T83.den) (p3 : Int) (p4 : List T83.den) (p5 : Nat) : List E := [.mix T83 p4 p5]
def X80.l3 (N : Nat) (v2 : List T83.den)  : Nat → Int → (List T83.den) → Nat → Option (List T83.den)
  | 0, _, _, _ => none
  | n + 1, p3, p4, p5 =>
    bif decide (p3 < (v2.length : Int)) then
      (if (0 : Int) ≤ p3 then (if p3 < (p4.length : Int) then Option.bind (p4[p3.toNat]?) fun v6 =>
      (if p3.toNat = p5 then Option.bind (X120 N v6.2.2.2.1.1) fun v7 =>
      (if (0 : Int) ≤ p3 then (if p3 < (p4.length : Int) then Option.bind (p4[p3.toNat]?) fun v8 =>
      (if p3.toNat = p5 then X80.l3 N v2 n (IntKind.i64.wrap (p3 + 1)) (p4.set p3.toNat (v8.1, v8.2.1, v8.2.2.1, (v7, v8.2.2.2.1.2), v8.2.2.2.2)) (p5 + 1) else none) else none) else none) else none) else none) else none)
    else (if p5 = p4.length then some p4 else none)
def X80.l3.ce (N : Nat) (oc : List (Nat × (List (Nat × D) → List E → Option (List T83.den)))) : Nat → List (Nat × D) → List E → Option (List T83.den) := loopAt (c80 N) h80 N (endK (c80 N) Tryz.f80 (mvRs rs80)) [.b, .b, .a, .b, .a] b80 oc 1
theorem X80.l3.s (N n : Nat)  (v2 : List T83.den) (p3 : Int) (p4 : List T83.den) (p5 : Nat) : X80.l3.ce N [] (n + 1) (X80.l3.t v2 p3 p4 p5) (X80.l3.h v2 p3 p4 p5) =
    bif decide (p3 < (v2.length : Int)) then
      (if (0 : Int) ≤ p3 then (if p3 < (p4.length : Int) then Option.bind (p4[p3.toNat]?) fun v6 =>
      (if p3.toNat = p5 then Option.bind (X120 N v6.2.2.2.1.1) fun v7 =>
      (if (0 : Int) ≤ p3 then (if p3 < (p4.length : Int) then Option.bind (p4[p3.toNat]?) fun v8 =>
      (if p3.toNat = p5 then X80.l3.ce N [] n (X80.l3.t v2 (IntKind.i64.wrap (p3 + 1)) (p4.set p3.toNat (v8.1, v8.2.1, v8.2.2.1, (v7, v8.2.2.2.1.2), v8.2.2.2.2)) (p5 + 1)) (X80.l3.h v2 (IntKind.i64.wrap (p3 + 1)) (p4.set p3.toNat (v8.1, v8.2.1, v8.2.2.1, (v7, v8.2.2.2.1.2), v8.2.2.2.2)) (p5 + 1)) else none) else none) else none) else none) else none) else none)
    else (if p5 = p4.length then some p4 else none) := by kernel_rfl
theorem X80.l3.e (N : Nat)  (v2 : List T83.den) : ∀ (n : Nat) (p3 : Int) (p4 : List T83.den) (p5 : Nat), X80.l3.ce N [] n (X80.l3.t v2 p3 p4 p5) (X80.l3.h v2 p3 p4 p5) = X80.l3 N v2 n p3 p4 p5
  | 0, _, _, _ => rfl
  | n + 1, p3, p4, p5 => by rw [X80.l3.s, X80.l3]; (try simp only [X80.l3.e N v2 n])
def X80 (N : Nat) (a1 : List T83.den) : Option (List T83.den) :=
  Option.bind (X119 N a1) fun v2 =>
  X80.l3 N v2 N 0 v2 0
theorem X80.ev (N : Nat) (a1 : List T83.den) : evF (c80 N) h80 Tryz.f80 as80 rs80 N (a1, ()) = X80 N a1 :=
  (show evF (c80 N) h80 Tryz.f80 as80 rs80 N (a1, ()) =
    Option.bind (X119 N a1) fun v2 =>
    X80.l3.ce N [] N (X80.l3.t v2 0 v2 0) (X80.l3.h v2 0 v2 0) by kernel_rfl).trans (by simp only [X80.l3.e]; try rfl)
theorem X80.p (N : Nat) : PFun Tryz.prog gl 80 as80 rs80 (fun x => X80 N x.1) :=
  PFun.ev (c := c80 N) ⟨mixed, tiok, fun f k h => (by simp only [c80] at h; split at h <;> first | (cases h; done) | (cases h; first | exact X119.p N | exact X120.p N)), fun f k h => (by cases h), eqtok, fun t n f h => (by cases h)⟩ h80 (f := 80) (fn := Tryz.f80) (b := b80) (by kernel_rfl) (by kernel_rfl) (by kernel_rfl) (by kernel_rfl) (by decide) (fun x y h => ⟨N, (X80.ev N x.1).trans h⟩)
end Go.Eng.T
end
noncomputable section
namespace Go.Eng.T
open Go.RowKit
open Go.Proofs
set_option linter.unusedVariables false
/- impl.hwCopyHouse -/
abbrev as49 : List Sh := [.agg T25r]
abbrev rs49 : Rs := .one (.agg T25)
def h49 : Hint := {  }
def c49 (N : Nat) : Cfg := { ti := ti, gl := gl, eqt := eqt, meth := fun _ _ => none, con := fun | 79 => some ⟨as79, rs79, fun x => X79 N x.1⟩ | 80 => some ⟨as80, rs80, fun x => X80 N x.1⟩ | _ => none }
def b49 : Code := match Tryz.f49.body with | some b => b | none => .skip
def X49 (N : Nat) (a1 : T25.den) : Option T25.den :=
  Option.bind (X79 N a1.1) fun v2 =>
  Option.bind (X80 N a1.2.1) fun v3 =>
  some (v2, v3, ())
theorem X49.ev (N : Nat) (a1 : T25.den) : evF (c49 N) h49 Tryz.f49 as49 rs49 N (a1, ()) = X49 N a1 := by kernel_rfl
theorem X49.p (N : Nat) : PFun Tryz.prog gl 49 as49 rs49 (fun x => X49 N x.1) :=
  PFun.ev (c := c49 N) ⟨mixed, tiok, fun f k h => (by simp only [c49] at h; split at h <;> first | (cases h; done) | (cases h; first | exact X79.p N | exact X80.p N)), fun f k h => (by cases h), eqtok, fun t n f h => (by cases h)⟩ h49 (f := 49) (fn := Tryz.f49) (b := b49) (by kernel_rfl) (by kernel_rfl) (by kernel_rfl) (by kernel_rfl) (by decide) (fun x y h => ⟨N, (X49.ev N x.1).trans h⟩)
end Go.Eng.T
end
noncomputable section
namespace Go.Eng.T
open Go.RowKit
open Go.Proofs
set_option linter.unusedVariables false
/- impl.within_rec -/
abbrev as81 : List Sh := [.one (.int .i64), .one (.int .i64), .one (.int .i64)]
abbrev rs81 : Rs := .one (.one .bool)
def h81 : Hint := {  }
def c81 (N : Nat) : Cfg := { ti := ti, gl := gl, eqt := eqt, meth := fun _ _ => none, con := fun _ => none }
def b81 : Code := match Tryz.f81.body with | some b => b | none => .skip
def X81 (N : Nat) (a1 : Int) (a2 : Int) (a3 : Int) : Option Bool :=
  bif decide (a1 ≥ a2) then
    some (decide (a1 ≤ a3))
  else some false
theorem X81.ev (N : Nat) (a1 : Int) (a2 : Int) (a3 : Int) : evF (c81 N) h81 Tryz.f81 as81 rs81 N (a1, a2, a3, ()) = X81 N a1 a2 a3 := by kernel_rfl
theorem X81.p (N : Nat) : PFun Tryz.prog gl 81 as81 rs81 (fun x => X81 N x.1 x.2.1 x.2.2.1) :=
  PFun.ev (c := c81 N) ⟨mixed, tiok, fun f k h => (by cases h), fun f k h => (by cases h), eqtok, fun t n f h => (by cases h)⟩ h81 (f := 81) (fn := Tryz.f81) (b := b81) (by kernel_rfl) (by kernel_rfl) (by kernel_rfl) (by kernel_rfl) (by decide) (fun x y h => ⟨N, (X81.ev N x.1 x.2.1 x.2.2.1).trans h⟩)
end Go.Eng.T
end
noncomputable section
namespace Go.Eng.T
open Go.RowKit
open Go.Proofs
set_option linter.unusedVariables false
/- impl.RecNew -/
abbrev as82 : List Sh := [.one (.int .i64), .one (.int .i64)]
abbrev rs82 : Rs := .one (.agg T114)
def h82 : Hint := {  }
def c82 (N : Nat) : Cfg := { ti := ti, gl := gl, eqt := eqt, meth := fun _ _ => none, con := fun | 81 => some ⟨as81, rs81, fun x => X81 N x.1 x.2.1 x.2.2.1⟩ | _ => none }
def b82 : Code := match Tryz.f82.body with | some b => b | none => .skip
def X82 (N : Nat) (a1 : Int) (a2 : Int) : Option T114.den :=
  Option.bind (X81 N a2 1 5) fun v3 =>
  bif !v3 then
    some (0, 0, false, (0, 0, ([] : List T218.den), ()), (0, 0, ([] : List T218.den), ()), ([] : List T160.den), ([] : List ByteArray), false, false, 0, ([] : List Int), ([] : List T218.den), ([] : List T198.den), 0, ())
  else Option.bind (X81 N a1 1 a2) fun v4 =>
  bif !v4 then
    some (0, 0, false, (0, 0, ([] : List T218.den), ()), (0, 0, ([] : List T218.den), ()), ([] : List T160.den), ([] : List ByteArray), false, false, 0, ([] : List Int), ([] : List T218.den), ([] : List T198.den), 0, ())
  else some (a1, a2, true, (0, 0, ([] : List T218.den), ()), (0, 0, ([] : List T218.den), ()), ([] : List T160.den), ([] : List ByteArray), false, false, 0, ([] : List Int), ([] : List T218.den), ([] : List T198.den), 0, ())
theorem X82.ev (N : Nat) (a1 : Int) (a2 : Int) : evF (c82 N) h82 Tryz.f82 as82 rs82 N (a1, a2, ()) = X82 N a1 a2 := by kernel_rfl
theorem X82.p (N : Nat) : PFun Tryz.prog gl 82 as82 rs82 (fun x => X82 N x.1 x.2.1) :=
  PFun.ev (c := c82 N) ⟨mixed, tiok, fun f k h => (by simp only [c82] at h; split at h <;> first | (cases h; done) | (cases h; first | exact X81.p N)), fun f k h => (by cases h), eqtok, fun t n f h => (by cases h)⟩ h82 (f := 82) (fn := Tryz.f82) (b := b82) (by kernel_rfl) (by kernel_rfl) (by kernel_rfl) (by kernel_rfl) (by decide) (fun x y h => ⟨N, (X82.ev N x.1 x.2.1).trans h⟩)
end Go.Eng.T
end
noncomputable section
namespace Go.Eng.T
open Go.RowKit
open Go.Proofs
set_option linter.unusedVariables false
/- impl.RecNewWorld -/
abbrev as50 : List Sh := [.one (.int .i64)]
abbrev rs50 : Rs := .one (.agg T37)
def h50 : Hint := { keep := fun | 4 => [0, 2, 3, 4] | _ => [], inib := fun | 4 => [(1, 0, T114)] | _ => [] }
def c50 (N : Nat) : Cfg := { ti := ti, gl := gl, eqt := eqt, meth := fun _ _ => none, con := fun | 81 => some ⟨as81, rs81, fun x => X81 N x.1 x.2.1 x.2.2.1⟩ | 82 => some ⟨as82, rs82, fun x => X82 N x.1 x.2.1⟩ | _ => none }
def b50 : Code := match Tryz.f50.body with | some b => b | none => .skip
def X50.l4.t (a1 : Int) (p3 : Int) (p4 : List T114.den) : List (Nat × D) := [(0, .val (.int .i64) a1), (2, .bp 0 0), (3, .bp 1 0), (4, .val (.int .i64) p3)]
def X50.l4.h (a1 : Int) (p3 : Int) (p4 : List T114.den) : List E := [.box [.imm (.slice none 0 0), .imm (.slice none 0 0), .imm (.slice none 0 0)], .box [.ow 2, .imm (.slice none 0 0), .imm (.slice none 0 0)], .arr T114 p4]
def X50.l4 (N : Nat) (a1 : Int)  : Nat → Int → (List T114.den) → Option T37.den
  | 0, _, _ => none
  | n + 1, p3, p4 =>
    bif decide (p3 ≤ a1) then
      Option.bind (X82 N p3 a1) fun v5 =>
      (if (p4.length + [v5].length) * 248 ≤ 140737488355328 then X50.l4 N a1 n (IntKind.i64.wrap (p3 + 1)) (p4 ++ [v5]) else none)
    else some (p4, ([] : List T160.den), ([] : List T218.den), ())
def X50.l4.ce (N : Nat) (oc : List (Nat × (List (Nat × D) → List E → Option T37.den))) : Nat → List (Nat × D) → List E → Option T37.den := loopAt (c50 N) h50 N (endK (c50 N) Tryz.f50 (mvRs rs50)) [.b, .b, .a, .b, .a, .b, .a] b50 oc 3
theorem X50.l4.s (N n : Nat)  (a1 : Int) (p3 : Int) (p4 : List T114.den) : X50.l4.ce N [] (n + 1) (X50.l4.t a1 p3 p4) (X50.l4.h a1 p3 p4) =
    bif decide (p3 ≤ a1) then
      Option.bind (X82 N p3 a1) fun v5 =>
      (if (p4.length + [v5].length) * 248 ≤ 140737488355328 then X50.l4.ce N [] n (X50.l4.t a1 (IntKind.i64.wrap (p3 + 1)) (p4 ++ [v5])) (X50.l4.h a1 (IntKind.i64.wrap (p3 + 1)) (p4 ++ [v5])) else none)
    else some (p4, ([] : List T160.den), ([] : List T218.den), ()) := by kernel_rfl
theorem X50.l4.e (N : Nat)  (a1 : Int) : ∀ (n : Nat) (p3 : Int) (p4 : List T114.den), X50.l4.ce N [] n (X50.l4.t a1 p3 p4) (X50.l4.h a1 p3 p4) = X50.l4 N a1 n p3 p4
  | 0, _, _ => rfl
  | n + 1, p3, p4 => by rw [X50.l4.s, X50.l4]; (try simp only [X50.l4.e N a1 n])
def X50 (N : Nat) (a1 : Int) : Option T37.den :=
  Option.bind (X81 N a1 1 5) fun v2 =>
  bif v2 then
    X50.l4 N a1 N 1 ([] : List T114.den)
  else some (([] : List T114.den), ([] : List T160.den), ([] : List T218.den), ())
theorem X50.ev (N : Nat) (a1 : Int) : evF (c50 N) h50 Tryz.f50 as50 rs50 N (a1, ()) = X50 N a1 :=
  (show evF (c50 N) h50 Tryz.f50 as50 rs50 N (a1, ()) =
    Option.bind (X81 N a1 1 5) fun v2 =>
    bif v2 then
      X50.l4.ce N [] N (X50.l4.t a1 1 ([] : List T114.den)) (X50.l4.h a1 1 ([] : List T114.den))
    else some (([] : List T114.den), ([] : List T160.den), ([] : List T218.den), ()) by kernel_rfl).trans (by simp only [X50.l4.e]; try rfl)
theorem X50.p (N : Nat) : PFun Tryz.prog gl 50 as50 rs50 (fun x => X50 N x.1) :=
  PFun.ev (c := c50 N) ⟨mixed, tiok, fun f k h => (by simp only [c50] at h; split at h <;> first | (cases h; done) | (cases h; first | exact X81.p N | exact X82.p N)), fun f k h => (by cases h), eqtok, fun t n f h => (by cases h)⟩ h50 (f := 50) (fn := Tryz.f50) (b := b50) (by kernel_rfl) (by kernel_rfl) (by kernel_rfl) (by kernel_rfl) (by decide) (fun x y h => ⟨N, (X50.ev N x.1).trans h⟩)
end Go.Eng.T
end
