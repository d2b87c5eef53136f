/- Part of the proof: functions that the law reaches, each with the typed function that it computes. -/
import Derived.Test.YtadefgfohmkheaaGreatDoorP1
noncomputable section
namespace Go.Eng.T
open Go.RowKit
open Go.Proofs
set_option linter.unusedVariables false
/- spec.l4RuleOk -/
abbrev as69 : List Sh := [.agg T81r]
abbrev rs69 : Rs := .one (.one .bool)
def h69 : Hint := { keep := fun | 4 => [1, 3] | 9 => [1, 4] | _ => [], join := fun | 3 => some ([1], 1) | _ => none }
def c69 (N : Nat) : Cfg := { ti := ti, gl := gl, eqt := eqt, meth := fun _ _ => none, con := fun | 42 => some ⟨as42, rs42, fun x => X42 N x.1 x.2.1 x.2.2.1⟩ | 68 => some ⟨as68, rs68, fun x => X68 N x.1⟩ | 108 => some ⟨as108, rs108, fun x => X108 N x.1⟩ | _ => none }
def b69 : Code := match Tryz.f69.body with | some b => b | none => .skip
def X69.l9.t (a1 : T81.den) (p50 : Int) : List (Nat × D) := [(1, .bp 0 0), (4, .val (.int .i64) p50)]
def X69.l9.h (a1 : T81.den) (p50 : Int) : List E := [.box [.val (.sl false (.int .i64)) a1.1, .val .str a1.2.1, .val .str a1.2.2.1, .val .str a1.2.2.2.1]]
def X69.l4.t (a1 : T81.den) (p38 : Int) : List (Nat × D) := [(1, .bp 0 0), (3, .val (.int .i64) p38)]
def X69.l4.h (a1 : T81.den) (p38 : Int) : List E := [.box [.val (.sl false (.int .i64)) a1.1, .val .str a1.2.1, .val .str a1.2.2.1, .val .str a1.2.2.2.1]]
def X69.j3.t (a1 : T81.den) : List (Nat × D) := [(1, .bp 0 0)]
def X69.j3.h (a1 : T81.den) : List E := [.box [.val (.sl false (.int .i64)) a1.1, .val .str a1.2.1, .val .str a1.2.2.1, .val .str a1.2.2.2.1]]
def X69.l9 (N : Nat) (a1 : T81.den)  : Nat → Int → Option Bool
  | 0, _ => none
  | n + 1, p50 =>
    bif decide (p50 < (a1.2.2.2.1.size : Int)) then
      (if (0 : Int) ≤ p50 then Option.bind (a1.2.2.2.1[p50.toNat]?) fun b51 =>
      Option.bind (X108 N (b51.toNat : Int)) fun v52 =>
      bif !v52 then
        some false
      else X69.l9 N a1 n (IntKind.i64.wrap (p50 + 1)) else none)
    else some true
def X69.l9.ce (N : Nat) (oc : List (Nat × (List (Nat × D) → List E → Option Bool))) : Nat → List (Nat × D) → List E → Option Bool := loopAt (c69 N) h69 N (endK (c69 N) Tryz.f69 (mvRs rs69)) [.b, .b, .b, .a, .b, .a] b69 oc 1
theorem X69.l9.s (N n : Nat)  (a1 : T81.den) (p50 : Int) : X69.l9.ce N [] (n + 1) (X69.l9.t a1 p50) (X69.l9.h a1 p50) =
    bif decide (p50 < (a1.2.2.2.1.size : Int)) then
      (if (0 : Int) ≤ p50 then Option.bind (a1.2.2.2.1[p50.toNat]?) fun b51 =>
      Option.bind (X108 N (b51.toNat : Int)) fun v52 =>
      bif !v52 then
        some false
      else X69.l9.ce N [] n (X69.l9.t a1 (IntKind.i64.wrap (p50 + 1))) (X69.l9.h a1 (IntKind.i64.wrap (p50 + 1))) else none)
    else some true := by kernel_rfl
theorem X69.l9.e (N : Nat)  (a1 : T81.den) : ∀ (n : Nat) (p50 : Int), X69.l9.ce N [] n (X69.l9.t a1 p50) (X69.l9.h a1 p50) = X69.l9 N a1 n p50
  | 0, _ => rfl
  | n + 1, p50 => by rw [X69.l9.s, X69.l9]; (try simp only [X69.l9.e N a1 n])
def X69.l4 (N : Nat) (a1 : T81.den)  : Nat → Int → Option Bool
  | 0, _ => none
  | n + 1, p38 =>
    bif decide (p38 < (a1.1.length : Int)) then
      (if (0 : Int) ≤ p38 then Option.bind (a1.1[p38.toNat]?) fun v39 =>
      Option.bind (X42 N v39 1 5) fun v40 =>
      bif !v40 then
        some false
      else bif decide (p38 > 0) then
        (if (0 : Int) ≤ (IntKind.i64.wrap (p38 - 1)) then Option.bind (a1.1[(IntKind.i64.wrap (p38 - 1)).toNat]?) fun v41 =>
        (if (0 : Int) ≤ p38 then Option.bind (a1.1[p38.toNat]?) fun v42 =>
        bif decide (v41 ≥ v42) then
          some false
        else X69.l4 N a1 n (IntKind.i64.wrap (p38 + 1)) else none) else none)
      else X69.l4 N a1 n (IntKind.i64.wrap (p38 + 1)) else none)
    else X69.l9 N a1 N 0
def X69.l4.ce (N : Nat) (oc : List (Nat × (List (Nat × D) → List E → Option Bool))) : Nat → List (Nat × D) → List E → Option Bool := loopAt (c69 N) h69 N (endK (c69 N) Tryz.f69 (mvRs rs69)) [.b, .b, .a, .b, .a] b69 oc 1
theorem X69.l4.s (N n : Nat)  (a1 : T81.den) (p38 : Int) : X69.l4.ce N [] (n + 1) (X69.l4.t a1 p38) (X69.l4.h a1 p38) =
    bif decide (p38 < (a1.1.length : Int)) then
      (if (0 : Int) ≤ p38 then Option.bind (a1.1[p38.toNat]?) fun v39 =>
      Option.bind (X42 N v39 1 5) fun v40 =>
      bif !v40 then
        some false
      else bif decide (p38 > 0) then
        (if (0 : Int) ≤ (IntKind.i64.wrap (p38 - 1)) then Option.bind (a1.1[(IntKind.i64.wrap (p38 - 1)).toNat]?) fun v41 =>
        (if (0 : Int) ≤ p38 then Option.bind (a1.1[p38.toNat]?) fun v42 =>
        bif decide (v41 ≥ v42) then
          some false
        else X69.l4.ce N [] n (X69.l4.t a1 (IntKind.i64.wrap (p38 + 1))) (X69.l4.h a1 (IntKind.i64.wrap (p38 + 1))) else none) else none)
      else X69.l4.ce N [] n (X69.l4.t a1 (IntKind.i64.wrap (p38 + 1))) (X69.l4.h a1 (IntKind.i64.wrap (p38 + 1))) else none)
    else X69.l9.ce N [] N (X69.l9.t a1 0) (X69.l9.h a1 0) := by kernel_rfl
theorem X69.l4.e (N : Nat)  (a1 : T81.den) : ∀ (n : Nat) (p38 : Int), X69.l4.ce N [] n (X69.l4.t a1 p38) (X69.l4.h a1 p38) = X69.l4 N a1 n p38
  | 0, _ => rfl
  | n + 1, p38 => by rw [X69.l4.s, X69.l4]; (try simp only [X69.l4.e N a1 n, X69.l9.e])
def X69.j3 (N : Nat) (a1 : T81.den)   : Option Bool :=
    pass N <|
    X69.l4 N a1 N 0
def X69.j3.ce (N : Nat) (oc : List (Nat × (List (Nat × D) → List E → Option Bool))) : List (Nat × D) → List E → Option Bool := joinAt (c69 N) h69 N (endK (c69 N) Tryz.f69 (mvRs rs69)) [.b, .b] b69 oc
theorem X69.j3.e (N : Nat)  (a1 : T81.den) : X69.j3.ce N [] (X69.j3.t a1) (X69.j3.h a1) = X69.j3 N a1 :=
  (joinAt_eq (show partAt (c69 N) h69 N (endK (c69 N) Tryz.f69 (mvRs rs69)) [.b, .b] b69 [] (X69.j3.t a1) (X69.j3.h a1) =
    X69.l4.ce N [] N (X69.l4.t a1 0) (X69.l4.h a1 0) by kernel_rfl)).trans (by rw [X69.j3]; simp only [X69.l4.e])
def X69 (N : Nat) (a1 : T81.den) : Option Bool :=
  bif (a1.1.length : Int) == 0 then
    some false
  else bif decide ((a1.2.2.2.1.size : Int) > 16) then
    some false
  else bif !(a1.2.1.toList == (⟨#[]⟩ : ByteArray).toList) then
    Option.bind (X68 N a1.2.1) fun v53 =>
    bif !v53 then
      some false
    else bif !(a1.2.2.1.toList == (⟨#[]⟩ : ByteArray).toList) then
      Option.bind (X68 N a1.2.2.1) fun v54 =>
      bif !v54 then
        some false
      else X69.j3 N a1
    else X69.j3 N a1
  else bif !(a1.2.2.1.toList == (⟨#[]⟩ : ByteArray).toList) then
    Option.bind (X68 N a1.2.2.1) fun v55 =>
    bif !v55 then
      some false
    else X69.j3 N a1
  else X69.j3 N a1
theorem X69.ev (N : Nat) (a1 : T81.den) : evF (c69 N) h69 Tryz.f69 as69 rs69 N (a1, ()) = X69 N a1 :=
  (show evF (c69 N) h69 Tryz.f69 as69 rs69 N (a1, ()) =
    bif (a1.1.length : Int) == 0 then
      some false
    else bif decide ((a1.2.2.2.1.size : Int) > 16) then
      some false
    else bif !(a1.2.1.toList == (⟨#[]⟩ : ByteArray).toList) then
      Option.bind (X68 N a1.2.1) fun v53 =>
      bif !v53 then
        some false
      else bif !(a1.2.2.1.toList == (⟨#[]⟩ : ByteArray).toList) then
        Option.bind (X68 N a1.2.2.1) fun v54 =>
        bif !v54 then
          some false
        else X69.j3.ce N [] (X69.j3.t a1) (X69.j3.h a1)
      else X69.j3.ce N [] (X69.j3.t a1) (X69.j3.h a1)
    else bif !(a1.2.2.1.toList == (⟨#[]⟩ : ByteArray).toList) then
      Option.bind (X68 N a1.2.2.1) fun v55 =>
      bif !v55 then
        some false
      else X69.j3.ce N [] (X69.j3.t a1) (X69.j3.h a1)
    else X69.j3.ce N [] (X69.j3.t a1) (X69.j3.h a1) by kernel_rfl).trans (by simp only [X69.j3.e, X69.j3.e, X69.j3.e, X69.j3.e]; try rfl)
theorem X69.p (N : Nat) : PFun Tryz.prog gl 69 as69 rs69 (fun x => X69 N x.1) :=
  PFun.ev (c := c69 N) ⟨mixed, tiok, fun f k h => (by simp only [c69] at h; split at h <;> first | (cases h; done) | (cases h; first | exact X42.p N | exact X68.p N | exact X108.p N)), fun f k h => (by cases h), eqtok, fun t n f h => (by cases h)⟩ h69 (f := 69) (fn := Tryz.f69) (b := b69) (by kernel_rfl) (by kernel_rfl) (by kernel_rfl) (by kernel_rfl) (by decide) (fun x y h => ⟨N, (X69.ev N x.1).trans h⟩)
end Go.Eng.T
end
noncomputable section
namespace Go.Eng.T
open Go.RowKit
open Go.Proofs
set_option linter.unusedVariables false
/- spec.HallHouseOk -/
abbrev as41 : List Sh := [.agg T25r]
abbrev rs41 : Rs := .one (.one .bool)
def h41 : Hint := { keep := fun | 4 => [1, 3] | _ => [] }
def c41 (N : Nat) : Cfg := { ti := ti, gl := gl, eqt := eqt, meth := fun _ _ => none, con := fun | 67 => some ⟨as67, rs67, fun x => X67 N x.1⟩ | 68 => some ⟨as68, rs68, fun x => X68 N x.1⟩ | 69 => some ⟨as69, rs69, fun x => X69 N x.1⟩ | _ => none }
def b41 : Code := match Tryz.f41.body with | some b => b | none => .skip
def X41.l4.t (a1 : T25.den) (p10 : Int) : List (Nat × D) := [(1, .bp 0 0), (3, .val (.int .i64) p10)]
def X41.l4.h (a1 : T25.den) (p10 : Int) : List E := [.box [.val (.sl false T77) a1.1, .val (.sl false T83r) a1.2.1]]
def X41.l4 (N : Nat) (a1 : T25.den)  : Nat → Int → Option Bool
  | 0, _ => none
  | n + 1, p10 =>
    bif decide (p10 < (a1.2.1.length : Int)) then
      (if (0 : Int) ≤ p10 then Option.bind (a1.2.1[p10.toNat]?) fun v11 =>
      bif v11.1 != (IntKind.i64.wrap (p10 + 1)) then
        some false
      else Option.bind (X68 N v11.2.1) fun v12 =>
      bif !v12 then
        some false
      else bif !(v11.2.2.1.toList == (⟨#[]⟩ : ByteArray).toList) then
        some false
      else Option.bind (X69 N v11.2.2.2.1) fun v13 =>
      bif !v13 then
        some false
      else X41.l4 N a1 n (IntKind.i64.wrap (p10 + 1)) else none)
    else some true
def X41.l4.ce (N : Nat) (oc : List (Nat × (List (Nat × D) → List E → Option Bool))) : Nat → List (Nat × D) → List E → Option Bool := loopAt (c41 N) h41 N (endK (c41 N) Tryz.f41 (mvRs rs41)) [.b, .b, .a, .b, .a] b41 oc 1
theorem X41.l4.s (N n : Nat)  (a1 : T25.den) (p10 : Int) : X41.l4.ce N [] (n + 1) (X41.l4.t a1 p10) (X41.l4.h a1 p10) =
    bif decide (p10 < (a1.2.1.length : Int)) then
      (if (0 : Int) ≤ p10 then Option.bind (a1.2.1[p10.toNat]?) fun v11 =>
      bif v11.1 != (IntKind.i64.wrap (p10 + 1)) then
        some false
      else Option.bind (X68 N v11.2.1) fun v12 =>
      bif !v12 then
        some false
      else bif !(v11.2.2.1.toList == (⟨#[]⟩ : ByteArray).toList) then
        some false
      else Option.bind (X69 N v11.2.2.2.1) fun v13 =>
      bif !v13 then
        some false
      else X41.l4.ce N [] n (X41.l4.t a1 (IntKind.i64.wrap (p10 + 1))) (X41.l4.h a1 (IntKind.i64.wrap (p10 + 1))) else none)
    else some true := by kernel_rfl
theorem X41.l4.e (N : Nat)  (a1 : T25.den) : ∀ (n : Nat) (p10 : Int), X41.l4.ce N [] n (X41.l4.t a1 p10) (X41.l4.h a1 p10) = X41.l4 N a1 n p10
  | 0, _ => rfl
  | n + 1, p10 => by rw [X41.l4.s, X41.l4]; (try simp only [X41.l4.e N a1 n])
def X41 (N : Nat) (a1 : T25.den) : Option Bool :=
  Option.bind (X67 N a1.1) fun v3 =>
  bif !v3 then
    some false
  else bif decide ((a1.2.1.length : Int) > 24) then
    some false
  else X41.l4 N a1 N 0
theorem X41.ev (N : Nat) (a1 : T25.den) : evF (c41 N) h41 Tryz.f41 as41 rs41 N (a1, ()) = X41 N a1 :=
  (show evF (c41 N) h41 Tryz.f41 as41 rs41 N (a1, ()) =
    Option.bind (X67 N a1.1) fun v3 =>
    bif !v3 then
      some false
    else bif decide ((a1.2.1.length : Int) > 24) then
      some false
    else X41.l4.ce N [] N (X41.l4.t a1 0) (X41.l4.h a1 0) by kernel_rfl).trans (by simp only [X41.l4.e]; try rfl)
theorem X41.p (N : Nat) : PFun Tryz.prog gl 41 as41 rs41 (fun x => X41 N x.1) :=
  PFun.ev (c := c41 N) ⟨mixed, tiok, fun f k h => (by simp only [c41] at h; split at h <;> first | (cases h; done) | (cases h; first | exact X67.p N | exact X68.p N | exact X69.p N)), fun f k h => (by cases h), eqtok, fun t n f h => (by cases h)⟩ h41 (f := 41) (fn := Tryz.f41) (b := b41) (by kernel_rfl) (by kernel_rfl) (by kernel_rfl) (by kernel_rfl) (by decide) (fun x y h => ⟨N, (X41.ev N x.1).trans h⟩)
end Go.Eng.T
end
noncomputable section
namespace Go.Eng.T
open Go.RowKit
open Go.Proofs
set_option linter.unusedVariables false
/- spec.l5Rule -/
abbrev as70 : List Sh := [.agg T81r]
abbrev rs70 : Rs := .one (.agg T81)
def h70 : Hint := {  }
def c70 (N : Nat) : Cfg := { ti := ti, gl := gl, eqt := eqt, meth := fun _ _ => none, con := fun _ => none }
def b70 : Code := match Tryz.f70.body with | some b => b | none => .skip
def X70 (N : Nat) (a1 : T81.den) : Option T81.den :=
  (if (([] : List Int).length + a1.1.length) * 8 ≤ 140737488355328 then some (([] : List Int) ++ a1.1, a1.2) else none)
theorem X70.ev (N : Nat) (a1 : T81.den) : evF (c70 N) h70 Tryz.f70 as70 rs70 N (a1, ()) = X70 N a1 := by kernel_rfl
theorem X70.p (N : Nat) : PFun Tryz.prog gl 70 as70 rs70 (fun x => X70 N x.1) :=
  PFun.ev (c := c70 N) ⟨mixed, tiok, fun f k h => (by cases h), fun f k h => (by cases h), eqtok, fun t n f h => (by cases h)⟩ h70 (f := 70) (fn := Tryz.f70) (b := b70) (by kernel_rfl) (by kernel_rfl) (by kernel_rfl) (by kernel_rfl) (by decide) (fun x y h => ⟨N, (X70.ev N x.1).trans h⟩)
end Go.Eng.T
end
noncomputable section
namespace Go.Eng.T
open Go.RowKit
open Go.Proofs
set_option linter.unusedVariables false
/- spec.l34House -/
abbrev as43 : List Sh := [.agg T25r]
abbrev rs43 : Rs := .one (.agg T25)
def h43 : Hint := { keep := fun | 3 => [1, 2, 3, 4] | _ => [], inib := fun | 3 => [(3, 1, T83)] | _ => [] }
def c43 (N : Nat) : Cfg := { ti := ti, gl := gl, eqt := eqt, meth := fun _ _ => none, con := fun | 70 => some ⟨as70, rs70, fun x => X70 N x.1⟩ | _ => none }
def b43 : Code := match Tryz.f43.body with | some b => b | none => .skip
def X43.l3.t (a1 : T25.den) (p9 : Int) (p10 : List T83.den) : List (Nat × D) := [(1, .bp 0 0), (2, .bp 1 0), (3, .bp 3 0), (4, .val (.int .i64) p9)]
def X43.l3.h (a1 : T25.den) (p9 : Int) (p10 : List T83.den) : List E := [.box [.val (.sl false T77) a1.1, .val (.sl false T83r) a1.2.1], .box [.imm (.slice none 0 0), .imm (.slice none 0 0)], .arr T77 (([] : List T77.den) ++ a1.1), .box [.ow 2, .ow 4], .arr T83 p10]
def X43.l3 (N : Nat) (a1 : T25.den)  : Nat → Int → (List T83.den) → Option T25.den
  | 0, _, _ => none
  | n + 1, p9, p10 =>
    bif decide (p9 < (a1.2.1.length : Int)) then
      (if (0 : Int) ≤ p9 then Option.bind (a1.2.1[p9.toNat]?) fun v11 =>
      Option.bind (X70 N v11.2.2.2.1) fun v12 =>
      (if (p10.length + [(v11.1, v11.2.1, v11.2.2.1, v12, ())].length) * 112 ≤ 140737488355328 then X43.l3 N a1 n (IntKind.i64.wrap (p9 + 1)) (p10 ++ [(v11.1, v11.2.1, v11.2.2.1, v12, ())]) else none) else none)
    else some (([] : List T77.den) ++ a1.1, p10, ())
def X43.l3.ce (N : Nat) (oc : List (Nat × (List (Nat × D) → List E → Option T25.den))) : Nat → List (Nat × D) → List E → Option T25.den := loopAt (c43 N) h43 N (endK (c43 N) Tryz.f43 (mvRs rs43)) [.b, .b, .a, .b, .a] b43 oc 5
theorem X43.l3.s (N n : Nat)  (a1 : T25.den) (p9 : Int) (p10 : List T83.den) : X43.l3.ce N [] (n + 1) (X43.l3.t a1 p9 p10) (X43.l3.h a1 p9 p10) =
    bif decide (p9 < (a1.2.1.length : Int)) then
      (if (0 : Int) ≤ p9 then Option.bind (a1.2.1[p9.toNat]?) fun v11 =>
      Option.bind (X70 N v11.2.2.2.1) fun v12 =>
      (if (p10.length + [(v11.1, v11.2.1, v11.2.2.1, v12, ())].length) * 112 ≤ 140737488355328 then X43.l3.ce N [] n (X43.l3.t a1 (IntKind.i64.wrap (p9 + 1)) (p10 ++ [(v11.1, v11.2.1, v11.2.2.1, v12, ())])) (X43.l3.h a1 (IntKind.i64.wrap (p9 + 1)) (p10 ++ [(v11.1, v11.2.1, v11.2.2.1, v12, ())])) else none) else none)
    else some (([] : List T77.den) ++ a1.1, p10, ()) := by kernel_rfl
theorem X43.l3.e (N : Nat)  (a1 : T25.den) : ∀ (n : Nat) (p9 : Int) (p10 : List T83.den), X43.l3.ce N [] n (X43.l3.t a1 p9 p10) (X43.l3.h a1 p9 p10) = X43.l3 N a1 n p9 p10
  | 0, _, _ => rfl
  | n + 1, p9, p10 => by rw [X43.l3.s, X43.l3]; (try simp only [X43.l3.e N a1 n])
def X43 (N : Nat) (a1 : T25.den) : Option T25.den :=
  (if (([] : List T77.den).length + a1.1.length) * 32 ≤ 140737488355328 then X43.l3 N a1 N 0 ([] : List T83.den) else none)
theorem X43.ev (N : Nat) (a1 : T25.den) : evF (c43 N) h43 Tryz.f43 as43 rs43 N (a1, ()) = X43 N a1 :=
  (show evF (c43 N) h43 Tryz.f43 as43 rs43 N (a1, ()) =
    (if (([] : List T77.den).length + a1.1.length) * 32 ≤ 140737488355328 then X43.l3.ce N [] N (X43.l3.t a1 0 ([] : List T83.den)) (X43.l3.h a1 0 ([] : List T83.den)) else none) by kernel_rfl).trans (by simp only [X43.l3.e]; try rfl)
theorem X43.p (N : Nat) : PFun Tryz.prog gl 43 as43 rs43 (fun x => X43 N x.1) :=
  PFun.ev (c := c43 N) ⟨mixed, tiok, fun f k h => (by simp only [c43] at h; split at h <;> first | (cases h; done) | (cases h; first | exact X70.p N)), fun f k h => (by cases h), eqtok, fun t n f h => (by cases h)⟩ h43 (f := 43) (fn := Tryz.f43) (b := b43) (by kernel_rfl) (by kernel_rfl) (by kernel_rfl) (by kernel_rfl) (by decide) (fun x y h => ⟨N, (X43.ev N x.1).trans h⟩)
end Go.Eng.T
end
noncomputable section
namespace Go.Eng.T
open Go.RowKit
open Go.Proofs
set_option linter.unusedVariables false
/- spec.l21In -/
abbrev as71 : List Sh := [.one (.int .i64), .one (.int .i64), .one (.int .i64)]
abbrev rs71 : Rs := .one (.one .bool)
def h71 : Hint := {  }
def c71 (N : Nat) : Cfg := { ti := ti, gl := gl, eqt := eqt, meth := fun _ _ => none, con := fun _ => none }
def b71 : Code := match Tryz.f71.body with | some b => b | none => .skip
def X71 (N : Nat) (a1 : Int) (a2 : Int) (a3 : Int) : Option Bool :=
  bif decide (a1 ≥ a2) then
    some (decide (a1 ≤ a3))
  else some false
theorem X71.ev (N : Nat) (a1 : Int) (a2 : Int) (a3 : Int) : evF (c71 N) h71 Tryz.f71 as71 rs71 N (a1, a2, a3, ()) = X71 N a1 a2 a3 := by kernel_rfl
theorem X71.p (N : Nat) : PFun Tryz.prog gl 71 as71 rs71 (fun x => X71 N x.1 x.2.1 x.2.2.1) :=
  PFun.ev (c := c71 N) ⟨mixed, tiok, fun f k h => (by cases h), fun f k h => (by cases h), eqtok, fun t n f h => (by cases h)⟩ h71 (f := 71) (fn := Tryz.f71) (b := b71) (by kernel_rfl) (by kernel_rfl) (by kernel_rfl) (by kernel_rfl) (by decide) (fun x y h => ⟨N, (X71.ev N x.1 x.2.1 x.2.2.1).trans h⟩)
end Go.Eng.T
end
noncomputable section
namespace Go.Eng.T
open Go.RowKit
open Go.Proofs
set_option linter.unusedVariables false
/- spec.RecNew -/
abbrev as72 : List Sh := [.one (.int .i64), .one (.int .i64)]
abbrev rs72 : Rs := .one (.agg T114)
def h72 : Hint := {  }
def c72 (N : Nat) : Cfg := { ti := ti, gl := gl, eqt := eqt, meth := fun _ _ => none, con := fun | 71 => some ⟨as71, rs71, fun x => X71 N x.1 x.2.1 x.2.2.1⟩ | _ => none }
def b72 : Code := match Tryz.f72.body with | some b => b | none => .skip
def X72 (N : Nat) (a1 : Int) (a2 : Int) : Option T114.den :=
  Option.bind (X71 N a2 1 5) fun v3 =>
  bif !v3 then
    some (0, 0, false, (0, 0, ([] : List T218.den), ()), (0, 0, ([] : List T218.den), ()), ([] : List T160.den), ([] : List ByteArray), false, false, 0, ([] : List Int), ([] : List T218.den), ([] : List T198.den), 0, ())
  else Option.bind (X71 N a1 1 a2) fun v4 =>
  bif !v4 then
    some (0, 0, false, (0, 0, ([] : List T218.den), ()), (0, 0, ([] : List T218.den), ()), ([] : List T160.den), ([] : List ByteArray), false, false, 0, ([] : List Int), ([] : List T218.den), ([] : List T198.den), 0, ())
  else some (a1, a2, true, (0, 0, ([] : List T218.den), ()), (0, 0, ([] : List T218.den), ()), ([] : List T160.den), ([] : List ByteArray), false, false, 0, ([] : List Int), ([] : List T218.den), ([] : List T198.den), 0, ())
theorem X72.ev (N : Nat) (a1 : Int) (a2 : Int) : evF (c72 N) h72 Tryz.f72 as72 rs72 N (a1, a2, ()) = X72 N a1 a2 := by kernel_rfl
theorem X72.p (N : Nat) : PFun Tryz.prog gl 72 as72 rs72 (fun x => X72 N x.1 x.2.1) :=
  PFun.ev (c := c72 N) ⟨mixed, tiok, fun f k h => (by simp only [c72] at h; split at h <;> first | (cases h; done) | (cases h; first | exact X71.p N)), fun f k h => (by cases h), eqtok, fun t n f h => (by cases h)⟩ h72 (f := 72) (fn := Tryz.f72) (b := b72) (by kernel_rfl) (by kernel_rfl) (by kernel_rfl) (by kernel_rfl) (by decide) (fun x y h => ⟨N, (X72.ev N x.1 x.2.1).trans h⟩)
end Go.Eng.T
end
noncomputable section
namespace Go.Eng.T
open Go.RowKit
open Go.Proofs
set_option linter.unusedVariables false
/- spec.RecNewWorld -/
abbrev as44 : List Sh := [.one (.int .i64)]
abbrev rs44 : Rs := .one (.agg T37)
def h44 : Hint := { keep := fun | 5 => [0, 2, 3, 4] | _ => [], inib := fun | 5 => [(1, 0, T114)] | _ => [] }
def c44 (N : Nat) : Cfg := { ti := ti, gl := gl, eqt := eqt, meth := fun _ _ => none, con := fun | 71 => some ⟨as71, rs71, fun x => X71 N x.1 x.2.1 x.2.2.1⟩ | 72 => some ⟨as72, rs72, fun x => X72 N x.1 x.2.1⟩ | _ => none }
def b44 : Code := match Tryz.f44.body with | some b => b | none => .skip
def X44.l5.t (a1 : Int) (p4 : Int) (p5 : List T114.den) : List (Nat × D) := [(0, .val (.int .i64) a1), (2, .bp 0 0), (3, .bp 1 0), (4, .val (.int .i64) p4)]
def X44.l5.h (a1 : Int) (p4 : Int) (p5 : List T114.den) : List E := [.box [.imm (.slice none 0 0), .imm (.slice none 0 0), .imm (.slice none 0 0)], .box [.ow 2, .imm (.slice none 0 0), .imm (.slice none 0 0)], .arr T114 p5]
def X44.l5 (N : Nat) (a1 : Int)  : Nat → Int → (List T114.den) → Option T37.den
  | 0, _, _ => none
  | n + 1, p4, p5 =>
    bif decide (p4 ≤ a1) then
      Option.bind (X72 N p4 a1) fun v6 =>
      (if (p5.length + [v6].length) * 248 ≤ 140737488355328 then X44.l5 N a1 n (IntKind.i64.wrap (p4 + 1)) (p5 ++ [v6]) else none)
    else some (p5, ([] : List T160.den), ([] : List T218.den), ())
def X44.l5.ce (N : Nat) (oc : List (Nat × (List (Nat × D) → List E → Option T37.den))) : Nat → List (Nat × D) → List E → Option T37.den := loopAt (c44 N) h44 N (endK (c44 N) Tryz.f44 (mvRs rs44)) [.b, .b, .b, .a, .b, .a] b44 oc 3
theorem X44.l5.s (N n : Nat)  (a1 : Int) (p4 : Int) (p5 : List T114.den) : X44.l5.ce N [] (n + 1) (X44.l5.t a1 p4 p5) (X44.l5.h a1 p4 p5) =
    bif decide (p4 ≤ a1) then
      Option.bind (X72 N p4 a1) fun v6 =>
      (if (p5.length + [v6].length) * 248 ≤ 140737488355328 then X44.l5.ce N [] n (X44.l5.t a1 (IntKind.i64.wrap (p4 + 1)) (p5 ++ [v6])) (X44.l5.h a1 (IntKind.i64.wrap (p4 + 1)) (p5 ++ [v6])) else none)
    else some (p5, ([] : List T160.den), ([] : List T218.den), ()) := by kernel_rfl
theorem X44.l5.e (N : Nat)  (a1 : Int) : ∀ (n : Nat) (p4 : Int) (p5 : List T114.den), X44.l5.ce N [] n (X44.l5.t a1 p4 p5) (X44.l5.h a1 p4 p5) = X44.l5 N a1 n p4 p5
  | 0, _, _ => rfl
  | n + 1, p4, p5 => by rw [X44.l5.s, X44.l5]; (try simp only [X44.l5.e N a1 n])
def X44 (N : Nat) (a1 : Int) : Option T37.den :=
  Option.bind (X71 N a1 1 5) fun v3 =>
  bif !v3 then
    some (([] : List T114.den), ([] : List T160.den), ([] : List T218.den), ())
  else X44.l5 N a1 N 1 ([] : List T114.den)
theorem X44.ev (N : Nat) (a1 : Int) : evF (c44 N) h44 Tryz.f44 as44 rs44 N (a1, ()) = X44 N a1 :=
  (show evF (c44 N) h44 Tryz.f44 as44 rs44 N (a1, ()) =
    Option.bind (X71 N a1 1 5) fun v3 =>
    bif !v3 then
      some (([] : List T114.den), ([] : List T160.den), ([] : List T218.den), ())
    else X44.l5.ce N [] N (X44.l5.t a1 1 ([] : List T114.den)) (X44.l5.h a1 1 ([] : List T114.den)) by kernel_rfl).trans (by simp only [X44.l5.e]; try rfl)
theorem X44.p (N : Nat) : PFun Tryz.prog gl 44 as44 rs44 (fun x => X44 N x.1) :=
  PFun.ev (c := c44 N) ⟨mixed, tiok, fun f k h => (by simp only [c44] at h; split at h <;> first | (cases h; done) | (cases h; first | exact X71.p N | exact X72.p N)), fun f k h => (by cases h), eqtok, fun t n f h => (by cases h)⟩ h44 (f := 44) (fn := Tryz.f44) (b := b44) (by kernel_rfl) (by kernel_rfl) (by kernel_rfl) (by kernel_rfl) (by decide) (fun x y h => ⟨N, (X44.ev N x.1).trans h⟩)
end Go.Eng.T
end
noncomputable section
namespace Go.Eng.T
open Go.RowKit
open Go.Proofs
set_option linter.unusedVariables false
/- spec.HallNew -/
abbrev as20 : List Sh := [.agg T25r, .one (.int .i64)]
abbrev rs20 : Rs := .one (.agg T40)
def h20 : Hint := {  }
def c20 (N : Nat) : Cfg := { ti := ti, gl := gl, eqt := eqt, meth := fun _ _ => none, con := fun | 41 => some ⟨as41, rs41, fun x => X41 N x.1⟩ | 42 => some ⟨as42, rs42, fun x => X42 N x.1 x.2.1 x.2.2.1⟩ | 43 => some ⟨as43, rs43, fun x => X43 N x.1⟩ | 44 => some ⟨as44, rs44, fun x => X44 N x.1⟩ | _ => none }
def b20 : Code := match Tryz.f20.body with | some b => b | none => .skip
def X20 (N : Nat) (a1 : T25.den) (a2 : Int) : Option T40.den :=
  Option.bind (X41 N a1) fun v5 =>
  bif !v5 then
    some ((([] : List T77.den), ([] : List T83.den), ()), (([] : List T114.den), ([] : List T160.den), ([] : List T218.den), ()), 0, ([] : List T120.den), ())
  else Option.bind (X42 N a2 1 5) fun v6 =>
  bif !v6 then
    some ((([] : List T77.den), ([] : List T83.den), ()), (([] : List T114.den), ([] : List T160.den), ([] : List T218.den), ()), 0, ([] : List T120.den), ())
  else Option.bind (X43 N a1) fun v7 =>
  Option.bind (X44 N a2) fun v8 =>
  some (v7, v8, 0, ([] : List T120.den), ())
theorem X20.ev (N : Nat) (a1 : T25.den) (a2 : Int) : evF (c20 N) h20 Tryz.f20 as20 rs20 N (a1, a2, ()) = X20 N a1 a2 := by kernel_rfl
theorem X20.p (N : Nat) : PFun Tryz.prog gl 20 as20 rs20 (fun x => X20 N x.1 x.2.1) :=
  PFun.ev (c := c20 N) ⟨mixed, tiok, fun f k h => (by simp only [c20] at h; split at h <;> first | (cases h; done) | (cases h; first | exact X41.p N | exact X42.p N | exact X43.p N | exact X44.p N)), fun f k h => (by cases h), eqtok, fun t n f h => (by cases h)⟩ h20 (f := 20) (fn := Tryz.f20) (b := b20) (by kernel_rfl) (by kernel_rfl) (by kernel_rfl) (by kernel_rfl) (by decide) (fun x y h => ⟨N, (X20.ev N x.1 x.2.1).trans h⟩)
end Go.Eng.T
end
noncomputable section
namespace Go.Eng.T
open Go.RowKit
open Go.Proofs
set_option linter.unusedVariables false
/- spec.l21SlotsOk -/
abbrev as143 : List Sh := [.one (.sl false T218)]
abbrev rs143 : Rs := .one (.one .bool)
def h143 : Hint := { keep := fun | 4 => [0, 3] | _ => [] }
def c143 (N : Nat) : Cfg := { ti := ti, gl := gl, eqt := eqt, meth := fun _ _ => none, con := fun | 71 => some ⟨as71, rs71, fun x => X71 N x.1 x.2.1 x.2.2.1⟩ | _ => none }
def b143 : Code := match Tryz.f143.body with | some b => b | none => .skip
def X143.l4.t (a1 : List T218.den) (p2 : Int) : List (Nat × D) := [(0, .val (.sl false T218) a1), (3, .val (.int .i64) p2)]
def X143.l4.h (a1 : List T218.den) (p2 : Int) : List E := []
def X143.l4 (N : Nat) (a1 : List T218.den)  : Nat → Int → Option Bool
  | 0, _ => none
  | n + 1, p2 =>
    bif decide (p2 < (a1.length : Int)) then
      (if (0 : Int) ≤ p2 then Option.bind (a1[p2.toNat]?) fun v3 =>
      Option.bind (X71 N v3.1 0 1000000) fun v4 =>
      bif !v4 then
        some false
      else (if (0 : Int) ≤ p2 then Option.bind (a1[p2.toNat]?) fun v5 =>
      bif decide ((v5.2.1.size : Int) > 160) then
        some false
      else (if (0 : Int) ≤ p2 then Option.bind (a1[p2.toNat]?) fun v6 =>
      bif v6.1 == 0 then
        (if (0 : Int) ≤ p2 then Option.bind (a1[p2.toNat]?) fun v7 =>
        bif !(v7.2.1.toList == (⟨#[]⟩ : ByteArray).toList) then
          some false
        else X143.l4 N a1 n (IntKind.i64.wrap (p2 + 1)) else none)
      else X143.l4 N a1 n (IntKind.i64.wrap (p2 + 1)) else none) else none) else none)
    else some true
def X143.l4.ce (N : Nat) (oc : List (Nat × (List (Nat × D) → List E → Option Bool))) : Nat → List (Nat × D) → List E → Option Bool := loopAt (c143 N) h143 N (endK (c143 N) Tryz.f143 (mvRs rs143)) [.b, .b, .a, .b, .a] b143 oc 0
theorem X143.l4.s (N n : Nat)  (a1 : List T218.den) (p2 : Int) : X143.l4.ce N [] (n + 1) (X143.l4.t a1 p2) (X143.l4.h a1 p2) =
    bif decide (p2 < (a1.length : Int)) then
      (if (0 : Int) ≤ p2 then Option.bind (a1[p2.toNat]?) fun v3 =>
      Option.bind (X71 N v3.1 0 1000000) fun v4 =>
      bif !v4 then
        some false
      else (if (0 : Int) ≤ p2 then Option.bind (a1[p2.toNat]?) fun v5 =>
      bif decide ((v5.2.1.size : Int) > 160) then
        some false
      else (if (0 : Int) ≤ p2 then Option.bind (a1[p2.toNat]?) fun v6 =>
      bif v6.1 == 0 then
        (if (0 : Int) ≤ p2 then Option.bind (a1[p2.toNat]?) fun v7 =>
        bif !(v7.2.1.toList == (⟨#[]⟩ : ByteArray).toList) then
          some false
        else X143.l4.ce N [] n (X143.l4.t a1 (IntKind.i64.wrap (p2 + 1))) (X143.l4.h a1 (IntKind.i64.wrap (p2 + 1))) else none)
      else X143.l4.ce N [] n (X143.l4.t a1 (IntKind.i64.wrap (p2 + 1))) (X143.l4.h a1 (IntKind.i64.wrap (p2 + 1))) else none) else none) else none)
    else some true := by kernel_rfl
theorem X143.l4.e (N : Nat)  (a1 : List T218.den) : ∀ (n : Nat) (p2 : Int), X143.l4.ce N [] n (X143.l4.t a1 p2) (X143.l4.h a1 p2) = X143.l4 N a1 n p2
  | 0, _ => rfl
  | n + 1, p2 => by rw [X143.l4.s, X143.l4]; (try simp only [X143.l4.e N a1 n])
def X143 (N : Nat) (a1 : List T218.den) : Option Bool :=
  bif decide ((a1.length : Int) > 120) then
    some false
  else X143.l4 N a1 N 0
theorem X143.ev (N : Nat) (a1 : List T218.den) : evF (c143 N) h143 Tryz.f143 as143 rs143 N (a1, ()) = X143 N a1 :=
  (show evF (c143 N) h143 Tryz.f143 as143 rs143 N (a1, ()) =
    bif decide ((a1.length : Int) > 120) then
      some false
    else X143.l4.ce N [] N (X143.l4.t a1 0) (X143.l4.h a1 0) by kernel_rfl).trans (by simp only [X143.l4.e]; try rfl)
theorem X143.p (N : Nat) : PFun Tryz.prog gl 143 as143 rs143 (fun x => X143 N x.1) :=
  PFun.ev (c := c143 N) ⟨mixed, tiok, fun f k h => (by simp only [c143] at h; split at h <;> first | (cases h; done) | (cases h; first | exact X71.p N)), fun f k h => (by cases h), eqtok, fun t n f h => (by cases h)⟩ h143 (f := 143) (fn := Tryz.f143) (b := b143) (by kernel_rfl) (by kernel_rfl) (by kernel_rfl) (by kernel_rfl) (by decide) (fun x y h => ⟨N, (X143.ev N x.1).trans h⟩)
end Go.Eng.T
end
noncomputable section
namespace Go.Eng.T
open Go.RowKit
open Go.Proofs
set_option linter.unusedVariables false
/- spec.RecMessageOk -/
abbrev as110 : List Sh := [.agg T160r, .one (.int .i64)]
abbrev rs110 : Rs := .one (.one .bool)
def h110 : Hint := {  }
def c110 (N : Nat) : Cfg := { ti := ti, gl := gl, eqt := eqt, meth := fun _ _ => none, con := fun | 71 => some ⟨as71, rs71, fun x => X71 N x.1 x.2.1 x.2.2.1⟩ | 143 => some ⟨as143, rs143, fun x => X143 N x.1⟩ | _ => none }
def b110 : Code := match Tryz.f110.body with | some b => b | none => .skip
def X110 (N : Nat) (a1 : T160.den) (a2 : Int) : Option Bool :=
  Option.bind (X71 N a1.1 1 9) fun v3 =>
  bif v3 then
    Option.bind (X71 N a1.2.1 1 a2) fun v4 =>
    bif v4 then
      Option.bind (X71 N a1.2.2.1 1 a2) fun v5 =>
      bif v5 then
        Option.bind (X71 N a1.2.2.2.1 0 1000000) fun v6 =>
        bif v6 then
          Option.bind (X71 N a1.2.2.2.2.1 0 120) fun v7 =>
          bif v7 then
            Option.bind (X71 N a1.2.2.2.2.2.1 0 120) fun v8 =>
            bif v8 then
              bif decide ((a1.2.2.2.2.2.2.1.size : Int) ≤ 160) then
                Option.bind (X143 N a1.2.2.2.2.2.2.2.1) fun v9 =>
                some v9
              else some false
            else some false
          else some false
        else some false
      else some false
    else some false
  else some false
theorem X110.ev (N : Nat) (a1 : T160.den) (a2 : Int) : evF (c110 N) h110 Tryz.f110 as110 rs110 N (a1, a2, ()) = X110 N a1 a2 := by kernel_rfl
theorem X110.p (N : Nat) : PFun Tryz.prog gl 110 as110 rs110 (fun x => X110 N x.1 x.2.1) :=
  PFun.ev (c := c110 N) ⟨mixed, tiok, fun f k h => (by simp only [c110] at h; split at h <;> first | (cases h; done) | (cases h; first | exact X71.p N | exact X143.p N)), fun f k h => (by cases h), eqtok, fun t n f h => (by cases h)⟩ h110 (f := 110) (fn := Tryz.f110) (b := b110) (by kernel_rfl) (by kernel_rfl) (by kernel_rfl) (by kernel_rfl) (by decide) (fun x y h => ⟨N, (X110.ev N x.1 x.2.1).trans h⟩)
end Go.Eng.T
end
noncomputable section
namespace Go.Eng.T
open Go.RowKit
open Go.Proofs
set_option linter.unusedVariables false
/- spec.RecDiskOk -/
abbrev as140 : List Sh := [.agg T110r]
abbrev rs140 : Rs := .one (.one .bool)
def h140 : Hint := { keep := fun | 4 => [1, 3] | _ => [] }
def c140 (N : Nat) : Cfg := { ti := ti, gl := gl, eqt := eqt, meth := fun _ _ => none, con := fun | 71 => some ⟨as71, rs71, fun x => X71 N x.1 x.2.1 x.2.2.1⟩ | 143 => some ⟨as143, rs143, fun x => X143 N x.1⟩ | _ => none }
def b140 : Code := match Tryz.f140.body with | some b => b | none => .skip
def X140.l4.t (a1 : T110.den) (p14 : Int) : List (Nat × D) := [(1, .bp 0 0), (3, .val (.int .i64) p14)]
def X140.l4.h (a1 : T110.den) (p14 : Int) : List E := [.box [.val (.int .i64) a1.1, .val (.int .i64) a1.2.1, .val (.sl false T218) a1.2.2.1]]
def X140.l4 (N : Nat) (a1 : T110.den)  : Nat → Int → Option Bool
  | 0, _ => none
  | n + 1, p14 =>
    bif decide (p14 < (a1.2.2.1.length : Int)) then
      (if (0 : Int) ≤ p14 then Option.bind (a1.2.2.1[p14.toNat]?) fun v15 =>
      bif decide (v15.1 > a1.1) then
        some false
      else bif decide (p14 < a1.2.1) then
        (if (0 : Int) ≤ p14 then Option.bind (a1.2.2.1[p14.toNat]?) fun v16 =>
        bif v16.1 == 0 then
          some false
        else X140.l4 N a1 n (IntKind.i64.wrap (p14 + 1)) else none)
      else X140.l4 N a1 n (IntKind.i64.wrap (p14 + 1)) else none)
    else some true
def X140.l4.ce (N : Nat) (oc : List (Nat × (List (Nat × D) → List E → Option Bool))) : Nat → List (Nat × D) → List E → Option Bool := loopAt (c140 N) h140 N (endK (c140 N) Tryz.f140 (mvRs rs140)) [.b, .b, .a, .b, .a] b140 oc 1
theorem X140.l4.s (N n : Nat)  (a1 : T110.den) (p14 : Int) : X140.l4.ce N [] (n + 1) (X140.l4.t a1 p14) (X140.l4.h a1 p14) =
    bif decide (p14 < (a1.2.2.1.length : Int)) then
      (if (0 : Int) ≤ p14 then Option.bind (a1.2.2.1[p14.toNat]?) fun v15 =>
      bif decide (v15.1 > a1.1) then
        some false
      else bif decide (p14 < a1.2.1) then
        (if (0 : Int) ≤ p14 then Option.bind (a1.2.2.1[p14.toNat]?) fun v16 =>
        bif v16.1 == 0 then
          some false
        else X140.l4.ce N [] n (X140.l4.t a1 (IntKind.i64.wrap (p14 + 1))) (X140.l4.h a1 (IntKind.i64.wrap (p14 + 1))) else none)
      else X140.l4.ce N [] n (X140.l4.t a1 (IntKind.i64.wrap (p14 + 1))) (X140.l4.h a1 (IntKind.i64.wrap (p14 + 1))) else none)
    else some true := by kernel_rfl
theorem X140.l4.e (N : Nat)  (a1 : T110.den) : ∀ (n : Nat) (p14 : Int), X140.l4.ce N [] n (X140.l4.t a1 p14) (X140.l4.h a1 p14) = X140.l4 N a1 n p14
  | 0, _ => rfl
  | n + 1, p14 => by rw [X140.l4.s, X140.l4]; (try simp only [X140.l4.e N a1 n])
def X140 (N : Nat) (a1 : T110.den) : Option Bool :=
  Option.bind (X71 N a1.1 0 1000000) fun v5 =>
  bif !v5 then
    some false
  else Option.bind (X143 N a1.2.2.1) fun v6 =>
  bif !v6 then
    some false
  else Option.bind (X71 N a1.2.1 0 (a1.2.2.1.length : Int)) fun v7 =>
  bif !v7 then
    some false
  else X140.l4 N a1 N 0
theorem X140.ev (N : Nat) (a1 : T110.den) : evF (c140 N) h140 Tryz.f140 as140 rs140 N (a1, ()) = X140 N a1 :=
  (show evF (c140 N) h140 Tryz.f140 as140 rs140 N (a1, ()) =
    Option.bind (X71 N a1.1 0 1000000) fun v5 =>
    bif !v5 then
      some false
    else Option.bind (X143 N a1.2.2.1) fun v6 =>
    bif !v6 then
      some false
    else Option.bind (X71 N a1.2.1 0 (a1.2.2.1.length : Int)) fun v7 =>
    bif !v7 then
      some false
    else X140.l4.ce N [] N (X140.l4.t a1 0) (X140.l4.h a1 0) by kernel_rfl).trans (by simp only [X140.l4.e]; try rfl)
theorem X140.p (N : Nat) : PFun Tryz.prog gl 140 as140 rs140 (fun x => X140 N x.1) :=
  PFun.ev (c := c140 N) ⟨mixed, tiok, fun f k h => (by simp only [c140] at h; split at h <;> first | (cases h; done) | (cases h; first | exact X71.p N | exact X143.p N)), fun f k h => (by cases h), eqtok, fun t n f h => (by cases h)⟩ h140 (f := 140) (fn := Tryz.f140) (b := b140) (by kernel_rfl) (by kernel_rfl) (by kernel_rfl) (by kernel_rfl) (by decide) (fun x y h => ⟨N, (X140.ev N x.1).trans h⟩)
end Go.Eng.T
end
noncomputable section
namespace Go.Eng.T
open Go.RowKit
open Go.Proofs
set_option linter.unusedVariables false
/- spec.l22WishesOk -/
abbrev as141 : List Sh := [.one (.sl false .str)]
abbrev rs141 : Rs := .one (.one .bool)
def h141 : Hint := { keep := fun | 4 => [0, 3] | 9 => [0, 3, 4] | _ => [] }
def c141 (N : Nat) : Cfg := { ti := ti, gl := gl, eqt := eqt, meth := fun _ _ => none, con := fun _ => none }
def b141 : Code := match Tryz.f141.body with | some b => b | none => .skip
def X141.l9.t (a1 : List ByteArray) (p2 : Int) (p7 : Int) : List (Nat × D) := [(0, .val (.sl false .str) a1), (3, .val (.int .i64) p2), (4, .val (.int .i64) p7)]
def X141.l9.h (a1 : List ByteArray) (p2 : Int) (p7 : Int) : List E := []
def X141.l4.t (a1 : List ByteArray) (p2 : Int) : List (Nat × D) := [(0, .val (.sl false .str) a1), (3, .val (.int .i64) p2)]
def X141.l4.h (a1 : List ByteArray) (p2 : Int) : List E := []
def X141.l9 (N : Nat) (a1 : List ByteArray) (p2 : Int) (k4 : Int → Option Bool) : Nat → Int → Option Bool
  | 0, _ => none
  | n + 1, p7 =>
    bif decide (p7 < p2) then
      (if (0 : Int) ≤ p7 then Option.bind (a1[p7.toNat]?) fun v8 =>
      (if (0 : Int) ≤ p2 then Option.bind (a1[p2.toNat]?) fun v9 =>
      bif v8.toList == v9.toList then
        some false
      else X141.l9 N a1 p2 k4 n (IntKind.i64.wrap (p7 + 1)) else none) else none)
    else k4 (IntKind.i64.wrap (p2 + 1))
def X141.l9.ce (N : Nat) (oc : List (Nat × (List (Nat × D) → List E → Option Bool))) : Nat → List (Nat × D) → List E → Option Bool := loopAt (c141 N) h141 N (endK (c141 N) Tryz.f141 (mvRs rs141)) [.b, .b, .a, .b, .a, .a, .b, .a, .a, .b, .b, .a] b141 oc 0
theorem X141.l9.s (N n : Nat) (g4 : List (Nat × D) → List E → Option Bool) (a1 : List ByteArray) (p2 : Int) (p7 : Int) : X141.l9.ce N [(0, g4)] (n + 1) (X141.l9.t a1 p2 p7) (X141.l9.h a1 p2 p7) =
    bif decide (p7 < p2) then
      (if (0 : Int) ≤ p7 then Option.bind (a1[p7.toNat]?) fun v8 =>
      (if (0 : Int) ≤ p2 then Option.bind (a1[p2.toNat]?) fun v9 =>
      bif v8.toList == v9.toList then
        some false
      else X141.l9.ce N [(0, g4)] n (X141.l9.t a1 p2 (IntKind.i64.wrap (p7 + 1))) (X141.l9.h a1 p2 (IntKind.i64.wrap (p7 + 1))) else none) else none)
    else g4 (X141.l4.t a1 (IntKind.i64.wrap (p2 + 1))) (X141.l4.h a1 (IntKind.i64.wrap (p2 + 1))) := by kernel_rfl
theorem X141.l9.e (N : Nat) (g4 : List (Nat × D) → List E → Option Bool) (a1 : List ByteArray) (p2 : Int) : ∀ (n : Nat) (p7 : Int), X141.l9.ce N [(0, g4)] n (X141.l9.t a1 p2 p7) (X141.l9.h a1 p2 p7) = X141.l9 N a1 p2 (fun p2 => g4 (X141.l4.t a1 p2) (X141.l4.h a1 p2)) n p7
  | 0, _ => rfl
  | n + 1, p7 => by rw [X141.l9.s, X141.l9]; (try simp only [X141.l9.e N g4 a1 p2 n])
def X141.l4 (N : Nat) (a1 : List ByteArray)  : Nat → Int → Option Bool
  | 0, _ => none
  | n + 1, p2 =>
    bif decide (p2 < (a1.length : Int)) then
      (if (0 : Int) ≤ p2 then Option.bind (a1[p2.toNat]?) fun v5 =>
      bif decide ((v5.size : Int) < 1) then
        some false
      else (if (0 : Int) ≤ p2 then Option.bind (a1[p2.toNat]?) fun v6 =>
      bif decide ((v6.size : Int) > 160) then
        some false
      else X141.l9 N a1 p2 (X141.l4 N a1 n) N 0 else none) else none)
    else some true
def X141.l4.ce (N : Nat) (oc : List (Nat × (List (Nat × D) → List E → Option Bool))) : Nat → List (Nat × D) → List E → Option Bool := loopAt (c141 N) h141 N (endK (c141 N) Tryz.f141 (mvRs rs141)) [.b, .b, .a, .b, .a] b141 oc 0
theorem X141.l4.s (N n : Nat)  (a1 : List ByteArray) (p2 : Int) : X141.l4.ce N [] (n + 1) (X141.l4.t a1 p2) (X141.l4.h a1 p2) =
    bif decide (p2 < (a1.length : Int)) then
      (if (0 : Int) ≤ p2 then Option.bind (a1[p2.toNat]?) fun v5 =>
      bif decide ((v5.size : Int) < 1) then
        some false
      else (if (0 : Int) ≤ p2 then Option.bind (a1[p2.toNat]?) fun v6 =>
      bif decide ((v6.size : Int) > 160) then
        some false
      else X141.l9.ce N [(0, X141.l4.ce N [] n)] N (X141.l9.t a1 p2 0) (X141.l9.h a1 p2 0) else none) else none)
    else some true := by kernel_rfl
theorem X141.l4.e (N : Nat)  (a1 : List ByteArray) : ∀ (n : Nat) (p2 : Int), X141.l4.ce N [] n (X141.l4.t a1 p2) (X141.l4.h a1 p2) = X141.l4 N a1 n p2
  | 0, _ => rfl
  | n + 1, p2 => by rw [X141.l4.s, X141.l4]; (try simp only [X141.l4.e N a1 n, X141.l9.e])
def X141 (N : Nat) (a1 : List ByteArray) : Option Bool :=
  bif decide ((a1.length : Int) > 20) then
    some false
  else X141.l4 N a1 N 0
theorem X141.ev (N : Nat) (a1 : List ByteArray) : evF (c141 N) h141 Tryz.f141 as141 rs141 N (a1, ()) = X141 N a1 :=
  (show evF (c141 N) h141 Tryz.f141 as141 rs141 N (a1, ()) =
    bif decide ((a1.length : Int) > 20) then
      some false
    else X141.l4.ce N [] N (X141.l4.t a1 0) (X141.l4.h a1 0) by kernel_rfl).trans (by simp only [X141.l4.e]; try rfl)
theorem X141.p (N : Nat) : PFun Tryz.prog gl 141 as141 rs141 (fun x => X141 N x.1) :=
  PFun.ev (c := c141 N) ⟨mixed, tiok, fun f k h => (by cases h), fun f k h => (by cases h), eqtok, fun t n f h => (by cases h)⟩ h141 (f := 141) (fn := Tryz.f141) (b := b141) (by kernel_rfl) (by kernel_rfl) (by kernel_rfl) (by kernel_rfl) (by decide) (fun x y h => ⟨N, (X141.ev N x.1).trans h⟩)
end Go.Eng.T
end
noncomputable section
namespace Go.Eng.T
open Go.RowKit
open Go.Proofs
set_option linter.unusedVariables false
/- spec.l22Numbers -/
abbrev as142 : List Sh := [.one (.sl false (.int .i64)), .one (.int .i64)]
abbrev rs142 : Rs := .one (.one .bool)
def h142 : Hint := { keep := fun | 2 => [0, 1, 5] | _ => [] }
def c142 (N : Nat) : Cfg := { ti := ti, gl := gl, eqt := eqt, meth := fun _ _ => none, con := fun | 71 => some ⟨as71, rs71, fun x => X71 N x.1 x.2.1 x.2.2.1⟩ | _ => none }
def b142 : Code := match Tryz.f142.body with | some b => b | none => .skip
def X142.l2.t (a1 : List Int) (a2 : Int) (p3 : Int) : List (Nat × D) := [(0, .val (.sl false (.int .i64)) a1), (1, .val (.int .i64) a2), (5, .val (.int .i64) p3)]
def X142.l2.h (a1 : List Int) (a2 : Int) (p3 : Int) : List E := []
def X142.l2 (N : Nat) (a1 : List Int) (a2 : Int)  : Nat → Int → Option Bool
  | 0, _ => none
  | n + 1, p3 =>
    bif decide (p3 < (a1.length : Int)) then
      (if (0 : Int) ≤ p3 then Option.bind (a1[p3.toNat]?) fun v4 =>
      Option.bind (X71 N v4 1 a2) fun v5 =>
      bif !v5 then
        some false
      else bif decide (p3 > 0) then
        (if (0 : Int) ≤ (IntKind.i64.wrap (p3 - 1)) then Option.bind (a1[(IntKind.i64.wrap (p3 - 1)).toNat]?) fun v6 =>
        (if (0 : Int) ≤ p3 then Option.bind (a1[p3.toNat]?) fun v7 =>
        bif decide (v6 ≥ v7) then
          some false
        else X142.l2 N a1 a2 n (IntKind.i64.wrap (p3 + 1)) else none) else none)
      else X142.l2 N a1 a2 n (IntKind.i64.wrap (p3 + 1)) else none)
    else some true
def X142.l2.ce (N : Nat) (oc : List (Nat × (List (Nat × D) → List E → Option Bool))) : Nat → List (Nat × D) → List E → Option Bool := loopAt (c142 N) h142 N (endK (c142 N) Tryz.f142 (mvRs rs142)) [.b, .a, .b, .a] b142 oc 0
theorem X142.l2.s (N n : Nat)  (a1 : List Int) (a2 : Int) (p3 : Int) : X142.l2.ce N [] (n + 1) (X142.l2.t a1 a2 p3) (X142.l2.h a1 a2 p3) =
    bif decide (p3 < (a1.length : Int)) then
      (if (0 : Int) ≤ p3 then Option.bind (a1[p3.toNat]?) fun v4 =>
      Option.bind (X71 N v4 1 a2) fun v5 =>
      bif !v5 then
        some false
      else bif decide (p3 > 0) then
        (if (0 : Int) ≤ (IntKind.i64.wrap (p3 - 1)) then Option.bind (a1[(IntKind.i64.wrap (p3 - 1)).toNat]?) fun v6 =>
        (if (0 : Int) ≤ p3 then Option.bind (a1[p3.toNat]?) fun v7 =>
        bif decide (v6 ≥ v7) then
          some false
        else X142.l2.ce N [] n (X142.l2.t a1 a2 (IntKind.i64.wrap (p3 + 1))) (X142.l2.h a1 a2 (IntKind.i64.wrap (p3 + 1))) else none) else none)
      else X142.l2.ce N [] n (X142.l2.t a1 a2 (IntKind.i64.wrap (p3 + 1))) (X142.l2.h a1 a2 (IntKind.i64.wrap (p3 + 1))) else none)
    else some true := by kernel_rfl
theorem X142.l2.e (N : Nat)  (a1 : List Int) (a2 : Int) : ∀ (n : Nat) (p3 : Int), X142.l2.ce N [] n (X142.l2.t a1 a2 p3) (X142.l2.h a1 a2 p3) = X142.l2 N a1 a2 n p3
  | 0, _ => rfl
  | n + 1, p3 => by rw [X142.l2.s, X142.l2]; (try simp only [X142.l2.e N a1 a2 n])
def X142 (N : Nat) (a1 : List Int) (a2 : Int) : Option Bool :=
  X142.l2 N a1 a2 N 0
theorem X142.ev (N : Nat) (a1 : List Int) (a2 : Int) : evF (c142 N) h142 Tryz.f142 as142 rs142 N (a1, a2, ()) = X142 N a1 a2 :=
  (show evF (c142 N) h142 Tryz.f142 as142 rs142 N (a1, a2, ()) =
    X142.l2.ce N [] N (X142.l2.t a1 a2 0) (X142.l2.h a1 a2 0) by kernel_rfl).trans (by simp only [X142.l2.e]; try rfl)
theorem X142.p (N : Nat) : PFun Tryz.prog gl 142 as142 rs142 (fun x => X142 N x.1 x.2.1) :=
  PFun.ev (c := c142 N) ⟨mixed, tiok, fun f k h => (by simp only [c142] at h; split at h <;> first | (cases h; done) | (cases h; first | exact X71.p N)), fun f k h => (by cases h), eqtok, fun t n f h => (by cases h)⟩ h142 (f := 142) (fn := Tryz.f142) (b := b142) (by kernel_rfl) (by kernel_rfl) (by kernel_rfl) (by kernel_rfl) (by decide) (fun x y h => ⟨N, (X142.ev N x.1 x.2.1).trans h⟩)
end Go.Eng.T
end
noncomputable section
namespace Go.Eng.T
open Go.RowKit
open Go.Proofs
set_option linter.unusedVariables false
/- spec.l22AcksOk -/
abbrev as144 : List Sh := [.one (.sl false T198r), .one (.int .i64)]
abbrev rs144 : Rs := .one (.one .bool)
def h144 : Hint := { keep := fun | 2 => [0, 1, 5] | _ => [] }
def c144 (N : Nat) : Cfg := { ti := ti, gl := gl, eqt := eqt, meth := fun _ _ => none, con := fun | 71 => some ⟨as71, rs71, fun x => X71 N x.1 x.2.1 x.2.2.1⟩ | 142 => some ⟨as142, rs142, fun x => X142 N x.1 x.2.1⟩ | _ => none }
def b144 : Code := match Tryz.f144.body with | some b => b | none => .skip
def X144.l2.t (a1 : List T198.den) (a2 : Int) (p3 : Int) : List (Nat × D) := [(0, .val (.sl false T198r) a1), (1, .val (.int .i64) a2), (5, .val (.int .i64) p3)]
def X144.l2.h (a1 : List T198.den) (a2 : Int) (p3 : Int) : List E := []
def X144.l2 (N : Nat) (a1 : List T198.den) (a2 : Int)  : Nat → Int → Option Bool
  | 0, _ => none
  | n + 1, p3 =>
    bif decide (p3 < (a1.length : Int)) then
      (if (0 : Int) ≤ p3 then Option.bind (a1[p3.toNat]?) fun v4 =>
      Option.bind (X71 N v4.1 1 120) fun v5 =>
      bif !v5 then
        some false
      else (if (0 : Int) ≤ p3 then Option.bind (a1[p3.toNat]?) fun v6 =>
      Option.bind (X142 N v6.2.1 a2) fun v7 =>
      bif !v7 then
        some false
      else bif decide (p3 > 0) then
        (if (0 : Int) ≤ (IntKind.i64.wrap (p3 - 1)) then Option.bind (a1[(IntKind.i64.wrap (p3 - 1)).toNat]?) fun v8 =>
        (if (0 : Int) ≤ p3 then Option.bind (a1[p3.toNat]?) fun v9 =>
        bif decide (v8.1 ≥ v9.1) then
          some false
        else X144.l2 N a1 a2 n (IntKind.i64.wrap (p3 + 1)) else none) else none)
      else X144.l2 N a1 a2 n (IntKind.i64.wrap (p3 + 1)) else none) else none)
    else some true
def X144.l2.ce (N : Nat) (oc : List (Nat × (List (Nat × D) → List E → Option Bool))) : Nat → List (Nat × D) → List E → Option Bool := loopAt (c144 N) h144 N (endK (c144 N) Tryz.f144 (mvRs rs144)) [.b, .a, .b, .a] b144 oc 0
theorem X144.l2.s (N n : Nat)  (a1 : List T198.den) (a2 : Int) (p3 : Int) : X144.l2.ce N [] (n + 1) (X144.l2.t a1 a2 p3) (X144.l2.h a1 a2 p3) =
    bif decide (p3 < (a1.length : Int)) then
      (if (0 : Int) ≤ p3 then Option.bind (a1[p3.toNat]?) fun v4 =>
      Option.bind (X71 N v4.1 1 120) fun v5 =>
      bif !v5 then
        some false
      else (if (0 : Int) ≤ p3 then Option.bind (a1[p3.toNat]?) fun v6 =>
      Option.bind (X142 N v6.2.1 a2) fun v7 =>
      bif !v7 then
        some false
      else bif decide (p3 > 0) then
        (if (0 : Int) ≤ (IntKind.i64.wrap (p3 - 1)) then Option.bind (a1[(IntKind.i64.wrap (p3 - 1)).toNat]?) fun v8 =>
        (if (0 : Int) ≤ p3 then Option.bind (a1[p3.toNat]?) fun v9 =>
        bif decide (v8.1 ≥ v9.1) then
          some false
        else X144.l2.ce N [] n (X144.l2.t a1 a2 (IntKind.i64.wrap (p3 + 1))) (X144.l2.h a1 a2 (IntKind.i64.wrap (p3 + 1))) else none) else none)
      else X144.l2.ce N [] n (X144.l2.t a1 a2 (IntKind.i64.wrap (p3 + 1))) (X144.l2.h a1 a2 (IntKind.i64.wrap (p3 + 1))) else none) else none)
    else some true := by kernel_rfl
theorem X144.l2.e (N : Nat)  (a1 : List T198.den) (a2 : Int) : ∀ (n : Nat) (p3 : Int), X144.l2.ce N [] n (X144.l2.t a1 a2 p3) (X144.l2.h a1 a2 p3) = X144.l2 N a1 a2 n p3
  | 0, _ => rfl
  | n + 1, p3 => by rw [X144.l2.s, X144.l2]; (try simp only [X144.l2.e N a1 a2 n])
def X144 (N : Nat) (a1 : List T198.den) (a2 : Int) : Option Bool :=
  X144.l2 N a1 a2 N 0
theorem X144.ev (N : Nat) (a1 : List T198.den) (a2 : Int) : evF (c144 N) h144 Tryz.f144 as144 rs144 N (a1, a2, ()) = X144 N a1 a2 :=
  (show evF (c144 N) h144 Tryz.f144 as144 rs144 N (a1, a2, ()) =
    X144.l2.ce N [] N (X144.l2.t a1 a2 0) (X144.l2.h a1 a2 0) by kernel_rfl).trans (by simp only [X144.l2.e]; try rfl)
theorem X144.p (N : Nat) : PFun Tryz.prog gl 144 as144 rs144 (fun x => X144 N x.1 x.2.1) :=
  PFun.ev (c := c144 N) ⟨mixed, tiok, fun f k h => (by simp only [c144] at h; split at h <;> first | (cases h; done) | (cases h; first | exact X71.p N | exact X142.p N)), fun f k h => (by cases h), eqtok, fun t n f h => (by cases h)⟩ h144 (f := 144) (fn := Tryz.f144) (b := b144) (by kernel_rfl) (by kernel_rfl) (by kernel_rfl) (by kernel_rfl) (by decide) (fun x y h => ⟨N, (X144.ev N x.1 x.2.1).trans h⟩)
end Go.Eng.T
end
noncomputable section
namespace Go.Eng.T
open Go.RowKit
open Go.Proofs
set_option linter.unusedVariables false
/- spec.l22Quiet -/
abbrev as145 : List Sh := [.agg T114r]
abbrev rs145 : Rs := .one (.one .bool)
def h145 : Hint := {  }
def c145 (N : Nat) : Cfg := { ti := ti, gl := gl, eqt := eqt, meth := fun _ _ => none, con := fun _ => none }
def b145 : Code := match Tryz.f145.body with | some b => b | none => .skip
def X145 (N : Nat) (a1 : T114.den) : Option Bool :=
  bif !a1.2.2.2.2.2.2.2.1 then
    bif !a1.2.2.2.2.2.2.2.2.1 then
      bif a1.2.2.2.2.2.2.2.2.2.1 == 0 then
        some ((IntKind.i64.wrap ((IntKind.i64.wrap ((a1.2.2.2.2.2.2.2.2.2.2.1.length : Int) + (a1.2.2.2.2.2.2.2.2.2.2.2.1.length : Int))) + (a1.2.2.2.2.2.2.2.2.2.2.2.2.1.length : Int))) == 0)
      else some false
    else some false
  else some false
theorem X145.ev (N : Nat) (a1 : T114.den) : evF (c145 N) h145 Tryz.f145 as145 rs145 N (a1, ()) = X145 N a1 := by kernel_rfl
theorem X145.p (N : Nat) : PFun Tryz.prog gl 145 as145 rs145 (fun x => X145 N x.1) :=
  PFun.ev (c := c145 N) ⟨mixed, tiok, fun f k h => (by cases h), fun f k h => (by cases h), eqtok, fun t n f h => (by cases h)⟩ h145 (f := 145) (fn := Tryz.f145) (b := b145) (by kernel_rfl) (by kernel_rfl) (by kernel_rfl) (by kernel_rfl) (by decide) (fun x y h => ⟨N, (X145.ev N x.1).trans h⟩)
end Go.Eng.T
end
