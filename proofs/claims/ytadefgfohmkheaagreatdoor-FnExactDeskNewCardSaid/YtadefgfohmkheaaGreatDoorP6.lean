/- Part of the proof: functions that the law reaches, each with the typed function that it computes. -/
import Derived.Test.YtadefgfohmkheaaGreatDoorP1
import Derived.Test.YtadefgfohmkheaaGreatDoorP5
import Derived.Test.YtadefgfohmkheaaGreatDoorP4
noncomputable section
namespace Go.Eng.T
open Go.RowKit
open Go.Proofs
set_option linter.unusedVariables false
/- strings.HasPrefix -/
abbrev as91 : List Sh := [.one .str, .one .str]
abbrev rs91 : Rs := .one (.one .bool)
def h91 : Hint := {  }
def c91 (N : Nat) : Cfg := { ti := ti, gl := gl, eqt := eqt, meth := fun _ _ => none, con := fun | 127 => some ⟨as127, rs127, fun x => X127 N x.1 x.2.1⟩ | _ => none }
def b91 : Code := match Tryz.f91.body with | some b => b | none => .skip
def X91 (N : Nat) (a1 : ByteArray) (a2 : ByteArray) : Option Bool :=
  Option.bind (X127 N a1 a2) fun v3 =>
  some v3
theorem X91.ev (N : Nat) (a1 : ByteArray) (a2 : ByteArray) : evF (c91 N) h91 Tryz.f91 as91 rs91 N (a1, a2, ()) = X91 N a1 a2 := by kernel_rfl
theorem X91.p (N : Nat) : PFun Tryz.prog gl 91 as91 rs91 (fun x => X91 N x.1 x.2.1) :=
  PFun.ev (c := c91 N) ⟨mixed, tiok, fun f k h => (by simp only [c91] at h; split at h <;> first | (cases h; done) | (cases h; first | exact X127.p N)), fun f k h => (by cases h), eqtok, fun t n f h => (by cases h)⟩ h91 (f := 91) (fn := Tryz.f91) (b := b91) (by kernel_rfl) (by kernel_rfl) (by kernel_rfl) (by kernel_rfl) (by decide) (fun x y h => ⟨N, (X91.ev N x.1 x.2.1).trans h⟩)
end Go.Eng.T
end
noncomputable section
namespace Go.Eng.T
open Go.RowKit
open Go.Proofs
set_option linter.unusedVariables false
/- impl.DeskApart -/
abbrev as55 : List Sh := [.one (.sl false T58)]
abbrev rs55 : Rs := .one (.one .bool)
def h55 : Hint := { keep := fun | 4 => [0, 10, 11, 12] | 9 => [0, 3, 4, 10, 11, 12, 20, 21, 22] | _ => [] }
def c55 (N : Nat) : Cfg := { ti := ti, gl := gl, eqt := eqt, meth := fun _ _ => none, con := fun | 90 => some ⟨as90, rs90, fun x => X90 N x.1⟩ | 91 => some ⟨as91, rs91, fun x => X91 N x.1 x.2.1⟩ | _ => none }
def b55 : Code := match Tryz.f55.body with | some b => b | none => .skip
def X55.l9.t (a1 : List T58.den) (p2 : Int) (v3 : T58.den) (p13 : Int) : List (Nat × D) := [(0, .val (.sl false T58) a1), (3, .val (.int .i64) p2), (4, .bp 0 0), (10, .val (.sl false T58) a1), (11, .val (.int .i64) (a1.length : Int)), (12, .val (.int .i64) p2), (20, .val (.sl false T58) a1), (21, .val (.int .i64) (a1.length : Int)), (22, .val (.int .i64) p13)]
def X55.l9.h (a1 : List T58.den) (p2 : Int) (v3 : T58.den) (p13 : Int) : List E := [.box [.val .str v3.1, .val .str v3.2.1, .val .str v3.2.2.1, .val .str v3.2.2.2.1]]
def X55.l4.t (a1 : List T58.den) (p2 : Int) : List (Nat × D) := [(0, .val (.sl false T58) a1), (10, .val (.sl false T58) a1), (11, .val (.int .i64) (a1.length : Int)), (12, .val (.int .i64) p2)]
def X55.l4.h (a1 : List T58.den) (p2 : Int) : List E := []
def X55.l9 (N : Nat) (a1 : List T58.den) (p2 : Int) (v3 : T58.den) (k4 : Int → Option Bool) : Nat → Int → Option Bool
  | 0, _ => none
  | n + 1, p13 =>
    bif decide (p13 < (a1.length : Int)) then
      (if (0 : Int) ≤ p13 then Option.bind (a1[p13.toNat]?) fun v14 =>
      bif p2 != p13 then
        bif v3.2.1.toList == v14.2.1.toList then
          some false
        else Option.bind (X91 N v3.2.2.1 v14.2.2.1) fun v15 =>
        bif v15 then
          some false
        else X55.l9 N a1 p2 v3 k4 n (IntKind.i64.wrap (p13 + 1))
      else X55.l9 N a1 p2 v3 k4 n (IntKind.i64.wrap (p13 + 1)) else none)
    else k4 (IntKind.i64.wrap (p2 + 1))
def X55.l9.ce (N : Nat) (oc : List (Nat × (List (Nat × D) → List E → Option Bool))) : Nat → List (Nat × D) → List E → Option Bool := loopAt (c55 N) h55 N (endK (c55 N) Tryz.f55 (mvRs rs55)) [.b, .b, .a, .b, .a, .a, .b, .b, .a, .a, .b, .b, .b, .a] b55 oc 1
theorem X55.l9.s (N n : Nat) (g4 : List (Nat × D) → List E → Option Bool) (a1 : List T58.den) (p2 : Int) (v3 : T58.den) (p13 : Int) : X55.l9.ce N [(0, g4)] (n + 1) (X55.l9.t a1 p2 v3 p13) (X55.l9.h a1 p2 v3 p13) =
    bif decide (p13 < (a1.length : Int)) then
      (if (0 : Int) ≤ p13 then Option.bind (a1[p13.toNat]?) fun v14 =>
      bif p2 != p13 then
        bif v3.2.1.toList == v14.2.1.toList then
          some false
        else Option.bind (X91 N v3.2.2.1 v14.2.2.1) fun v15 =>
        bif v15 then
          some false
        else X55.l9.ce N [(0, g4)] n (X55.l9.t a1 p2 v3 (IntKind.i64.wrap (p13 + 1))) (X55.l9.h a1 p2 v3 (IntKind.i64.wrap (p13 + 1)))
      else X55.l9.ce N [(0, g4)] n (X55.l9.t a1 p2 v3 (IntKind.i64.wrap (p13 + 1))) (X55.l9.h a1 p2 v3 (IntKind.i64.wrap (p13 + 1))) else none)
    else g4 (X55.l4.t a1 (IntKind.i64.wrap (p2 + 1))) (X55.l4.h a1 (IntKind.i64.wrap (p2 + 1))) := by kernel_rfl
theorem X55.l9.e (N : Nat) (g4 : List (Nat × D) → List E → Option Bool) (a1 : List T58.den) (p2 : Int) (v3 : T58.den) : ∀ (n : Nat) (p13 : Int), X55.l9.ce N [(0, g4)] n (X55.l9.t a1 p2 v3 p13) (X55.l9.h a1 p2 v3 p13) = X55.l9 N a1 p2 v3 (fun p2 => g4 (X55.l4.t a1 p2) (X55.l4.h a1 p2)) n p13
  | 0, _ => rfl
  | n + 1, p13 => by rw [X55.l9.s, X55.l9]; (try simp only [X55.l9.e N g4 a1 p2 v3 n])
def X55.l4 (N : Nat) (a1 : List T58.den)  : Nat → Int → Option Bool
  | 0, _ => none
  | n + 1, p2 =>
    bif decide (p2 < (a1.length : Int)) then
      (if (0 : Int) ≤ p2 then Option.bind (a1[p2.toNat]?) fun v3 =>
      Option.bind (X90 N v3) fun v5 =>
      bif !v5 then
        some false
      else X55.l9 N a1 p2 v3 (X55.l4 N a1 n) N 0 else none)
    else some true
def X55.l4.ce (N : Nat) (oc : List (Nat × (List (Nat × D) → List E → Option Bool))) : Nat → List (Nat × D) → List E → Option Bool := loopAt (c55 N) h55 N (endK (c55 N) Tryz.f55 (mvRs rs55)) [.b, .b, .a, .b, .a] b55 oc 0
theorem X55.l4.s (N n : Nat)  (a1 : List T58.den) (p2 : Int) : X55.l4.ce N [] (n + 1) (X55.l4.t a1 p2) (X55.l4.h a1 p2) =
    bif decide (p2 < (a1.length : Int)) then
      (if (0 : Int) ≤ p2 then Option.bind (a1[p2.toNat]?) fun v3 =>
      Option.bind (X90 N v3) fun v5 =>
      bif !v5 then
        some false
      else X55.l9.ce N [(0, X55.l4.ce N [] n)] N (X55.l9.t a1 p2 v3 0) (X55.l9.h a1 p2 v3 0) else none)
    else some true := by kernel_rfl
theorem X55.l4.e (N : Nat)  (a1 : List T58.den) : ∀ (n : Nat) (p2 : Int), X55.l4.ce N [] n (X55.l4.t a1 p2) (X55.l4.h a1 p2) = X55.l4 N a1 n p2
  | 0, _ => rfl
  | n + 1, p2 => by rw [X55.l4.s, X55.l4]; (try simp only [X55.l4.e N a1 n, X55.l9.e])
def X55 (N : Nat) (a1 : List T58.den) : Option Bool :=
  bif decide ((a1.length : Int) > 4) then
    some false
  else X55.l4 N a1 N 0
theorem X55.ev (N : Nat) (a1 : List T58.den) : evF (c55 N) h55 Tryz.f55 as55 rs55 N (a1, ()) = X55 N a1 :=
  (show evF (c55 N) h55 Tryz.f55 as55 rs55 N (a1, ()) =
    bif decide ((a1.length : Int) > 4) then
      some false
    else X55.l4.ce N [] N (X55.l4.t a1 0) (X55.l4.h a1 0) by kernel_rfl).trans (by simp only [X55.l4.e]; try rfl)
theorem X55.p (N : Nat) : PFun Tryz.prog gl 55 as55 rs55 (fun x => X55 N x.1) :=
  PFun.ev (c := c55 N) ⟨mixed, tiok, fun f k h => (by simp only [c55] at h; split at h <;> first | (cases h; done) | (cases h; first | exact X90.p N | exact X91.p N)), fun f k h => (by cases h), eqtok, fun t n f h => (by cases h)⟩ h55 (f := 55) (fn := Tryz.f55) (b := b55) (by kernel_rfl) (by kernel_rfl) (by kernel_rfl) (by kernel_rfl) (by decide) (fun x y h => ⟨N, (X55.ev N x.1).trans h⟩)
end Go.Eng.T
end
noncomputable section
namespace Go.Eng.T
open Go.RowKit
open Go.Proofs
set_option linter.unusedVariables false
/- impl.DeskWorldOk -/
abbrev as28 : List Sh := [.agg T43r]
abbrev rs28 : Rs := .one (.one .bool)
def h28 : Hint := {  }
def c28 (N : Nat) : Cfg := { ti := ti, gl := gl, eqt := eqt, meth := fun _ _ => none, con := fun | 54 => some ⟨as54, rs54, fun x => X54 N x.1⟩ | 55 => some ⟨as55, rs55, fun x => X55 N x.1⟩ | _ => none }
def b28 : Code := match Tryz.f28.body with | some b => b | none => .skip
def X28 (N : Nat) (a1 : T43.den) : Option Bool :=
  Option.bind (X54 N a1.1) fun v2 =>
  bif v2 then
    Option.bind (X55 N a1.2.1) fun v3 =>
    some v3
  else some false
theorem X28.ev (N : Nat) (a1 : T43.den) : evF (c28 N) h28 Tryz.f28 as28 rs28 N (a1, ()) = X28 N a1 := by kernel_rfl
theorem X28.p (N : Nat) : PFun Tryz.prog gl 28 as28 rs28 (fun x => X28 N x.1) :=
  PFun.ev (c := c28 N) ⟨mixed, tiok, fun f k h => (by simp only [c28] at h; split at h <;> first | (cases h; done) | (cases h; first | exact X54.p N | exact X55.p N)), fun f k h => (by cases h), eqtok, fun t n f h => (by cases h)⟩ h28 (f := 28) (fn := Tryz.f28) (b := b28) (by kernel_rfl) (by kernel_rfl) (by kernel_rfl) (by kernel_rfl) (by decide) (fun x y h => ⟨N, (X28.ev N x.1).trans h⟩)
end Go.Eng.T
end
noncomputable section
namespace Go.Eng.T
open Go.RowKit
open Go.Proofs
set_option linter.unusedVariables false
/- impl.DeskNew -/
abbrev as9 : List Sh := [.agg T25r, .one (.int .i64), .one (.sl false T58)]
abbrev rs9 : Rs := .one (.agg T43)
def h9 : Hint := {  }
def c9 (N : Nat) : Cfg := { ti := ti, gl := gl, eqt := eqt, meth := fun _ _ => none, con := fun | 25 => some ⟨as25, rs25, fun x => X25 N x.1 x.2.1⟩ | 26 => some ⟨as26, rs26, fun x => X26 N x.1⟩ | 27 => some ⟨as27, rs27, fun x => X27 N x.1⟩ | 28 => some ⟨as28, rs28, fun x => X28 N x.1⟩ | _ => none }
def b9 : Code := match Tryz.f9.body with | some b => b | none => .skip
def X9 (N : Nat) (a1 : T25.den) (a2 : Int) (a3 : List T58.den) : Option T43.den :=
  Option.bind (X25 N a1 a2) fun v4 =>
  Option.bind (X26 N a3) fun v5 =>
  bif decide (a2 < 1) then
    some (((([] : List T77.den), ([] : List T83.den), ()), (([] : List T114.den), ([] : List T160.den), ([] : List T218.den), ()), 0, ([] : List T120.den), ()), ([] : List T58.den), ())
  else bif decide (a2 > 5) then
    some (((([] : List T77.den), ([] : List T83.den), ()), (([] : List T114.den), ([] : List T160.den), ([] : List T218.den), ()), 0, ([] : List T120.den), ()), ([] : List T58.den), ())
  else Option.bind (X27 N a1) fun v6 =>
  bif !v6 then
    some (((([] : List T77.den), ([] : List T83.den), ()), (([] : List T114.den), ([] : List T160.den), ([] : List T218.den), ()), 0, ([] : List T120.den), ()), ([] : List T58.den), ())
  else Option.bind (X28 N (v4, v5, ())) fun v7 =>
  bif !v7 then
    some (((([] : List T77.den), ([] : List T83.den), ()), (([] : List T114.den), ([] : List T160.den), ([] : List T218.den), ()), 0, ([] : List T120.den), ()), ([] : List T58.den), ())
  else some (v4, v5, ())
theorem X9.ev (N : Nat) (a1 : T25.den) (a2 : Int) (a3 : List T58.den) : evF (c9 N) h9 Tryz.f9 as9 rs9 N (a1, a2, a3, ()) = X9 N a1 a2 a3 := by kernel_rfl
theorem X9.p (N : Nat) : PFun Tryz.prog gl 9 as9 rs9 (fun x => X9 N x.1 x.2.1 x.2.2.1) :=
  PFun.ev (c := c9 N) ⟨mixed, tiok, fun f k h => (by simp only [c9] at h; split at h <;> first | (cases h; done) | (cases h; first | exact X25.p N | exact X26.p N | exact X27.p N | exact X28.p N)), fun f k h => (by cases h), eqtok, fun t n f h => (by cases h)⟩ h9 (f := 9) (fn := Tryz.f9) (b := b9) (by kernel_rfl) (by kernel_rfl) (by kernel_rfl) (by kernel_rfl) (by decide) (fun x y h => ⟨N, (X9.ev N x.1 x.2.1 x.2.2.1).trans h⟩)
end Go.Eng.T
end
noncomputable section
namespace Go.Eng.T
open Go.RowKit
open Go.Proofs
set_option linter.unusedVariables false
/- laws.eqDesk -/
abbrev as32 : List Sh := [.agg T58, .agg T58]
abbrev rs32 : Rs := .one (.one .bool)
def h32 : Hint := {  }
def c32 (N : Nat) : Cfg := { ti := ti, gl := gl, eqt := eqt, meth := fun _ _ => none, con := fun _ => none }
def b32 : Code := match Tryz.f32.body with | some b => b | none => .skip
def X32 (N : Nat) (a1 : T58.den) (a2 : T58.den) : Option Bool :=
  bif !(a1.1.toList == a2.1.toList) then
    some false
  else bif !(a1.2.1.toList == a2.2.1.toList) then
    some false
  else bif !(a1.2.2.1.toList == a2.2.2.1.toList) then
    some false
  else bif !(a1.2.2.2.1.toList == a2.2.2.2.1.toList) then
    some false
  else some true
theorem X32.ev (N : Nat) (a1 : T58.den) (a2 : T58.den) : evF (c32 N) h32 Tryz.f32 as32 rs32 N (a1, a2, ()) = X32 N a1 a2 := by kernel_rfl
theorem X32.p (N : Nat) : PFun Tryz.prog gl 32 as32 rs32 (fun x => X32 N x.1 x.2.1) :=
  PFun.ev (c := c32 N) ⟨mixed, tiok, fun f k h => (by cases h), fun f k h => (by cases h), eqtok, fun t n f h => (by cases h)⟩ h32 (f := 32) (fn := Tryz.f32) (b := b32) (by kernel_rfl) (by kernel_rfl) (by kernel_rfl) (by kernel_rfl) (by decide) (fun x y h => ⟨N, (X32.ev N x.1 x.2.1).trans h⟩)
end Go.Eng.T
end
noncomputable section
namespace Go.Eng.T
open Go.RowKit
open Go.Proofs
set_option linter.unusedVariables false
/- laws.eqDeskS -/
abbrev as12 : List Sh := [.one (.sl false T58), .one (.sl false T58)]
abbrev rs12 : Rs := .one (.one .bool)
def h12 : Hint := { keep := fun | 4 => [0, 1, 5] | _ => [] }
def c12 (N : Nat) : Cfg := { ti := ti, gl := gl, eqt := eqt, meth := fun _ _ => none, con := fun | 32 => some ⟨as32, rs32, fun x => X32 N x.1 x.2.1⟩ | _ => none }
def b12 : Code := match Tryz.f12.body with | some b => b | none => .skip
def X12.l4.t (a1 : List T58.den) (a2 : List T58.den) (p3 : Int) : List (Nat × D) := [(0, .val (.sl false T58) a1), (1, .val (.sl false T58) a2), (5, .val (.int .i64) p3)]
def X12.l4.h (a1 : List T58.den) (a2 : List T58.den) (p3 : Int) : List E := []
def X12.l4 (N : Nat) (a1 : List T58.den) (a2 : List T58.den)  : Nat → Int → Option Bool
  | 0, _ => none
  | n + 1, p3 =>
    bif decide (p3 < (a1.length : Int)) then
      (if (0 : Int) ≤ p3 then Option.bind (a1[p3.toNat]?) fun v4 =>
      (if (0 : Int) ≤ p3 then Option.bind (a2[p3.toNat]?) fun v5 =>
      Option.bind (X32 N v4 v5) fun v6 =>
      bif !v6 then
        some false
      else X12.l4 N a1 a2 n (IntKind.i64.wrap (p3 + 1)) else none) else none)
    else some true
def X12.l4.ce (N : Nat) (oc : List (Nat × (List (Nat × D) → List E → Option Bool))) : Nat → List (Nat × D) → List E → Option Bool := loopAt (c12 N) h12 N (endK (c12 N) Tryz.f12 (mvRs rs12)) [.b, .b, .a, .b, .a] b12 oc 0
theorem X12.l4.s (N n : Nat)  (a1 : List T58.den) (a2 : List T58.den) (p3 : Int) : X12.l4.ce N [] (n + 1) (X12.l4.t a1 a2 p3) (X12.l4.h a1 a2 p3) =
    bif decide (p3 < (a1.length : Int)) then
      (if (0 : Int) ≤ p3 then Option.bind (a1[p3.toNat]?) fun v4 =>
      (if (0 : Int) ≤ p3 then Option.bind (a2[p3.toNat]?) fun v5 =>
      Option.bind (X32 N v4 v5) fun v6 =>
      bif !v6 then
        some false
      else X12.l4.ce N [] n (X12.l4.t a1 a2 (IntKind.i64.wrap (p3 + 1))) (X12.l4.h a1 a2 (IntKind.i64.wrap (p3 + 1))) else none) else none)
    else some true := by kernel_rfl
theorem X12.l4.e (N : Nat)  (a1 : List T58.den) (a2 : List T58.den) : ∀ (n : Nat) (p3 : Int), X12.l4.ce N [] n (X12.l4.t a1 a2 p3) (X12.l4.h a1 a2 p3) = X12.l4 N a1 a2 n p3
  | 0, _ => rfl
  | n + 1, p3 => by rw [X12.l4.s, X12.l4]; (try simp only [X12.l4.e N a1 a2 n])
def X12 (N : Nat) (a1 : List T58.den) (a2 : List T58.den) : Option Bool :=
  bif (a1.length : Int) != (a2.length : Int) then
    some false
  else X12.l4 N a1 a2 N 0
theorem X12.ev (N : Nat) (a1 : List T58.den) (a2 : List T58.den) : evF (c12 N) h12 Tryz.f12 as12 rs12 N (a1, a2, ()) = X12 N a1 a2 :=
  (show evF (c12 N) h12 Tryz.f12 as12 rs12 N (a1, a2, ()) =
    bif (a1.length : Int) != (a2.length : Int) then
      some false
    else X12.l4.ce N [] N (X12.l4.t a1 a2 0) (X12.l4.h a1 a2 0) by kernel_rfl).trans (by simp only [X12.l4.e]; try rfl)
theorem X12.p (N : Nat) : PFun Tryz.prog gl 12 as12 rs12 (fun x => X12 N x.1 x.2.1) :=
  PFun.ev (c := c12 N) ⟨mixed, tiok, fun f k h => (by simp only [c12] at h; split at h <;> first | (cases h; done) | (cases h; first | exact X32.p N)), fun f k h => (by cases h), eqtok, fun t n f h => (by cases h)⟩ h12 (f := 12) (fn := Tryz.f12) (b := b12) (by kernel_rfl) (by kernel_rfl) (by kernel_rfl) (by kernel_rfl) (by decide) (fun x y h => ⟨N, (X12.ev N x.1 x.2.1).trans h⟩)
end Go.Eng.T
end
noncomputable section
namespace Go.Eng.T
open Go.RowKit
open Go.Proofs
set_option linter.unusedVariables false
/- laws.eqGateTeam -/
abbrev as58 : List Sh := [.agg T77, .agg T77]
abbrev rs58 : Rs := .one (.one .bool)
def h58 : Hint := {  }
def c58 (N : Nat) : Cfg := { ti := ti, gl := gl, eqt := eqt, meth := fun _ _ => none, con := fun _ => none }
def b58 : Code := match Tryz.f58.body with | some b => b | none => .skip
def X58 (N : Nat) (a1 : T77.den) (a2 : T77.den) : Option Bool :=
  bif !(a1.1.toList == a2.1.toList) then
    some false
  else bif !(a1.2.1.toList == a2.2.1.toList) then
    some false
  else some true
theorem X58.ev (N : Nat) (a1 : T77.den) (a2 : T77.den) : evF (c58 N) h58 Tryz.f58 as58 rs58 N (a1, a2, ()) = X58 N a1 a2 := by kernel_rfl
theorem X58.p (N : Nat) : PFun Tryz.prog gl 58 as58 rs58 (fun x => X58 N x.1 x.2.1) :=
  PFun.ev (c := c58 N) ⟨mixed, tiok, fun f k h => (by cases h), fun f k h => (by cases h), eqtok, fun t n f h => (by cases h)⟩ h58 (f := 58) (fn := Tryz.f58) (b := b58) (by kernel_rfl) (by kernel_rfl) (by kernel_rfl) (by kernel_rfl) (by decide) (fun x y h => ⟨N, (X58.ev N x.1 x.2.1).trans h⟩)
end Go.Eng.T
end
noncomputable section
namespace Go.Eng.T
open Go.RowKit
open Go.Proofs
set_option linter.unusedVariables false
/- laws.eqGateTeamS -/
abbrev as30 : List Sh := [.one (.sl false T77), .one (.sl false T77)]
abbrev rs30 : Rs := .one (.one .bool)
def h30 : Hint := { keep := fun | 4 => [0, 1, 5] | _ => [] }
def c30 (N : Nat) : Cfg := { ti := ti, gl := gl, eqt := eqt, meth := fun _ _ => none, con := fun | 58 => some ⟨as58, rs58, fun x => X58 N x.1 x.2.1⟩ | _ => none }
def b30 : Code := match Tryz.f30.body with | some b => b | none => .skip
def X30.l4.t (a1 : List T77.den) (a2 : List T77.den) (p3 : Int) : List (Nat × D) := [(0, .val (.sl false T77) a1), (1, .val (.sl false T77) a2), (5, .val (.int .i64) p3)]
def X30.l4.h (a1 : List T77.den) (a2 : List T77.den) (p3 : Int) : List E := []
def X30.l4 (N : Nat) (a1 : List T77.den) (a2 : List T77.den)  : Nat → Int → Option Bool
  | 0, _ => none
  | n + 1, p3 =>
    bif decide (p3 < (a1.length : Int)) then
      (if (0 : Int) ≤ p3 then Option.bind (a1[p3.toNat]?) fun v4 =>
      (if (0 : Int) ≤ p3 then Option.bind (a2[p3.toNat]?) fun v5 =>
      Option.bind (X58 N v4 v5) fun v6 =>
      bif !v6 then
        some false
      else X30.l4 N a1 a2 n (IntKind.i64.wrap (p3 + 1)) else none) else none)
    else some true
def X30.l4.ce (N : Nat) (oc : List (Nat × (List (Nat × D) → List E → Option Bool))) : Nat → List (Nat × D) → List E → Option Bool := loopAt (c30 N) h30 N (endK (c30 N) Tryz.f30 (mvRs rs30)) [.b, .b, .a, .b, .a] b30 oc 0
theorem X30.l4.s (N n : Nat)  (a1 : List T77.den) (a2 : List T77.den) (p3 : Int) : X30.l4.ce N [] (n + 1) (X30.l4.t a1 a2 p3) (X30.l4.h a1 a2 p3) =
    bif decide (p3 < (a1.length : Int)) then
      (if (0 : Int) ≤ p3 then Option.bind (a1[p3.toNat]?) fun v4 =>
      (if (0 : Int) ≤ p3 then Option.bind (a2[p3.toNat]?) fun v5 =>
      Option.bind (X58 N v4 v5) fun v6 =>
      bif !v6 then
        some false
      else X30.l4.ce N [] n (X30.l4.t a1 a2 (IntKind.i64.wrap (p3 + 1))) (X30.l4.h a1 a2 (IntKind.i64.wrap (p3 + 1))) else none) else none)
    else some true := by kernel_rfl
theorem X30.l4.e (N : Nat)  (a1 : List T77.den) (a2 : List T77.den) : ∀ (n : Nat) (p3 : Int), X30.l4.ce N [] n (X30.l4.t a1 a2 p3) (X30.l4.h a1 a2 p3) = X30.l4 N a1 a2 n p3
  | 0, _ => rfl
  | n + 1, p3 => by rw [X30.l4.s, X30.l4]; (try simp only [X30.l4.e N a1 a2 n])
def X30 (N : Nat) (a1 : List T77.den) (a2 : List T77.den) : Option Bool :=
  bif (a1.length : Int) != (a2.length : Int) then
    some false
  else X30.l4 N a1 a2 N 0
theorem X30.ev (N : Nat) (a1 : List T77.den) (a2 : List T77.den) : evF (c30 N) h30 Tryz.f30 as30 rs30 N (a1, a2, ()) = X30 N a1 a2 :=
  (show evF (c30 N) h30 Tryz.f30 as30 rs30 N (a1, a2, ()) =
    bif (a1.length : Int) != (a2.length : Int) then
      some false
    else X30.l4.ce N [] N (X30.l4.t a1 a2 0) (X30.l4.h a1 a2 0) by kernel_rfl).trans (by simp only [X30.l4.e]; try rfl)
theorem X30.p (N : Nat) : PFun Tryz.prog gl 30 as30 rs30 (fun x => X30 N x.1 x.2.1) :=
  PFun.ev (c := c30 N) ⟨mixed, tiok, fun f k h => (by simp only [c30] at h; split at h <;> first | (cases h; done) | (cases h; first | exact X58.p N)), fun f k h => (by cases h), eqtok, fun t n f h => (by cases h)⟩ h30 (f := 30) (fn := Tryz.f30) (b := b30) (by kernel_rfl) (by kernel_rfl) (by kernel_rfl) (by kernel_rfl) (by decide) (fun x y h => ⟨N, (X30.ev N x.1 x.2.1).trans h⟩)
end Go.Eng.T
end
noncomputable section
namespace Go.Eng.T
open Go.RowKit
open Go.Proofs
set_option linter.unusedVariables false
/- laws.eqIntS -/
abbrev as132 : List Sh := [.one (.sl false (.int .i64)), .one (.sl false (.int .i64))]
abbrev rs132 : Rs := .one (.one .bool)
def h132 : Hint := { keep := fun | 4 => [0, 1, 5] | _ => [] }
def c132 (N : Nat) : Cfg := { ti := ti, gl := gl, eqt := eqt, meth := fun _ _ => none, con := fun _ => none }
def b132 : Code := match Tryz.f132.body with | some b => b | none => .skip
def X132.l4.t (a1 : List Int) (a2 : List Int) (p3 : Int) : List (Nat × D) := [(0, .val (.sl false (.int .i64)) a1), (1, .val (.sl false (.int .i64)) a2), (5, .val (.int .i64) p3)]
def X132.l4.h (a1 : List Int) (a2 : List Int) (p3 : Int) : List E := []
def X132.l4 (N : Nat) (a1 : List Int) (a2 : List Int)  : Nat → Int → Option Bool
  | 0, _ => none
  | n + 1, p3 =>
    bif decide (p3 < (a1.length : Int)) then
      (if (0 : Int) ≤ p3 then Option.bind (a1[p3.toNat]?) fun v4 =>
      (if (0 : Int) ≤ p3 then Option.bind (a2[p3.toNat]?) fun v5 =>
      bif v4 != v5 then
        some false
      else X132.l4 N a1 a2 n (IntKind.i64.wrap (p3 + 1)) else none) else none)
    else some true
def X132.l4.ce (N : Nat) (oc : List (Nat × (List (Nat × D) → List E → Option Bool))) : Nat → List (Nat × D) → List E → Option Bool := loopAt (c132 N) h132 N (endK (c132 N) Tryz.f132 (mvRs rs132)) [.b, .b, .a, .b, .a] b132 oc 0
theorem X132.l4.s (N n : Nat)  (a1 : List Int) (a2 : List Int) (p3 : Int) : X132.l4.ce N [] (n + 1) (X132.l4.t a1 a2 p3) (X132.l4.h a1 a2 p3) =
    bif decide (p3 < (a1.length : Int)) then
      (if (0 : Int) ≤ p3 then Option.bind (a1[p3.toNat]?) fun v4 =>
      (if (0 : Int) ≤ p3 then Option.bind (a2[p3.toNat]?) fun v5 =>
      bif v4 != v5 then
        some false
      else X132.l4.ce N [] n (X132.l4.t a1 a2 (IntKind.i64.wrap (p3 + 1))) (X132.l4.h a1 a2 (IntKind.i64.wrap (p3 + 1))) else none) else none)
    else some true := by kernel_rfl
theorem X132.l4.e (N : Nat)  (a1 : List Int) (a2 : List Int) : ∀ (n : Nat) (p3 : Int), X132.l4.ce N [] n (X132.l4.t a1 a2 p3) (X132.l4.h a1 a2 p3) = X132.l4 N a1 a2 n p3
  | 0, _ => rfl
  | n + 1, p3 => by rw [X132.l4.s, X132.l4]; (try simp only [X132.l4.e N a1 a2 n])
def X132 (N : Nat) (a1 : List Int) (a2 : List Int) : Option Bool :=
  bif (a1.length : Int) != (a2.length : Int) then
    some false
  else X132.l4 N a1 a2 N 0
theorem X132.ev (N : Nat) (a1 : List Int) (a2 : List Int) : evF (c132 N) h132 Tryz.f132 as132 rs132 N (a1, a2, ()) = X132 N a1 a2 :=
  (show evF (c132 N) h132 Tryz.f132 as132 rs132 N (a1, a2, ()) =
    bif (a1.length : Int) != (a2.length : Int) then
      some false
    else X132.l4.ce N [] N (X132.l4.t a1 a2 0) (X132.l4.h a1 a2 0) by kernel_rfl).trans (by simp only [X132.l4.e]; try rfl)
theorem X132.p (N : Nat) : PFun Tryz.prog gl 132 as132 rs132 (fun x => X132 N x.1 x.2.1) :=
  PFun.ev (c := c132 N) ⟨mixed, tiok, fun f k h => (by cases h), fun f k h => (by cases h), eqtok, fun t n f h => (by cases h)⟩ h132 (f := 132) (fn := Tryz.f132) (b := b132) (by kernel_rfl) (by kernel_rfl) (by kernel_rfl) (by kernel_rfl) (by decide) (fun x y h => ⟨N, (X132.ev N x.1 x.2.1).trans h⟩)
end Go.Eng.T
end
noncomputable section
namespace Go.Eng.T
open Go.RowKit
open Go.Proofs
set_option linter.unusedVariables false
/- laws.eqGateRule -/
abbrev as96 : List Sh := [.agg T81r, .agg T81r]
abbrev rs96 : Rs := .one (.one .bool)
def h96 : Hint := {  }
def c96 (N : Nat) : Cfg := { ti := ti, gl := gl, eqt := eqt, meth := fun _ _ => none, con := fun | 132 => some ⟨as132, rs132, fun x => X132 N x.1 x.2.1⟩ | _ => none }
def b96 : Code := match Tryz.f96.body with | some b => b | none => .skip
def X96 (N : Nat) (a1 : T81.den) (a2 : T81.den) : Option Bool :=
  Option.bind (X132 N a1.1 a2.1) fun v4 =>
  bif !v4 then
    some false
  else bif !(a1.2.1.toList == a2.2.1.toList) then
    some false
  else bif !(a1.2.2.1.toList == a2.2.2.1.toList) then
    some false
  else bif !(a1.2.2.2.1.toList == a2.2.2.2.1.toList) then
    some false
  else some true
theorem X96.ev (N : Nat) (a1 : T81.den) (a2 : T81.den) : evF (c96 N) h96 Tryz.f96 as96 rs96 N (a1, a2, ()) = X96 N a1 a2 := by kernel_rfl
theorem X96.p (N : Nat) : PFun Tryz.prog gl 96 as96 rs96 (fun x => X96 N x.1 x.2.1) :=
  PFun.ev (c := c96 N) ⟨mixed, tiok, fun f k h => (by simp only [c96] at h; split at h <;> first | (cases h; done) | (cases h; first | exact X132.p N)), fun f k h => (by cases h), eqtok, fun t n f h => (by cases h)⟩ h96 (f := 96) (fn := Tryz.f96) (b := b96) (by kernel_rfl) (by kernel_rfl) (by kernel_rfl) (by kernel_rfl) (by decide) (fun x y h => ⟨N, (X96.ev N x.1 x.2.1).trans h⟩)
end Go.Eng.T
end
noncomputable section
namespace Go.Eng.T
open Go.RowKit
open Go.Proofs
set_option linter.unusedVariables false
/- laws.eqGateGrant -/
abbrev as59 : List Sh := [.agg T83r, .agg T83r]
abbrev rs59 : Rs := .one (.one .bool)
def h59 : Hint := {  }
def c59 (N : Nat) : Cfg := { ti := ti, gl := gl, eqt := eqt, meth := fun _ _ => none, con := fun | 96 => some ⟨as96, rs96, fun x => X96 N x.1 x.2.1⟩ | _ => none }
def b59 : Code := match Tryz.f59.body with | some b => b | none => .skip
def X59 (N : Nat) (a1 : T83.den) (a2 : T83.den) : Option Bool :=
  bif a1.1 != a2.1 then
    some false
  else bif !(a1.2.1.toList == a2.2.1.toList) then
    some false
  else bif !(a1.2.2.1.toList == a2.2.2.1.toList) then
    some false
  else Option.bind (X96 N a1.2.2.2.1 a2.2.2.2.1) fun v3 =>
  bif !v3 then
    some false
  else some true
theorem X59.ev (N : Nat) (a1 : T83.den) (a2 : T83.den) : evF (c59 N) h59 Tryz.f59 as59 rs59 N (a1, a2, ()) = X59 N a1 a2 := by kernel_rfl
theorem X59.p (N : Nat) : PFun Tryz.prog gl 59 as59 rs59 (fun x => X59 N x.1 x.2.1) :=
  PFun.ev (c := c59 N) ⟨mixed, tiok, fun f k h => (by simp only [c59] at h; split at h <;> first | (cases h; done) | (cases h; first | exact X96.p N)), fun f k h => (by cases h), eqtok, fun t n f h => (by cases h)⟩ h59 (f := 59) (fn := Tryz.f59) (b := b59) (by kernel_rfl) (by kernel_rfl) (by kernel_rfl) (by kernel_rfl) (by decide) (fun x y h => ⟨N, (X59.ev N x.1 x.2.1).trans h⟩)
end Go.Eng.T
end
noncomputable section
namespace Go.Eng.T
open Go.RowKit
open Go.Proofs
set_option linter.unusedVariables false
/- laws.eqGateGrantS -/
abbrev as31 : List Sh := [.one (.sl false T83r), .one (.sl false T83r)]
abbrev rs31 : Rs := .one (.one .bool)
def h31 : Hint := { keep := fun | 4 => [0, 1, 5] | _ => [] }
def c31 (N : Nat) : Cfg := { ti := ti, gl := gl, eqt := eqt, meth := fun _ _ => none, con := fun | 59 => some ⟨as59, rs59, fun x => X59 N x.1 x.2.1⟩ | _ => none }
def b31 : Code := match Tryz.f31.body with | some b => b | none => .skip
def X31.l4.t (a1 : List T83.den) (a2 : List T83.den) (p3 : Int) : List (Nat × D) := [(0, .val (.sl false T83r) a1), (1, .val (.sl false T83r) a2), (5, .val (.int .i64) p3)]
def X31.l4.h (a1 : List T83.den) (a2 : List T83.den) (p3 : Int) : List E := []
def X31.l4 (N : Nat) (a1 : List T83.den) (a2 : List T83.den)  : Nat → Int → Option Bool
  | 0, _ => none
  | n + 1, p3 =>
    bif decide (p3 < (a1.length : Int)) then
      (if (0 : Int) ≤ p3 then Option.bind (a1[p3.toNat]?) fun v4 =>
      (if (0 : Int) ≤ p3 then Option.bind (a2[p3.toNat]?) fun v5 =>
      Option.bind (X59 N v4 v5) fun v6 =>
      bif !v6 then
        some false
      else X31.l4 N a1 a2 n (IntKind.i64.wrap (p3 + 1)) else none) else none)
    else some true
def X31.l4.ce (N : Nat) (oc : List (Nat × (List (Nat × D) → List E → Option Bool))) : Nat → List (Nat × D) → List E → Option Bool := loopAt (c31 N) h31 N (endK (c31 N) Tryz.f31 (mvRs rs31)) [.b, .b, .a, .b, .a] b31 oc 0
theorem X31.l4.s (N n : Nat)  (a1 : List T83.den) (a2 : List T83.den) (p3 : Int) : X31.l4.ce N [] (n + 1) (X31.l4.t a1 a2 p3) (X31.l4.h a1 a2 p3) =
    bif decide (p3 < (a1.length : Int)) then
      (if (0 : Int) ≤ p3 then Option.bind (a1[p3.toNat]?) fun v4 =>
      (if (0 : Int) ≤ p3 then Option.bind (a2[p3.toNat]?) fun v5 =>
      Option.bind (X59 N v4 v5) fun v6 =>
      bif !v6 then
        some false
      else X31.l4.ce N [] n (X31.l4.t a1 a2 (IntKind.i64.wrap (p3 + 1))) (X31.l4.h a1 a2 (IntKind.i64.wrap (p3 + 1))) else none) else none)
    else some true := by kernel_rfl
theorem X31.l4.e (N : Nat)  (a1 : List T83.den) (a2 : List T83.den) : ∀ (n : Nat) (p3 : Int), X31.l4.ce N [] n (X31.l4.t a1 a2 p3) (X31.l4.h a1 a2 p3) = X31.l4 N a1 a2 n p3
  | 0, _ => rfl
  | n + 1, p3 => by rw [X31.l4.s, X31.l4]; (try simp only [X31.l4.e N a1 a2 n])
def X31 (N : Nat) (a1 : List T83.den) (a2 : List T83.den) : Option Bool :=
  bif (a1.length : Int) != (a2.length : Int) then
    some false
  else X31.l4 N a1 a2 N 0
theorem X31.ev (N : Nat) (a1 : List T83.den) (a2 : List T83.den) : evF (c31 N) h31 Tryz.f31 as31 rs31 N (a1, a2, ()) = X31 N a1 a2 :=
  (show evF (c31 N) h31 Tryz.f31 as31 rs31 N (a1, a2, ()) =
    bif (a1.length : Int) != (a2.length : Int) then
      some false
    else X31.l4.ce N [] N (X31.l4.t a1 a2 0) (X31.l4.h a1 a2 0) by kernel_rfl).trans (by simp only [X31.l4.e]; try rfl)
theorem X31.p (N : Nat) : PFun Tryz.prog gl 31 as31 rs31 (fun x => X31 N x.1 x.2.1) :=
  PFun.ev (c := c31 N) ⟨mixed, tiok, fun f k h => (by simp only [c31] at h; split at h <;> first | (cases h; done) | (cases h; first | exact X59.p N)), fun f k h => (by cases h), eqtok, fun t n f h => (by cases h)⟩ h31 (f := 31) (fn := Tryz.f31) (b := b31) (by kernel_rfl) (by kernel_rfl) (by kernel_rfl) (by kernel_rfl) (by decide) (fun x y h => ⟨N, (X31.ev N x.1 x.2.1).trans h⟩)
end Go.Eng.T
end
noncomputable section
namespace Go.Eng.T
open Go.RowKit
open Go.Proofs
set_option linter.unusedVariables false
/- laws.eqHallHouse -/
abbrev as11 : List Sh := [.agg T25r, .agg T25r]
abbrev rs11 : Rs := .one (.one .bool)
def h11 : Hint := {  }
def c11 (N : Nat) : Cfg := { ti := ti, gl := gl, eqt := eqt, meth := fun _ _ => none, con := fun | 30 => some ⟨as30, rs30, fun x => X30 N x.1 x.2.1⟩ | 31 => some ⟨as31, rs31, fun x => X31 N x.1 x.2.1⟩ | _ => none }
def b11 : Code := match Tryz.f11.body with | some b => b | none => .skip
def X11 (N : Nat) (a1 : T25.den) (a2 : T25.den) : Option Bool :=
  Option.bind (X30 N a1.1 a2.1) fun v4 =>
  bif !v4 then
    some false
  else Option.bind (X31 N a1.2.1 a2.2.1) fun v5 =>
  bif !v5 then
    some false
  else some true
theorem X11.ev (N : Nat) (a1 : T25.den) (a2 : T25.den) : evF (c11 N) h11 Tryz.f11 as11 rs11 N (a1, a2, ()) = X11 N a1 a2 := by kernel_rfl
theorem X11.p (N : Nat) : PFun Tryz.prog gl 11 as11 rs11 (fun x => X11 N x.1 x.2.1) :=
  PFun.ev (c := c11 N) ⟨mixed, tiok, fun f k h => (by simp only [c11] at h; split at h <;> first | (cases h; done) | (cases h; first | exact X30.p N | exact X31.p N)), fun f k h => (by cases h), eqtok, fun t n f h => (by cases h)⟩ h11 (f := 11) (fn := Tryz.f11) (b := b11) (by kernel_rfl) (by kernel_rfl) (by kernel_rfl) (by kernel_rfl) (by decide) (fun x y h => ⟨N, (X11.ev N x.1 x.2.1).trans h⟩)
end Go.Eng.T
end
noncomputable section
namespace Go.Eng.T
open Go.RowKit
open Go.Proofs
set_option linter.unusedVariables false
/- laws.eqRecSlot -/
abbrev as185 : List Sh := [.agg T218, .agg T218]
abbrev rs185 : Rs := .one (.one .bool)
def h185 : Hint := {  }
def c185 (N : Nat) : Cfg := { ti := ti, gl := gl, eqt := eqt, meth := fun _ _ => none, con := fun _ => none }
def b185 : Code := match Tryz.f185.body with | some b => b | none => .skip
def X185 (N : Nat) (a1 : T218.den) (a2 : T218.den) : Option Bool :=
  bif a1.1 != a2.1 then
    some false
  else bif !(a1.2.1.toList == a2.2.1.toList) then
    some false
  else some true
theorem X185.ev (N : Nat) (a1 : T218.den) (a2 : T218.den) : evF (c185 N) h185 Tryz.f185 as185 rs185 N (a1, a2, ()) = X185 N a1 a2 := by kernel_rfl
theorem X185.p (N : Nat) : PFun Tryz.prog gl 185 as185 rs185 (fun x => X185 N x.1 x.2.1) :=
  PFun.ev (c := c185 N) ⟨mixed, tiok, fun f k h => (by cases h), fun f k h => (by cases h), eqtok, fun t n f h => (by cases h)⟩ h185 (f := 185) (fn := Tryz.f185) (b := b185) (by kernel_rfl) (by kernel_rfl) (by kernel_rfl) (by kernel_rfl) (by decide) (fun x y h => ⟨N, (X185.ev N x.1 x.2.1).trans h⟩)
end Go.Eng.T
end
noncomputable section
namespace Go.Eng.T
open Go.RowKit
open Go.Proofs
set_option linter.unusedVariables false
/- laws.eqRecSlotS -/
abbrev as164 : List Sh := [.one (.sl false T218), .one (.sl false T218)]
abbrev rs164 : Rs := .one (.one .bool)
def h164 : Hint := { keep := fun | 4 => [0, 1, 5] | _ => [] }
def c164 (N : Nat) : Cfg := { ti := ti, gl := gl, eqt := eqt, meth := fun _ _ => none, con := fun | 185 => some ⟨as185, rs185, fun x => X185 N x.1 x.2.1⟩ | _ => none }
def b164 : Code := match Tryz.f164.body with | some b => b | none => .skip
def X164.l4.t (a1 : List T218.den) (a2 : List T218.den) (p3 : Int) : List (Nat × D) := [(0, .val (.sl false T218) a1), (1, .val (.sl false T218) a2), (5, .val (.int .i64) p3)]
def X164.l4.h (a1 : List T218.den) (a2 : List T218.den) (p3 : Int) : List E := []
def X164.l4 (N : Nat) (a1 : List T218.den) (a2 : List T218.den)  : Nat → Int → Option Bool
  | 0, _ => none
  | n + 1, p3 =>
    bif decide (p3 < (a1.length : Int)) then
      (if (0 : Int) ≤ p3 then Option.bind (a1[p3.toNat]?) fun v4 =>
      (if (0 : Int) ≤ p3 then Option.bind (a2[p3.toNat]?) fun v5 =>
      Option.bind (X185 N v4 v5) fun v6 =>
      bif !v6 then
        some false
      else X164.l4 N a1 a2 n (IntKind.i64.wrap (p3 + 1)) else none) else none)
    else some true
def X164.l4.ce (N : Nat) (oc : List (Nat × (List (Nat × D) → List E → Option Bool))) : Nat → List (Nat × D) → List E → Option Bool := loopAt (c164 N) h164 N (endK (c164 N) Tryz.f164 (mvRs rs164)) [.b, .b, .a, .b, .a] b164 oc 0
theorem X164.l4.s (N n : Nat)  (a1 : List T218.den) (a2 : List T218.den) (p3 : Int) : X164.l4.ce N [] (n + 1) (X164.l4.t a1 a2 p3) (X164.l4.h a1 a2 p3) =
    bif decide (p3 < (a1.length : Int)) then
      (if (0 : Int) ≤ p3 then Option.bind (a1[p3.toNat]?) fun v4 =>
      (if (0 : Int) ≤ p3 then Option.bind (a2[p3.toNat]?) fun v5 =>
      Option.bind (X185 N v4 v5) fun v6 =>
      bif !v6 then
        some false
      else X164.l4.ce N [] n (X164.l4.t a1 a2 (IntKind.i64.wrap (p3 + 1))) (X164.l4.h a1 a2 (IntKind.i64.wrap (p3 + 1))) else none) else none)
    else some true := by kernel_rfl
theorem X164.l4.e (N : Nat)  (a1 : List T218.den) (a2 : List T218.den) : ∀ (n : Nat) (p3 : Int), X164.l4.ce N [] n (X164.l4.t a1 a2 p3) (X164.l4.h a1 a2 p3) = X164.l4 N a1 a2 n p3
  | 0, _ => rfl
  | n + 1, p3 => by rw [X164.l4.s, X164.l4]; (try simp only [X164.l4.e N a1 a2 n])
def X164 (N : Nat) (a1 : List T218.den) (a2 : List T218.den) : Option Bool :=
  bif (a1.length : Int) != (a2.length : Int) then
    some false
  else X164.l4 N a1 a2 N 0
theorem X164.ev (N : Nat) (a1 : List T218.den) (a2 : List T218.den) : evF (c164 N) h164 Tryz.f164 as164 rs164 N (a1, a2, ()) = X164 N a1 a2 :=
  (show evF (c164 N) h164 Tryz.f164 as164 rs164 N (a1, a2, ()) =
    bif (a1.length : Int) != (a2.length : Int) then
      some false
    else X164.l4.ce N [] N (X164.l4.t a1 a2 0) (X164.l4.h a1 a2 0) by kernel_rfl).trans (by simp only [X164.l4.e]; try rfl)
theorem X164.p (N : Nat) : PFun Tryz.prog gl 164 as164 rs164 (fun x => X164 N x.1 x.2.1) :=
  PFun.ev (c := c164 N) ⟨mixed, tiok, fun f k h => (by simp only [c164] at h; split at h <;> first | (cases h; done) | (cases h; first | exact X185.p N)), fun f k h => (by cases h), eqtok, fun t n f h => (by cases h)⟩ h164 (f := 164) (fn := Tryz.f164) (b := b164) (by kernel_rfl) (by kernel_rfl) (by kernel_rfl) (by kernel_rfl) (by decide) (fun x y h => ⟨N, (X164.ev N x.1 x.2.1).trans h⟩)
end Go.Eng.T
end
noncomputable section
namespace Go.Eng.T
open Go.RowKit
open Go.Proofs
set_option linter.unusedVariables false
/- laws.eqRecMessage -/
abbrev as129 : List Sh := [.agg T160r, .agg T160r]
abbrev rs129 : Rs := .one (.one .bool)
def h129 : Hint := {  }
def c129 (N : Nat) : Cfg := { ti := ti, gl := gl, eqt := eqt, meth := fun _ _ => none, con := fun | 164 => some ⟨as164, rs164, fun x => X164 N x.1 x.2.1⟩ | _ => none }
def b129 : Code := match Tryz.f129.body with | some b => b | none => .skip
def X129 (N : Nat) (a1 : T160.den) (a2 : T160.den) : Option Bool :=
  bif a1.1 != a2.1 then
    some false
  else bif a1.2.1 != a2.2.1 then
    some false
  else bif a1.2.2.1 != a2.2.2.1 then
    some false
  else bif a1.2.2.2.1 != a2.2.2.2.1 then
    some false
  else bif a1.2.2.2.2.1 != a2.2.2.2.2.1 then
    some false
  else bif a1.2.2.2.2.2.1 != a2.2.2.2.2.2.1 then
    some false
  else bif !(a1.2.2.2.2.2.2.1.toList == a2.2.2.2.2.2.2.1.toList) then
    some false
  else Option.bind (X164 N a1.2.2.2.2.2.2.2.1 a2.2.2.2.2.2.2.2.1) fun v3 =>
  bif !v3 then
    some false
  else some true
theorem X129.ev (N : Nat) (a1 : T160.den) (a2 : T160.den) : evF (c129 N) h129 Tryz.f129 as129 rs129 N (a1, a2, ()) = X129 N a1 a2 := by kernel_rfl
theorem X129.p (N : Nat) : PFun Tryz.prog gl 129 as129 rs129 (fun x => X129 N x.1 x.2.1) :=
  PFun.ev (c := c129 N) ⟨mixed, tiok, fun f k h => (by simp only [c129] at h; split at h <;> first | (cases h; done) | (cases h; first | exact X164.p N)), fun f k h => (by cases h), eqtok, fun t n f h => (by cases h)⟩ h129 (f := 129) (fn := Tryz.f129) (b := b129) (by kernel_rfl) (by kernel_rfl) (by kernel_rfl) (by kernel_rfl) (by decide) (fun x y h => ⟨N, (X129.ev N x.1 x.2.1).trans h⟩)
end Go.Eng.T
end
noncomputable section
namespace Go.Eng.T
open Go.RowKit
open Go.Proofs
set_option linter.unusedVariables false
/- laws.eqRecMessageS -/
abbrev as93 : List Sh := [.one (.sl false T160r), .one (.sl false T160r)]
abbrev rs93 : Rs := .one (.one .bool)
def h93 : Hint := { keep := fun | 4 => [0, 1, 5] | _ => [] }
def c93 (N : Nat) : Cfg := { ti := ti, gl := gl, eqt := eqt, meth := fun _ _ => none, con := fun | 129 => some ⟨as129, rs129, fun x => X129 N x.1 x.2.1⟩ | _ => none }
def b93 : Code := match Tryz.f93.body with | some b => b | none => .skip
def X93.l4.t (a1 : List T160.den) (a2 : List T160.den) (p3 : Int) : List (Nat × D) := [(0, .val (.sl false T160r) a1), (1, .val (.sl false T160r) a2), (5, .val (.int .i64) p3)]
def X93.l4.h (a1 : List T160.den) (a2 : List T160.den) (p3 : Int) : List E := []
def X93.l4 (N : Nat) (a1 : List T160.den) (a2 : List T160.den)  : Nat → Int → Option Bool
  | 0, _ => none
  | n + 1, p3 =>
    bif decide (p3 < (a1.length : Int)) then
      (if (0 : Int) ≤ p3 then Option.bind (a1[p3.toNat]?) fun v4 =>
      (if (0 : Int) ≤ p3 then Option.bind (a2[p3.toNat]?) fun v5 =>
      Option.bind (X129 N v4 v5) fun v6 =>
      bif !v6 then
        some false
      else X93.l4 N a1 a2 n (IntKind.i64.wrap (p3 + 1)) else none) else none)
    else some true
def X93.l4.ce (N : Nat) (oc : List (Nat × (List (Nat × D) → List E → Option Bool))) : Nat → List (Nat × D) → List E → Option Bool := loopAt (c93 N) h93 N (endK (c93 N) Tryz.f93 (mvRs rs93)) [.b, .b, .a, .b, .a] b93 oc 0
theorem X93.l4.s (N n : Nat)  (a1 : List T160.den) (a2 : List T160.den) (p3 : Int) : X93.l4.ce N [] (n + 1) (X93.l4.t a1 a2 p3) (X93.l4.h a1 a2 p3) =
    bif decide (p3 < (a1.length : Int)) then
      (if (0 : Int) ≤ p3 then Option.bind (a1[p3.toNat]?) fun v4 =>
      (if (0 : Int) ≤ p3 then Option.bind (a2[p3.toNat]?) fun v5 =>
      Option.bind (X129 N v4 v5) fun v6 =>
      bif !v6 then
        some false
      else X93.l4.ce N [] n (X93.l4.t a1 a2 (IntKind.i64.wrap (p3 + 1))) (X93.l4.h a1 a2 (IntKind.i64.wrap (p3 + 1))) else none) else none)
    else some true := by kernel_rfl
theorem X93.l4.e (N : Nat)  (a1 : List T160.den) (a2 : List T160.den) : ∀ (n : Nat) (p3 : Int), X93.l4.ce N [] n (X93.l4.t a1 a2 p3) (X93.l4.h a1 a2 p3) = X93.l4 N a1 a2 n p3
  | 0, _ => rfl
  | n + 1, p3 => by rw [X93.l4.s, X93.l4]; (try simp only [X93.l4.e N a1 a2 n])
def X93 (N : Nat) (a1 : List T160.den) (a2 : List T160.den) : Option Bool :=
  bif (a1.length : Int) != (a2.length : Int) then
    some false
  else X93.l4 N a1 a2 N 0
theorem X93.ev (N : Nat) (a1 : List T160.den) (a2 : List T160.den) : evF (c93 N) h93 Tryz.f93 as93 rs93 N (a1, a2, ()) = X93 N a1 a2 :=
  (show evF (c93 N) h93 Tryz.f93 as93 rs93 N (a1, a2, ()) =
    bif (a1.length : Int) != (a2.length : Int) then
      some false
    else X93.l4.ce N [] N (X93.l4.t a1 a2 0) (X93.l4.h a1 a2 0) by kernel_rfl).trans (by simp only [X93.l4.e]; try rfl)
theorem X93.p (N : Nat) : PFun Tryz.prog gl 93 as93 rs93 (fun x => X93 N x.1 x.2.1) :=
  PFun.ev (c := c93 N) ⟨mixed, tiok, fun f k h => (by simp only [c93] at h; split at h <;> first | (cases h; done) | (cases h; first | exact X129.p N)), fun f k h => (by cases h), eqtok, fun t n f h => (by cases h)⟩ h93 (f := 93) (fn := Tryz.f93) (b := b93) (by kernel_rfl) (by kernel_rfl) (by kernel_rfl) (by kernel_rfl) (by decide) (fun x y h => ⟨N, (X93.ev N x.1 x.2.1).trans h⟩)
end Go.Eng.T
end
noncomputable section
namespace Go.Eng.T
open Go.RowKit
open Go.Proofs
set_option linter.unusedVariables false
/- laws.eqRecDisk -/
abbrev as162 : List Sh := [.agg T110r, .agg T110r]
abbrev rs162 : Rs := .one (.one .bool)
def h162 : Hint := {  }
def c162 (N : Nat) : Cfg := { ti := ti, gl := gl, eqt := eqt, meth := fun _ _ => none, con := fun | 164 => some ⟨as164, rs164, fun x => X164 N x.1 x.2.1⟩ | _ => none }
def b162 : Code := match Tryz.f162.body with | some b => b | none => .skip
def X162 (N : Nat) (a1 : T110.den) (a2 : T110.den) : Option Bool :=
  bif a1.1 != a2.1 then
    some false
  else bif a1.2.1 != a2.2.1 then
    some false
  else Option.bind (X164 N a1.2.2.1 a2.2.2.1) fun v3 =>
  bif !v3 then
    some false
  else some true
theorem X162.ev (N : Nat) (a1 : T110.den) (a2 : T110.den) : evF (c162 N) h162 Tryz.f162 as162 rs162 N (a1, a2, ()) = X162 N a1 a2 := by kernel_rfl
theorem X162.p (N : Nat) : PFun Tryz.prog gl 162 as162 rs162 (fun x => X162 N x.1 x.2.1) :=
  PFun.ev (c := c162 N) ⟨mixed, tiok, fun f k h => (by simp only [c162] at h; split at h <;> first | (cases h; done) | (cases h; first | exact X164.p N)), fun f k h => (by cases h), eqtok, fun t n f h => (by cases h)⟩ h162 (f := 162) (fn := Tryz.f162) (b := b162) (by kernel_rfl) (by kernel_rfl) (by kernel_rfl) (by kernel_rfl) (by decide) (fun x y h => ⟨N, (X162.ev N x.1 x.2.1).trans h⟩)
end Go.Eng.T
end
noncomputable section
namespace Go.Eng.T
open Go.RowKit
open Go.Proofs
set_option linter.unusedVariables false
/- laws.eqStringS -/
abbrev as163 : List Sh := [.one (.sl false .str), .one (.sl false .str)]
abbrev rs163 : Rs := .one (.one .bool)
def h163 : Hint := { keep := fun | 4 => [0, 1, 5] | _ => [] }
def c163 (N : Nat) : Cfg := { ti := ti, gl := gl, eqt := eqt, meth := fun _ _ => none, con := fun _ => none }
def b163 : Code := match Tryz.f163.body with | some b => b | none => .skip
def X163.l4.t (a1 : List ByteArray) (a2 : List ByteArray) (p3 : Int) : List (Nat × D) := [(0, .val (.sl false .str) a1), (1, .val (.sl false .str) a2), (5, .val (.int .i64) p3)]
def X163.l4.h (a1 : List ByteArray) (a2 : List ByteArray) (p3 : Int) : List E := []
def X163.l4 (N : Nat) (a1 : List ByteArray) (a2 : List ByteArray)  : Nat → Int → Option Bool
  | 0, _ => none
  | n + 1, p3 =>
    bif decide (p3 < (a1.length : Int)) then
      (if (0 : Int) ≤ p3 then Option.bind (a1[p3.toNat]?) fun v4 =>
      (if (0 : Int) ≤ p3 then Option.bind (a2[p3.toNat]?) fun v5 =>
      bif !(v4.toList == v5.toList) then
        some false
      else X163.l4 N a1 a2 n (IntKind.i64.wrap (p3 + 1)) else none) else none)
    else some true
def X163.l4.ce (N : Nat) (oc : List (Nat × (List (Nat × D) → List E → Option Bool))) : Nat → List (Nat × D) → List E → Option Bool := loopAt (c163 N) h163 N (endK (c163 N) Tryz.f163 (mvRs rs163)) [.b, .b, .a, .b, .a] b163 oc 0
theorem X163.l4.s (N n : Nat)  (a1 : List ByteArray) (a2 : List ByteArray) (p3 : Int) : X163.l4.ce N [] (n + 1) (X163.l4.t a1 a2 p3) (X163.l4.h a1 a2 p3) =
    bif decide (p3 < (a1.length : Int)) then
      (if (0 : Int) ≤ p3 then Option.bind (a1[p3.toNat]?) fun v4 =>
      (if (0 : Int) ≤ p3 then Option.bind (a2[p3.toNat]?) fun v5 =>
      bif !(v4.toList == v5.toList) then
        some false
      else X163.l4.ce N [] n (X163.l4.t a1 a2 (IntKind.i64.wrap (p3 + 1))) (X163.l4.h a1 a2 (IntKind.i64.wrap (p3 + 1))) else none) else none)
    else some true := by kernel_rfl
theorem X163.l4.e (N : Nat)  (a1 : List ByteArray) (a2 : List ByteArray) : ∀ (n : Nat) (p3 : Int), X163.l4.ce N [] n (X163.l4.t a1 a2 p3) (X163.l4.h a1 a2 p3) = X163.l4 N a1 a2 n p3
  | 0, _ => rfl
  | n + 1, p3 => by rw [X163.l4.s, X163.l4]; (try simp only [X163.l4.e N a1 a2 n])
def X163 (N : Nat) (a1 : List ByteArray) (a2 : List ByteArray) : Option Bool :=
  bif (a1.length : Int) != (a2.length : Int) then
    some false
  else X163.l4 N a1 a2 N 0
theorem X163.ev (N : Nat) (a1 : List ByteArray) (a2 : List ByteArray) : evF (c163 N) h163 Tryz.f163 as163 rs163 N (a1, a2, ()) = X163 N a1 a2 :=
  (show evF (c163 N) h163 Tryz.f163 as163 rs163 N (a1, a2, ()) =
    bif (a1.length : Int) != (a2.length : Int) then
      some false
    else X163.l4.ce N [] N (X163.l4.t a1 a2 0) (X163.l4.h a1 a2 0) by kernel_rfl).trans (by simp only [X163.l4.e]; try rfl)
theorem X163.p (N : Nat) : PFun Tryz.prog gl 163 as163 rs163 (fun x => X163 N x.1 x.2.1) :=
  PFun.ev (c := c163 N) ⟨mixed, tiok, fun f k h => (by cases h), fun f k h => (by cases h), eqtok, fun t n f h => (by cases h)⟩ h163 (f := 163) (fn := Tryz.f163) (b := b163) (by kernel_rfl) (by kernel_rfl) (by kernel_rfl) (by kernel_rfl) (by decide) (fun x y h => ⟨N, (X163.ev N x.1 x.2.1).trans h⟩)
end Go.Eng.T
end
noncomputable section
namespace Go.Eng.T
open Go.RowKit
open Go.Proofs
set_option linter.unusedVariables false
/- laws.eqRecAck -/
abbrev as186 : List Sh := [.agg T198r, .agg T198r]
abbrev rs186 : Rs := .one (.one .bool)
def h186 : Hint := {  }
def c186 (N : Nat) : Cfg := { ti := ti, gl := gl, eqt := eqt, meth := fun _ _ => none, con := fun | 132 => some ⟨as132, rs132, fun x => X132 N x.1 x.2.1⟩ | _ => none }
def b186 : Code := match Tryz.f186.body with | some b => b | none => .skip
def X186 (N : Nat) (a1 : T198.den) (a2 : T198.den) : Option Bool :=
  bif a1.1 != a2.1 then
    some false
  else Option.bind (X132 N a1.2.1 a2.2.1) fun v3 =>
  bif !v3 then
    some false
  else some true
theorem X186.ev (N : Nat) (a1 : T198.den) (a2 : T198.den) : evF (c186 N) h186 Tryz.f186 as186 rs186 N (a1, a2, ()) = X186 N a1 a2 := by kernel_rfl
theorem X186.p (N : Nat) : PFun Tryz.prog gl 186 as186 rs186 (fun x => X186 N x.1 x.2.1) :=
  PFun.ev (c := c186 N) ⟨mixed, tiok, fun f k h => (by simp only [c186] at h; split at h <;> first | (cases h; done) | (cases h; first | exact X132.p N)), fun f k h => (by cases h), eqtok, fun t n f h => (by cases h)⟩ h186 (f := 186) (fn := Tryz.f186) (b := b186) (by kernel_rfl) (by kernel_rfl) (by kernel_rfl) (by kernel_rfl) (by decide) (fun x y h => ⟨N, (X186.ev N x.1 x.2.1).trans h⟩)
end Go.Eng.T
end
noncomputable section
namespace Go.Eng.T
open Go.RowKit
open Go.Proofs
set_option linter.unusedVariables false
/- laws.eqRecAckS -/
abbrev as165 : List Sh := [.one (.sl false T198r), .one (.sl false T198r)]
abbrev rs165 : Rs := .one (.one .bool)
def h165 : Hint := { keep := fun | 4 => [0, 1, 5] | _ => [] }
def c165 (N : Nat) : Cfg := { ti := ti, gl := gl, eqt := eqt, meth := fun _ _ => none, con := fun | 186 => some ⟨as186, rs186, fun x => X186 N x.1 x.2.1⟩ | _ => none }
def b165 : Code := match Tryz.f165.body with | some b => b | none => .skip
def X165.l4.t (a1 : List T198.den) (a2 : List T198.den) (p3 : Int) : List (Nat × D) := [(0, .val (.sl false T198r) a1), (1, .val (.sl false T198r) a2), (5, .val (.int .i64) p3)]
def X165.l4.h (a1 : List T198.den) (a2 : List T198.den) (p3 : Int) : List E := []
def X165.l4 (N : Nat) (a1 : List T198.den) (a2 : List T198.den)  : Nat → Int → Option Bool
  | 0, _ => none
  | n + 1, p3 =>
    bif decide (p3 < (a1.length : Int)) then
      (if (0 : Int) ≤ p3 then Option.bind (a1[p3.toNat]?) fun v4 =>
      (if (0 : Int) ≤ p3 then Option.bind (a2[p3.toNat]?) fun v5 =>
      Option.bind (X186 N v4 v5) fun v6 =>
      bif !v6 then
        some false
      else X165.l4 N a1 a2 n (IntKind.i64.wrap (p3 + 1)) else none) else none)
    else some true
def X165.l4.ce (N : Nat) (oc : List (Nat × (List (Nat × D) → List E → Option Bool))) : Nat → List (Nat × D) → List E → Option Bool := loopAt (c165 N) h165 N (endK (c165 N) Tryz.f165 (mvRs rs165)) [.b, .b, .a, .b, .a] b165 oc 0
theorem X165.l4.s (N n : Nat)  (a1 : List T198.den) (a2 : List T198.den) (p3 : Int) : X165.l4.ce N [] (n + 1) (X165.l4.t a1 a2 p3) (X165.l4.h a1 a2 p3) =
    bif decide (p3 < (a1.length : Int)) then
      (if (0 : Int) ≤ p3 then Option.bind (a1[p3.toNat]?) fun v4 =>
      (if (0 : Int) ≤ p3 then Option.bind (a2[p3.toNat]?) fun v5 =>
      Option.bind (X186 N v4 v5) fun v6 =>
      bif !v6 then
        some false
      else X165.l4.ce N [] n (X165.l4.t a1 a2 (IntKind.i64.wrap (p3 + 1))) (X165.l4.h a1 a2 (IntKind.i64.wrap (p3 + 1))) else none) else none)
    else some true := by kernel_rfl
theorem X165.l4.e (N : Nat)  (a1 : List T198.den) (a2 : List T198.den) : ∀ (n : Nat) (p3 : Int), X165.l4.ce N [] n (X165.l4.t a1 a2 p3) (X165.l4.h a1 a2 p3) = X165.l4 N a1 a2 n p3
  | 0, _ => rfl
  | n + 1, p3 => by rw [X165.l4.s, X165.l4]; (try simp only [X165.l4.e N a1 a2 n])
def X165 (N : Nat) (a1 : List T198.den) (a2 : List T198.den) : Option Bool :=
  bif (a1.length : Int) != (a2.length : Int) then
    some false
  else X165.l4 N a1 a2 N 0
theorem X165.ev (N : Nat) (a1 : List T198.den) (a2 : List T198.den) : evF (c165 N) h165 Tryz.f165 as165 rs165 N (a1, a2, ()) = X165 N a1 a2 :=
  (show evF (c165 N) h165 Tryz.f165 as165 rs165 N (a1, a2, ()) =
    bif (a1.length : Int) != (a2.length : Int) then
      some false
    else X165.l4.ce N [] N (X165.l4.t a1 a2 0) (X165.l4.h a1 a2 0) by kernel_rfl).trans (by simp only [X165.l4.e]; try rfl)
theorem X165.p (N : Nat) : PFun Tryz.prog gl 165 as165 rs165 (fun x => X165 N x.1 x.2.1) :=
  PFun.ev (c := c165 N) ⟨mixed, tiok, fun f k h => (by simp only [c165] at h; split at h <;> first | (cases h; done) | (cases h; first | exact X186.p N)), fun f k h => (by cases h), eqtok, fun t n f h => (by cases h)⟩ h165 (f := 165) (fn := Tryz.f165) (b := b165) (by kernel_rfl) (by kernel_rfl) (by kernel_rfl) (by kernel_rfl) (by decide) (fun x y h => ⟨N, (X165.ev N x.1 x.2.1).trans h⟩)
end Go.Eng.T
end
noncomputable section
namespace Go.Eng.T
open Go.RowKit
open Go.Proofs
set_option linter.unusedVariables false
/- laws.eqRecorder -/
abbrev as128 : List Sh := [.agg T114r, .agg T114r]
abbrev rs128 : Rs := .one (.one .bool)
def h128 : Hint := {  }
def c128 (N : Nat) : Cfg := { ti := ti, gl := gl, eqt := eqt, meth := fun _ _ => none, con := fun | 93 => some ⟨as93, rs93, fun x => X93 N x.1 x.2.1⟩ | 132 => some ⟨as132, rs132, fun x => X132 N x.1 x.2.1⟩ | 162 => some ⟨as162, rs162, fun x => X162 N x.1 x.2.1⟩ | 163 => some ⟨as163, rs163, fun x => X163 N x.1 x.2.1⟩ | 164 => some ⟨as164, rs164, fun x => X164 N x.1 x.2.1⟩ | 165 => some ⟨as165, rs165, fun x => X165 N x.1 x.2.1⟩ | _ => none }
def b128 : Code := match Tryz.f128.body with | some b => b | none => .skip
def X128 (N : Nat) (a1 : T114.den) (a2 : T114.den) : Option Bool :=
  bif a1.1 != a2.1 then
    some false
  else bif a1.2.1 != a2.2.1 then
    some false
  else bif !(a1.2.2.1 == a2.2.2.1) then
    some false
  else Option.bind (X162 N a1.2.2.2.1 a2.2.2.2.1) fun v4 =>
  bif !v4 then
    some false
  else Option.bind (X162 N a1.2.2.2.2.1 a2.2.2.2.2.1) fun v6 =>
  bif !v6 then
    some false
  else Option.bind (X93 N a1.2.2.2.2.2.1 a2.2.2.2.2.2.1) fun v8 =>
  bif !v8 then
    some false
  else Option.bind (X163 N a1.2.2.2.2.2.2.1 a2.2.2.2.2.2.2.1) fun v10 =>
  bif !v10 then
    some false
  else bif !(a1.2.2.2.2.2.2.2.1 == a2.2.2.2.2.2.2.2.1) then
    some false
  else bif !(a1.2.2.2.2.2.2.2.2.1 == a2.2.2.2.2.2.2.2.2.1) then
    some false
  else bif a1.2.2.2.2.2.2.2.2.2.1 != a2.2.2.2.2.2.2.2.2.2.1 then
    some false
  else Option.bind (X132 N a1.2.2.2.2.2.2.2.2.2.2.1 a2.2.2.2.2.2.2.2.2.2.2.1) fun v12 =>
  bif !v12 then
    some false
  else Option.bind (X164 N a1.2.2.2.2.2.2.2.2.2.2.2.1 a2.2.2.2.2.2.2.2.2.2.2.2.1) fun v14 =>
  bif !v14 then
    some false
  else Option.bind (X165 N a1.2.2.2.2.2.2.2.2.2.2.2.2.1 a2.2.2.2.2.2.2.2.2.2.2.2.2.1) fun v16 =>
  bif !v16 then
    some false
  else bif a1.2.2.2.2.2.2.2.2.2.2.2.2.2.1 != a2.2.2.2.2.2.2.2.2.2.2.2.2.2.1 then
    some false
  else some true
theorem X128.ev (N : Nat) (a1 : T114.den) (a2 : T114.den) : evF (c128 N) h128 Tryz.f128 as128 rs128 N (a1, a2, ()) = X128 N a1 a2 := by kernel_rfl
theorem X128.p (N : Nat) : PFun Tryz.prog gl 128 as128 rs128 (fun x => X128 N x.1 x.2.1) :=
  PFun.ev (c := c128 N) ⟨mixed, tiok, fun f k h => (by simp only [c128] at h; split at h <;> first | (cases h; done) | (cases h; first | exact X93.p N | exact X132.p N | exact X162.p N | exact X163.p N | exact X164.p N | exact X165.p N)), fun f k h => (by cases h), eqtok, fun t n f h => (by cases h)⟩ h128 (f := 128) (fn := Tryz.f128) (b := b128) (by kernel_rfl) (by kernel_rfl) (by kernel_rfl) (by kernel_rfl) (by decide) (fun x y h => ⟨N, (X128.ev N x.1 x.2.1).trans h⟩)
end Go.Eng.T
end
