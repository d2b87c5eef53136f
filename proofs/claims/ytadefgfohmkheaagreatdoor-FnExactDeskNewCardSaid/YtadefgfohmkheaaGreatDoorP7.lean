/- Part of the proof: functions that the law reaches, each with the typed function that it computes. -/
import Derived.Test.YtadefgfohmkheaaGreatDoorP1
import Derived.Test.YtadefgfohmkheaaGreatDoorP6
noncomputable section
namespace Go.Eng.T
open Go.RowKit
open Go.Proofs
set_option linter.unusedVariables false
/- laws.eqRecorderS -/
abbrev as92 : List Sh := [.one (.sl false T114r), .one (.sl false T114r)]
abbrev rs92 : Rs := .one (.one .bool)
def h92 : Hint := { keep := fun | 4 => [0, 1, 5] | _ => [] }
def c92 (N : Nat) : Cfg := { ti := ti, gl := gl, eqt := eqt, meth := fun _ _ => none, con := fun | 128 => some ⟨as128, rs128, fun x => X128 N x.1 x.2.1⟩ | _ => none }
def b92 : Code := match Tryz.f92.body with | some b => b | none => .skip
def X92.l4.t (a1 : List T114.den) (a2 : List T114.den) (p3 : Int) : List (Nat × D) := [(0, .val (.sl false T114r) a1), (1, .val (.sl false T114r) a2), (5, .val (.int .i64) p3)]
def X92.l4.h (a1 : List T114.den) (a2 : List T114.den) (p3 : Int) : List E := []
def X92.l4 (N : Nat) (a1 : List T114.den) (a2 : List T114.den)  : Nat → Int → Option Bool
  | 0, _ => none
  | n + 1, p3 =>
    bif decide (p3 < (a1.length : Int)) then
      (if (0 : Int) ≤ p3 then Option.bind (a1[p3.toNat]?) fun v4 =>
      (if (0 : Int) ≤ p3 then Option.bind (a2[p3.toNat]?) fun v5 =>
      Option.bind (X128 N v4 v5) fun v6 =>
      bif !v6 then
        some false
      else X92.l4 N a1 a2 n (IntKind.i64.wrap (p3 + 1)) else none) else none)
    else some true
def X92.l4.ce (N : Nat) (oc : List (Nat × (List (Nat × D) → List E → Option Bool))) : Nat → List (Nat × D) → List E → Option Bool := loopAt (c92 N) h92 N (endK (c92 N) Tryz.f92 (mvRs rs92)) [.b, .b, .a, .b, .a] b92 oc 0
theorem X92.l4.s (N n : Nat)  (a1 : List T114.den) (a2 : List T114.den) (p3 : Int) : X92.l4.ce N [] (n + 1) (X92.l4.t a1 a2 p3) (X92.l4.h a1 a2 p3) =
    bif decide (p3 < (a1.length : Int)) then
      (if (0 : Int) ≤ p3 then Option.bind (a1[p3.toNat]?) fun v4 =>
      (if (0 : Int) ≤ p3 then Option.bind (a2[p3.toNat]?) fun v5 =>
      Option.bind (X128 N v4 v5) fun v6 =>
      bif !v6 then
        some false
      else X92.l4.ce N [] n (X92.l4.t a1 a2 (IntKind.i64.wrap (p3 + 1))) (X92.l4.h a1 a2 (IntKind.i64.wrap (p3 + 1))) else none) else none)
    else some true := by kernel_rfl
theorem X92.l4.e (N : Nat)  (a1 : List T114.den) (a2 : List T114.den) : ∀ (n : Nat) (p3 : Int), X92.l4.ce N [] n (X92.l4.t a1 a2 p3) (X92.l4.h a1 a2 p3) = X92.l4 N a1 a2 n p3
  | 0, _ => rfl
  | n + 1, p3 => by rw [X92.l4.s, X92.l4]; (try simp only [X92.l4.e N a1 a2 n])
def X92 (N : Nat) (a1 : List T114.den) (a2 : List T114.den) : Option Bool :=
  bif (a1.length : Int) != (a2.length : Int) then
    some false
  else X92.l4 N a1 a2 N 0
theorem X92.ev (N : Nat) (a1 : List T114.den) (a2 : List T114.den) : evF (c92 N) h92 Tryz.f92 as92 rs92 N (a1, a2, ()) = X92 N a1 a2 :=
  (show evF (c92 N) h92 Tryz.f92 as92 rs92 N (a1, a2, ()) =
    bif (a1.length : Int) != (a2.length : Int) then
      some false
    else X92.l4.ce N [] N (X92.l4.t a1 a2 0) (X92.l4.h a1 a2 0) by kernel_rfl).trans (by simp only [X92.l4.e]; try rfl)
theorem X92.p (N : Nat) : PFun Tryz.prog gl 92 as92 rs92 (fun x => X92 N x.1 x.2.1) :=
  PFun.ev (c := c92 N) ⟨mixed, tiok, fun f k h => (by simp only [c92] at h; split at h <;> first | (cases h; done) | (cases h; first | exact X128.p N)), fun f k h => (by cases h), eqtok, fun t n f h => (by cases h)⟩ h92 (f := 92) (fn := Tryz.f92) (b := b92) (by kernel_rfl) (by kernel_rfl) (by kernel_rfl) (by kernel_rfl) (by decide) (fun x y h => ⟨N, (X92.ev N x.1 x.2.1).trans h⟩)
end Go.Eng.T
end
noncomputable section
namespace Go.Eng.T
open Go.RowKit
open Go.Proofs
set_option linter.unusedVariables false
/- laws.eqRecFix -/
abbrev as130 : List Sh := [.agg T218, .agg T218]
abbrev rs130 : Rs := .one (.one .bool)
def h130 : Hint := {  }
def c130 (N : Nat) : Cfg := { ti := ti, gl := gl, eqt := eqt, meth := fun _ _ => none, con := fun _ => none }
def b130 : Code := match Tryz.f130.body with | some b => b | none => .skip
def X130 (N : Nat) (a1 : T218.den) (a2 : T218.den) : Option Bool :=
  bif a1.1 != a2.1 then
    some false
  else bif !(a1.2.1.toList == a2.2.1.toList) then
    some false
  else some true
theorem X130.ev (N : Nat) (a1 : T218.den) (a2 : T218.den) : evF (c130 N) h130 Tryz.f130 as130 rs130 N (a1, a2, ()) = X130 N a1 a2 := by kernel_rfl
theorem X130.p (N : Nat) : PFun Tryz.prog gl 130 as130 rs130 (fun x => X130 N x.1 x.2.1) :=
  PFun.ev (c := c130 N) ⟨mixed, tiok, fun f k h => (by cases h), fun f k h => (by cases h), eqtok, fun t n f h => (by cases h)⟩ h130 (f := 130) (fn := Tryz.f130) (b := b130) (by kernel_rfl) (by kernel_rfl) (by kernel_rfl) (by kernel_rfl) (by decide) (fun x y h => ⟨N, (X130.ev N x.1 x.2.1).trans h⟩)
end Go.Eng.T
end
noncomputable section
namespace Go.Eng.T
open Go.RowKit
open Go.Proofs
set_option linter.unusedVariables false
/- laws.eqRecFixS -/
abbrev as94 : List Sh := [.one (.sl false T218), .one (.sl false T218)]
abbrev rs94 : Rs := .one (.one .bool)
def h94 : Hint := { keep := fun | 4 => [0, 1, 5] | _ => [] }
def c94 (N : Nat) : Cfg := { ti := ti, gl := gl, eqt := eqt, meth := fun _ _ => none, con := fun | 130 => some ⟨as130, rs130, fun x => X130 N x.1 x.2.1⟩ | _ => none }
def b94 : Code := match Tryz.f94.body with | some b => b | none => .skip
def X94.l4.t (a1 : List T218.den) (a2 : List T218.den) (p3 : Int) : List (Nat × D) := [(0, .val (.sl false T218) a1), (1, .val (.sl false T218) a2), (5, .val (.int .i64) p3)]
def X94.l4.h (a1 : List T218.den) (a2 : List T218.den) (p3 : Int) : List E := []
def X94.l4 (N : Nat) (a1 : List T218.den) (a2 : List T218.den)  : Nat → Int → Option Bool
  | 0, _ => none
  | n + 1, p3 =>
    bif decide (p3 < (a1.length : Int)) then
      (if (0 : Int) ≤ p3 then Option.bind (a1[p3.toNat]?) fun v4 =>
      (if (0 : Int) ≤ p3 then Option.bind (a2[p3.toNat]?) fun v5 =>
      Option.bind (X130 N v4 v5) fun v6 =>
      bif !v6 then
        some false
      else X94.l4 N a1 a2 n (IntKind.i64.wrap (p3 + 1)) else none) else none)
    else some true
def X94.l4.ce (N : Nat) (oc : List (Nat × (List (Nat × D) → List E → Option Bool))) : Nat → List (Nat × D) → List E → Option Bool := loopAt (c94 N) h94 N (endK (c94 N) Tryz.f94 (mvRs rs94)) [.b, .b, .a, .b, .a] b94 oc 0
theorem X94.l4.s (N n : Nat)  (a1 : List T218.den) (a2 : List T218.den) (p3 : Int) : X94.l4.ce N [] (n + 1) (X94.l4.t a1 a2 p3) (X94.l4.h a1 a2 p3) =
    bif decide (p3 < (a1.length : Int)) then
      (if (0 : Int) ≤ p3 then Option.bind (a1[p3.toNat]?) fun v4 =>
      (if (0 : Int) ≤ p3 then Option.bind (a2[p3.toNat]?) fun v5 =>
      Option.bind (X130 N v4 v5) fun v6 =>
      bif !v6 then
        some false
      else X94.l4.ce N [] n (X94.l4.t a1 a2 (IntKind.i64.wrap (p3 + 1))) (X94.l4.h a1 a2 (IntKind.i64.wrap (p3 + 1))) else none) else none)
    else some true := by kernel_rfl
theorem X94.l4.e (N : Nat)  (a1 : List T218.den) (a2 : List T218.den) : ∀ (n : Nat) (p3 : Int), X94.l4.ce N [] n (X94.l4.t a1 a2 p3) (X94.l4.h a1 a2 p3) = X94.l4 N a1 a2 n p3
  | 0, _ => rfl
  | n + 1, p3 => by rw [X94.l4.s, X94.l4]; (try simp only [X94.l4.e N a1 a2 n])
def X94 (N : Nat) (a1 : List T218.den) (a2 : List T218.den) : Option Bool :=
  bif (a1.length : Int) != (a2.length : Int) then
    some false
  else X94.l4 N a1 a2 N 0
theorem X94.ev (N : Nat) (a1 : List T218.den) (a2 : List T218.den) : evF (c94 N) h94 Tryz.f94 as94 rs94 N (a1, a2, ()) = X94 N a1 a2 :=
  (show evF (c94 N) h94 Tryz.f94 as94 rs94 N (a1, a2, ()) =
    bif (a1.length : Int) != (a2.length : Int) then
      some false
    else X94.l4.ce N [] N (X94.l4.t a1 a2 0) (X94.l4.h a1 a2 0) by kernel_rfl).trans (by simp only [X94.l4.e]; try rfl)
theorem X94.p (N : Nat) : PFun Tryz.prog gl 94 as94 rs94 (fun x => X94 N x.1 x.2.1) :=
  PFun.ev (c := c94 N) ⟨mixed, tiok, fun f k h => (by simp only [c94] at h; split at h <;> first | (cases h; done) | (cases h; first | exact X130.p N)), fun f k h => (by cases h), eqtok, fun t n f h => (by cases h)⟩ h94 (f := 94) (fn := Tryz.f94) (b := b94) (by kernel_rfl) (by kernel_rfl) (by kernel_rfl) (by kernel_rfl) (by decide) (fun x y h => ⟨N, (X94.ev N x.1 x.2.1).trans h⟩)
end Go.Eng.T
end
noncomputable section
namespace Go.Eng.T
open Go.RowKit
open Go.Proofs
set_option linter.unusedVariables false
/- laws.eqRecWorld -/
abbrev as56 : List Sh := [.agg T37r, .agg T37r]
abbrev rs56 : Rs := .one (.one .bool)
def h56 : Hint := {  }
def c56 (N : Nat) : Cfg := { ti := ti, gl := gl, eqt := eqt, meth := fun _ _ => none, con := fun | 92 => some ⟨as92, rs92, fun x => X92 N x.1 x.2.1⟩ | 93 => some ⟨as93, rs93, fun x => X93 N x.1 x.2.1⟩ | 94 => some ⟨as94, rs94, fun x => X94 N x.1 x.2.1⟩ | _ => none }
def b56 : Code := match Tryz.f56.body with | some b => b | none => .skip
def X56 (N : Nat) (a1 : T37.den) (a2 : T37.den) : Option Bool :=
  Option.bind (X92 N a1.1 a2.1) fun v4 =>
  bif !v4 then
    some false
  else Option.bind (X93 N a1.2.1 a2.2.1) fun v6 =>
  bif !v6 then
    some false
  else Option.bind (X94 N a1.2.2.1 a2.2.2.1) fun v7 =>
  bif !v7 then
    some false
  else some true
theorem X56.ev (N : Nat) (a1 : T37.den) (a2 : T37.den) : evF (c56 N) h56 Tryz.f56 as56 rs56 N (a1, a2, ()) = X56 N a1 a2 := by kernel_rfl
theorem X56.p (N : Nat) : PFun Tryz.prog gl 56 as56 rs56 (fun x => X56 N x.1 x.2.1) :=
  PFun.ev (c := c56 N) ⟨mixed, tiok, fun f k h => (by simp only [c56] at h; split at h <;> first | (cases h; done) | (cases h; first | exact X92.p N | exact X93.p N | exact X94.p N)), fun f k h => (by cases h), eqtok, fun t n f h => (by cases h)⟩ h56 (f := 56) (fn := Tryz.f56) (b := b56) (by kernel_rfl) (by kernel_rfl) (by kernel_rfl) (by kernel_rfl) (by decide) (fun x y h => ⟨N, (X56.ev N x.1 x.2.1).trans h⟩)
end Go.Eng.T
end
noncomputable section
namespace Go.Eng.T
open Go.RowKit
open Go.Proofs
set_option linter.unusedVariables false
/- laws.eqGateSaid -/
abbrev as131 : List Sh := [.agg T118, .agg T118]
abbrev rs131 : Rs := .one (.one .bool)
def h131 : Hint := {  }
def c131 (N : Nat) : Cfg := { ti := ti, gl := gl, eqt := eqt, meth := fun _ _ => none, con := fun _ => none }
def b131 : Code := match Tryz.f131.body with | some b => b | none => .skip
def X131 (N : Nat) (a1 : T118.den) (a2 : T118.den) : Option Bool :=
  bif a1.1 != a2.1 then
    some false
  else bif a1.2.1 != a2.2.1 then
    some false
  else bif a1.2.2.1 != a2.2.2.1 then
    some false
  else some true
theorem X131.ev (N : Nat) (a1 : T118.den) (a2 : T118.den) : evF (c131 N) h131 Tryz.f131 as131 rs131 N (a1, a2, ()) = X131 N a1 a2 := by kernel_rfl
theorem X131.p (N : Nat) : PFun Tryz.prog gl 131 as131 rs131 (fun x => X131 N x.1 x.2.1) :=
  PFun.ev (c := c131 N) ⟨mixed, tiok, fun f k h => (by cases h), fun f k h => (by cases h), eqtok, fun t n f h => (by cases h)⟩ h131 (f := 131) (fn := Tryz.f131) (b := b131) (by kernel_rfl) (by kernel_rfl) (by kernel_rfl) (by kernel_rfl) (by decide) (fun x y h => ⟨N, (X131.ev N x.1 x.2.1).trans h⟩)
end Go.Eng.T
end
noncomputable section
namespace Go.Eng.T
open Go.RowKit
open Go.Proofs
set_option linter.unusedVariables false
/- laws.eqHallAsked -/
abbrev as95 : List Sh := [.agg T120, .agg T120]
abbrev rs95 : Rs := .one (.one .bool)
def h95 : Hint := {  }
def c95 (N : Nat) : Cfg := { ti := ti, gl := gl, eqt := eqt, meth := fun _ _ => none, con := fun | 131 => some ⟨as131, rs131, fun x => X131 N x.1 x.2.1⟩ | _ => none }
def b95 : Code := match Tryz.f95.body with | some b => b | none => .skip
def X95 (N : Nat) (a1 : T120.den) (a2 : T120.den) : Option Bool :=
  bif !(a1.1.toList == a2.1.toList) then
    some false
  else bif a1.2.1 != a2.2.1 then
    some false
  else bif a1.2.2.1 != a2.2.2.1 then
    some false
  else Option.bind (X131 N a1.2.2.2.1 a2.2.2.2.1) fun v3 =>
  bif !v3 then
    some false
  else some true
theorem X95.ev (N : Nat) (a1 : T120.den) (a2 : T120.den) : evF (c95 N) h95 Tryz.f95 as95 rs95 N (a1, a2, ()) = X95 N a1 a2 := by kernel_rfl
theorem X95.p (N : Nat) : PFun Tryz.prog gl 95 as95 rs95 (fun x => X95 N x.1 x.2.1) :=
  PFun.ev (c := c95 N) ⟨mixed, tiok, fun f k h => (by simp only [c95] at h; split at h <;> first | (cases h; done) | (cases h; first | exact X131.p N)), fun f k h => (by cases h), eqtok, fun t n f h => (by cases h)⟩ h95 (f := 95) (fn := Tryz.f95) (b := b95) (by kernel_rfl) (by kernel_rfl) (by kernel_rfl) (by kernel_rfl) (by decide) (fun x y h => ⟨N, (X95.ev N x.1 x.2.1).trans h⟩)
end Go.Eng.T
end
noncomputable section
namespace Go.Eng.T
open Go.RowKit
open Go.Proofs
set_option linter.unusedVariables false
/- laws.eqHallAskedS -/
abbrev as57 : List Sh := [.one (.sl false T120), .one (.sl false T120)]
abbrev rs57 : Rs := .one (.one .bool)
def h57 : Hint := { keep := fun | 4 => [0, 1, 5] | _ => [] }
def c57 (N : Nat) : Cfg := { ti := ti, gl := gl, eqt := eqt, meth := fun _ _ => none, con := fun | 95 => some ⟨as95, rs95, fun x => X95 N x.1 x.2.1⟩ | _ => none }
def b57 : Code := match Tryz.f57.body with | some b => b | none => .skip
def X57.l4.t (a1 : List T120.den) (a2 : List T120.den) (p3 : Int) : List (Nat × D) := [(0, .val (.sl false T120) a1), (1, .val (.sl false T120) a2), (5, .val (.int .i64) p3)]
def X57.l4.h (a1 : List T120.den) (a2 : List T120.den) (p3 : Int) : List E := []
def X57.l4 (N : Nat) (a1 : List T120.den) (a2 : List T120.den)  : Nat → Int → Option Bool
  | 0, _ => none
  | n + 1, p3 =>
    bif decide (p3 < (a1.length : Int)) then
      (if (0 : Int) ≤ p3 then Option.bind (a1[p3.toNat]?) fun v4 =>
      (if (0 : Int) ≤ p3 then Option.bind (a2[p3.toNat]?) fun v5 =>
      Option.bind (X95 N v4 v5) fun v6 =>
      bif !v6 then
        some false
      else X57.l4 N a1 a2 n (IntKind.i64.wrap (p3 + 1)) else none) else none)
    else some true
def X57.l4.ce (N : Nat) (oc : List (Nat × (List (Nat × D) → List E → Option Bool))) : Nat → List (Nat × D) → List E → Option Bool := loopAt (c57 N) h57 N (endK (c57 N) Tryz.f57 (mvRs rs57)) [.b, .b, .a, .b, .a] b57 oc 0
theorem X57.l4.s (N n : Nat)  (a1 : List T120.den) (a2 : List T120.den) (p3 : Int) : X57.l4.ce N [] (n + 1) (X57.l4.t a1 a2 p3) (X57.l4.h a1 a2 p3) =
    bif decide (p3 < (a1.length : Int)) then
      (if (0 : Int) ≤ p3 then Option.bind (a1[p3.toNat]?) fun v4 =>
      (if (0 : Int) ≤ p3 then Option.bind (a2[p3.toNat]?) fun v5 =>
      Option.bind (X95 N v4 v5) fun v6 =>
      bif !v6 then
        some false
      else X57.l4.ce N [] n (X57.l4.t a1 a2 (IntKind.i64.wrap (p3 + 1))) (X57.l4.h a1 a2 (IntKind.i64.wrap (p3 + 1))) else none) else none)
    else some true := by kernel_rfl
theorem X57.l4.e (N : Nat)  (a1 : List T120.den) (a2 : List T120.den) : ∀ (n : Nat) (p3 : Int), X57.l4.ce N [] n (X57.l4.t a1 a2 p3) (X57.l4.h a1 a2 p3) = X57.l4 N a1 a2 n p3
  | 0, _ => rfl
  | n + 1, p3 => by rw [X57.l4.s, X57.l4]; (try simp only [X57.l4.e N a1 a2 n])
def X57 (N : Nat) (a1 : List T120.den) (a2 : List T120.den) : Option Bool :=
  bif (a1.length : Int) != (a2.length : Int) then
    some false
  else X57.l4 N a1 a2 N 0
theorem X57.ev (N : Nat) (a1 : List T120.den) (a2 : List T120.den) : evF (c57 N) h57 Tryz.f57 as57 rs57 N (a1, a2, ()) = X57 N a1 a2 :=
  (show evF (c57 N) h57 Tryz.f57 as57 rs57 N (a1, a2, ()) =
    bif (a1.length : Int) != (a2.length : Int) then
      some false
    else X57.l4.ce N [] N (X57.l4.t a1 a2 0) (X57.l4.h a1 a2 0) by kernel_rfl).trans (by simp only [X57.l4.e]; try rfl)
theorem X57.p (N : Nat) : PFun Tryz.prog gl 57 as57 rs57 (fun x => X57 N x.1 x.2.1) :=
  PFun.ev (c := c57 N) ⟨mixed, tiok, fun f k h => (by simp only [c57] at h; split at h <;> first | (cases h; done) | (cases h; first | exact X95.p N)), fun f k h => (by cases h), eqtok, fun t n f h => (by cases h)⟩ h57 (f := 57) (fn := Tryz.f57) (b := b57) (by kernel_rfl) (by kernel_rfl) (by kernel_rfl) (by kernel_rfl) (by decide) (fun x y h => ⟨N, (X57.ev N x.1 x.2.1).trans h⟩)
end Go.Eng.T
end
noncomputable section
namespace Go.Eng.T
open Go.RowKit
open Go.Proofs
set_option linter.unusedVariables false
/- laws.eqHallWorld -/
abbrev as29 : List Sh := [.agg T40r, .agg T40r]
abbrev rs29 : Rs := .one (.one .bool)
def h29 : Hint := {  }
def c29 (N : Nat) : Cfg := { ti := ti, gl := gl, eqt := eqt, meth := fun _ _ => none, con := fun | 11 => some ⟨as11, rs11, fun x => X11 N x.1 x.2.1⟩ | 56 => some ⟨as56, rs56, fun x => X56 N x.1 x.2.1⟩ | 57 => some ⟨as57, rs57, fun x => X57 N x.1 x.2.1⟩ | _ => none }
def b29 : Code := match Tryz.f29.body with | some b => b | none => .skip
def X29 (N : Nat) (a1 : T40.den) (a2 : T40.den) : Option Bool :=
  Option.bind (X11 N a1.1 a2.1) fun v4 =>
  bif !v4 then
    some false
  else Option.bind (X56 N a1.2.1 a2.2.1) fun v6 =>
  bif !v6 then
    some false
  else bif a1.2.2.1 != a2.2.2.1 then
    some false
  else Option.bind (X57 N a1.2.2.2.1 a2.2.2.2.1) fun v7 =>
  bif !v7 then
    some false
  else some true
theorem X29.ev (N : Nat) (a1 : T40.den) (a2 : T40.den) : evF (c29 N) h29 Tryz.f29 as29 rs29 N (a1, a2, ()) = X29 N a1 a2 := by kernel_rfl
theorem X29.p (N : Nat) : PFun Tryz.prog gl 29 as29 rs29 (fun x => X29 N x.1 x.2.1) :=
  PFun.ev (c := c29 N) ⟨mixed, tiok, fun f k h => (by simp only [c29] at h; split at h <;> first | (cases h; done) | (cases h; first | exact X11.p N | exact X56.p N | exact X57.p N)), fun f k h => (by cases h), eqtok, fun t n f h => (by cases h)⟩ h29 (f := 29) (fn := Tryz.f29) (b := b29) (by kernel_rfl) (by kernel_rfl) (by kernel_rfl) (by kernel_rfl) (by decide) (fun x y h => ⟨N, (X29.ev N x.1 x.2.1).trans h⟩)
end Go.Eng.T
end
noncomputable section
namespace Go.Eng.T
open Go.RowKit
open Go.Proofs
set_option linter.unusedVariables false
/- laws.eqDeskWorld -/
abbrev as10 : List Sh := [.agg T43r, .agg T43r]
abbrev rs10 : Rs := .one (.one .bool)
def h10 : Hint := {  }
def c10 (N : Nat) : Cfg := { ti := ti, gl := gl, eqt := eqt, meth := fun _ _ => none, con := fun | 12 => some ⟨as12, rs12, fun x => X12 N x.1 x.2.1⟩ | 29 => some ⟨as29, rs29, fun x => X29 N x.1 x.2.1⟩ | _ => none }
def b10 : Code := match Tryz.f10.body with | some b => b | none => .skip
def X10 (N : Nat) (a1 : T43.den) (a2 : T43.den) : Option Bool :=
  Option.bind (X29 N a1.1 a2.1) fun v4 =>
  bif !v4 then
    some false
  else Option.bind (X12 N a1.2.1 a2.2.1) fun v5 =>
  bif !v5 then
    some false
  else some true
theorem X10.ev (N : Nat) (a1 : T43.den) (a2 : T43.den) : evF (c10 N) h10 Tryz.f10 as10 rs10 N (a1, a2, ()) = X10 N a1 a2 := by kernel_rfl
theorem X10.p (N : Nat) : PFun Tryz.prog gl 10 as10 rs10 (fun x => X10 N x.1 x.2.1) :=
  PFun.ev (c := c10 N) ⟨mixed, tiok, fun f k h => (by simp only [c10] at h; split at h <;> first | (cases h; done) | (cases h; first | exact X12.p N | exact X29.p N)), fun f k h => (by cases h), eqtok, fun t n f h => (by cases h)⟩ h10 (f := 10) (fn := Tryz.f10) (b := b10) (by kernel_rfl) (by kernel_rfl) (by kernel_rfl) (by kernel_rfl) (by decide) (fun x y h => ⟨N, (X10.ev N x.1 x.2.1).trans h⟩)
end Go.Eng.T
end
noncomputable section
namespace Go.Eng.T
open Go.RowKit
open Go.Proofs
set_option linter.unusedVariables false
/- laws.markText -/
abbrev as35 : List Sh := [.one (.int .i64)]
abbrev rs35 : Rs := .one (.one .str)
def h35 : Hint := { keep := fun | 4 => [0, 3] | _ => [] }
def c35 (N : Nat) : Cfg := { ti := ti, gl := gl, eqt := eqt, meth := fun _ _ => none, con := fun _ => none }
def b35 : Code := match Tryz.f35.body with | some b => b | none => .skip
def X35.l4.t (p2 : Int) (p3 : ByteArray) : List (Nat × D) := [(0, .val (.int .i64) p2), (3, .val .str p3)]
def X35.l4.h (p2 : Int) (p3 : ByteArray) : List E := []
def X35.l4 (N : Nat)   : Nat → Int → ByteArray → Option ByteArray
  | 0, _, _ => none
  | n + 1, p2, p3 =>
    bif decide (p2 > 0) then
      if (((bytesOf [IntKind.u8.wrap (IntKind.i64.wrap (48 + (p2.tmod 10)))]).size + p3.size : Nat) : Int) > IntKind.i64.max then none else X35.l4 N n (IntKind.i64.wrap (p2.tdiv 10)) ((bytesOf [IntKind.u8.wrap (IntKind.i64.wrap (48 + (p2.tmod 10)))]) ++ p3)
    else if (((⟨#[109]⟩ : ByteArray).size + p3.size : Nat) : Int) > IntKind.i64.max then none else some ((⟨#[109]⟩ : ByteArray) ++ p3)
def X35.l4.ce (N : Nat) (oc : List (Nat × (List (Nat × D) → List E → Option ByteArray))) : Nat → List (Nat × D) → List E → Option ByteArray := loopAt (c35 N) h35 N (endK (c35 N) Tryz.f35 (mvRs rs35)) [.b, .b, .b, .a, .a] b35 oc 0
theorem X35.l4.s (N n : Nat)  (p2 : Int) (p3 : ByteArray) : X35.l4.ce N [] (n + 1) (X35.l4.t p2 p3) (X35.l4.h p2 p3) =
    bif decide (p2 > 0) then
      if (((bytesOf [IntKind.u8.wrap (IntKind.i64.wrap (48 + (p2.tmod 10)))]).size + p3.size : Nat) : Int) > IntKind.i64.max then none else X35.l4.ce N [] n (X35.l4.t (IntKind.i64.wrap (p2.tdiv 10)) ((bytesOf [IntKind.u8.wrap (IntKind.i64.wrap (48 + (p2.tmod 10)))]) ++ p3)) (X35.l4.h (IntKind.i64.wrap (p2.tdiv 10)) ((bytesOf [IntKind.u8.wrap (IntKind.i64.wrap (48 + (p2.tmod 10)))]) ++ p3))
    else if (((⟨#[109]⟩ : ByteArray).size + p3.size : Nat) : Int) > IntKind.i64.max then none else some ((⟨#[109]⟩ : ByteArray) ++ p3) := by kernel_rfl
theorem X35.l4.e (N : Nat)   : ∀ (n : Nat) (p2 : Int) (p3 : ByteArray), X35.l4.ce N [] n (X35.l4.t p2 p3) (X35.l4.h p2 p3) = X35.l4 N n p2 p3
  | 0, _, _ => rfl
  | n + 1, p2, p3 => by rw [X35.l4.s, X35.l4]; (try simp only [X35.l4.e N n])
def X35 (N : Nat) (a1 : Int) : Option ByteArray :=
  bif decide (a1 ≤ 0) then
    some (⟨#[109, 48]⟩ : ByteArray)
  else X35.l4 N N a1 (⟨#[]⟩ : ByteArray)
theorem X35.ev (N : Nat) (a1 : Int) : evF (c35 N) h35 Tryz.f35 as35 rs35 N (a1, ()) = X35 N a1 :=
  (show evF (c35 N) h35 Tryz.f35 as35 rs35 N (a1, ()) =
    bif decide (a1 ≤ 0) then
      some (⟨#[109, 48]⟩ : ByteArray)
    else X35.l4.ce N [] N (X35.l4.t a1 (⟨#[]⟩ : ByteArray)) (X35.l4.h a1 (⟨#[]⟩ : ByteArray)) by kernel_rfl).trans (by simp only [X35.l4.e]; try rfl)
theorem X35.p (N : Nat) : PFun Tryz.prog gl 35 as35 rs35 (fun x => X35 N x.1) :=
  PFun.ev (c := c35 N) ⟨mixed, tiok, fun f k h => (by cases h), fun f k h => (by cases h), eqtok, fun t n f h => (by cases h)⟩ h35 (f := 35) (fn := Tryz.f35) (b := b35) (by kernel_rfl) (by kernel_rfl) (by kernel_rfl) (by kernel_rfl) (by decide) (fun x y h => ⟨N, (X35.ev N x.1).trans h⟩)
end Go.Eng.T
end
noncomputable section
namespace Go.Eng.T
open Go.RowKit
open Go.Proofs
set_option linter.unusedVariables false
/- laws.markGateTeamS -/
abbrev as33 : List Sh := [.one (.sl true T77), .one (.int .i64)]
abbrev rs33 : Rs := .one (.one (.int .i64))
def h33 : Hint := { keep := fun | 2 => [0, 1, 5] | _ => [] }
def c33 (N : Nat) : Cfg := { ti := ti, gl := gl, eqt := eqt, meth := fun _ _ => none, con := fun | 35 => some ⟨as35, rs35, fun x => X35 N x.1⟩ | _ => none, nfix := 1 }
def ds33 (a1 : List T77.den) (a2 : Int) : List D := [.ow 0, .val (.int .i64) a2]
def b33 : Code := match Tryz.f33.body with | some b => b | none => .skip
def X33.l2.t (p3 : Int) (p4 : Int) (p5 : List T77.den) : List (Nat × D) := [(0, .ow 0), (1, .val (.int .i64) p3), (5, .val (.int .i64) p4)]
def X33.l2.h (p3 : Int) (p4 : Int) (p5 : List T77.den) : List E := [.arr T77 p5]
def X33.l2 (N : Nat) (a1 : List T77.den) (a2 : Int)  : Nat → Int → Int → (List T77.den) → Option (Int × (List T77.den) × Int × Unit)
  | 0, _, _, _ => none
  | n + 1, p3, p4, p5 =>
    bif decide (p4 < (p5.length : Int)) then
      Option.bind (X35 N p3) fun v6 =>
      (if (0 : Int) ≤ p4 then (if p4 < (p5.length : Int) then Option.bind (p5[p4.toNat]?) fun v7 =>
      Option.bind (X35 N (IntKind.i64.wrap (p3 + 1))) fun v8 =>
      (if (0 : Int) ≤ p4 then (if p4 < ((p5.set p4.toNat (v6, v7.2)).length : Int) then Option.bind ((p5.set p4.toNat (v6, v7.2))[p4.toNat]?) fun v9 =>
      X33.l2 N a1 a2 n (IntKind.i64.wrap ((IntKind.i64.wrap (p3 + 1)) + 1)) (IntKind.i64.wrap (p4 + 1)) ((p5.set p4.toNat (v6, v7.2)).set p4.toNat (v9.1, v8, v9.2.2)) else none) else none) else none) else none)
    else some (p3, p5, a2, ())
def X33.l2.ce (N : Nat) (a1 : List T77.den) (a2 : Int) (oc : List (Nat × (List (Nat × D) → List E → Option (Int × (List T77.den) × Int × Unit)))) : Nat → List (Nat × D) → List E → Option (Int × (List T77.den) × Int × Unit) := loopAt (c33 N) h33 N (endK (c33 N) Tryz.f33 (mvRsM rs33 as33 (ds33 a1 a2))) [.b, .a, .b, .a] b33 oc 1
theorem X33.l2.s (N n : Nat)  (a1 : List T77.den) (a2 : Int) (p3 : Int) (p4 : Int) (p5 : List T77.den) : X33.l2.ce N a1 a2 [] (n + 1) (X33.l2.t p3 p4 p5) (X33.l2.h p3 p4 p5) =
    bif decide (p4 < (p5.length : Int)) then
      Option.bind (X35 N p3) fun v6 =>
      (if (0 : Int) ≤ p4 then (if p4 < (p5.length : Int) then Option.bind (p5[p4.toNat]?) fun v7 =>
      Option.bind (X35 N (IntKind.i64.wrap (p3 + 1))) fun v8 =>
      (if (0 : Int) ≤ p4 then (if p4 < ((p5.set p4.toNat (v6, v7.2)).length : Int) then Option.bind ((p5.set p4.toNat (v6, v7.2))[p4.toNat]?) fun v9 =>
      X33.l2.ce N a1 a2 [] n (X33.l2.t (IntKind.i64.wrap ((IntKind.i64.wrap (p3 + 1)) + 1)) (IntKind.i64.wrap (p4 + 1)) ((p5.set p4.toNat (v6, v7.2)).set p4.toNat (v9.1, v8, v9.2.2))) (X33.l2.h (IntKind.i64.wrap ((IntKind.i64.wrap (p3 + 1)) + 1)) (IntKind.i64.wrap (p4 + 1)) ((p5.set p4.toNat (v6, v7.2)).set p4.toNat (v9.1, v8, v9.2.2))) else none) else none) else none) else none)
    else some (p3, p5, a2, ()) := by kernel_rfl
theorem X33.l2.e (N : Nat)  (a1 : List T77.den) (a2 : Int) : ∀ (n : Nat) (p3 : Int) (p4 : Int) (p5 : List T77.den), X33.l2.ce N a1 a2 [] n (X33.l2.t p3 p4 p5) (X33.l2.h p3 p4 p5) = X33.l2 N a1 a2 n p3 p4 p5
  | 0, _, _, _ => rfl
  | n + 1, p3, p4, p5 => by rw [X33.l2.s, X33.l2]; (try simp only [X33.l2.e N a1 a2 n])
def X33 (N : Nat) (a1 : List T77.den) (a2 : Int) : Option (Int × (List T77.den) × Int × Unit) :=
  X33.l2 N a1 a2 N a2 0 a1
theorem X33.ev (N : Nat) (a1 : List T77.den) (a2 : Int) : evM (c33 N) h33 Tryz.f33 as33 rs33 N (a1, a2, ()) = X33 N a1 a2 :=
  (show evM (c33 N) h33 Tryz.f33 as33 rs33 N (a1, a2, ()) =
    X33.l2.ce N a1 a2 [] N (X33.l2.t a2 0 a1) (X33.l2.h a2 0 a1) by kernel_rfl).trans (by simp only [X33.l2.e]; try rfl)
theorem X33.p (N : Nat) : PMut Tryz.prog gl 33 as33 rs33 (fun x => X33 N x.1 x.2.1) :=
  PMut.ev (c := c33 N) ⟨mixed, tiok, fun f k h => (by simp only [c33] at h; split at h <;> first | (cases h; done) | (cases h; first | exact X35.p N)), fun f k h => (by cases h), eqtok, fun t n f h => (by cases h)⟩ h33 (f := 33) (fn := Tryz.f33) (b := b33) (by kernel_rfl) (by kernel_rfl) (by kernel_rfl) (by kernel_rfl) (by decide) (fun x y h => ⟨N, (X33.ev N x.1 x.2.1).trans h⟩) (by intro x ds0 H0 h; cases h; rfl)
end Go.Eng.T
end
noncomputable section
namespace Go.Eng.T
open Go.RowKit
open Go.Proofs
set_option linter.unusedVariables false
/- laws.markIntS -/
abbrev as60 : List Sh := [.one (.sl true (.int .i64)), .one (.int .i64)]
abbrev rs60 : Rs := .one (.one (.int .i64))
def h60 : Hint := { keep := fun | 2 => [0, 1, 5] | _ => [] }
def c60 (N : Nat) : Cfg := { ti := ti, gl := gl, eqt := eqt, meth := fun _ _ => none, con := fun _ => none, nfix := 1 }
def ds60 (a1 : List Int) (a2 : Int) : List D := [.ow 0, .val (.int .i64) a2]
def b60 : Code := match Tryz.f60.body with | some b => b | none => .skip
def X60.l2.t (p3 : Int) (p4 : Int) (p5 : List Int) : List (Nat × D) := [(0, .ow 0), (1, .val (.int .i64) p3), (5, .val (.int .i64) p4)]
def X60.l2.h (p3 : Int) (p4 : Int) (p5 : List Int) : List E := [.arr (.int .i64) p5]
def X60.l2 (N : Nat) (a1 : List Int) (a2 : Int)  : Nat → Int → Int → (List Int) → Option (Int × (List Int) × Int × Unit)
  | 0, _, _, _ => none
  | n + 1, p3, p4, p5 =>
    bif decide (p4 < (p5.length : Int)) then
      (if (0 : Int) ≤ p4 then (if p4 < (p5.length : Int) then Option.bind (p5[p4.toNat]?) fun v6 =>
      X60.l2 N a1 a2 n (IntKind.i64.wrap (p3 + 1)) (IntKind.i64.wrap (p4 + 1)) (p5.set p4.toNat p3) else none) else none)
    else some (p3, p5, a2, ())
def X60.l2.ce (N : Nat) (a1 : List Int) (a2 : Int) (oc : List (Nat × (List (Nat × D) → List E → Option (Int × (List Int) × Int × Unit)))) : Nat → List (Nat × D) → List E → Option (Int × (List Int) × Int × Unit) := loopAt (c60 N) h60 N (endK (c60 N) Tryz.f60 (mvRsM rs60 as60 (ds60 a1 a2))) [.b, .a, .b, .a] b60 oc 1
theorem X60.l2.s (N n : Nat)  (a1 : List Int) (a2 : Int) (p3 : Int) (p4 : Int) (p5 : List Int) : X60.l2.ce N a1 a2 [] (n + 1) (X60.l2.t p3 p4 p5) (X60.l2.h p3 p4 p5) =
    bif decide (p4 < (p5.length : Int)) then
      (if (0 : Int) ≤ p4 then (if p4 < (p5.length : Int) then Option.bind (p5[p4.toNat]?) fun v6 =>
      X60.l2.ce N a1 a2 [] n (X60.l2.t (IntKind.i64.wrap (p3 + 1)) (IntKind.i64.wrap (p4 + 1)) (p5.set p4.toNat p3)) (X60.l2.h (IntKind.i64.wrap (p3 + 1)) (IntKind.i64.wrap (p4 + 1)) (p5.set p4.toNat p3)) else none) else none)
    else some (p3, p5, a2, ()) := by kernel_rfl
theorem X60.l2.e (N : Nat)  (a1 : List Int) (a2 : Int) : ∀ (n : Nat) (p3 : Int) (p4 : Int) (p5 : List Int), X60.l2.ce N a1 a2 [] n (X60.l2.t p3 p4 p5) (X60.l2.h p3 p4 p5) = X60.l2 N a1 a2 n p3 p4 p5
  | 0, _, _, _ => rfl
  | n + 1, p3, p4, p5 => by rw [X60.l2.s, X60.l2]; (try simp only [X60.l2.e N a1 a2 n])
def X60 (N : Nat) (a1 : List Int) (a2 : Int) : Option (Int × (List Int) × Int × Unit) :=
  X60.l2 N a1 a2 N a2 0 a1
theorem X60.ev (N : Nat) (a1 : List Int) (a2 : Int) : evM (c60 N) h60 Tryz.f60 as60 rs60 N (a1, a2, ()) = X60 N a1 a2 :=
  (show evM (c60 N) h60 Tryz.f60 as60 rs60 N (a1, a2, ()) =
    X60.l2.ce N a1 a2 [] N (X60.l2.t a2 0 a1) (X60.l2.h a2 0 a1) by kernel_rfl).trans (by simp only [X60.l2.e]; try rfl)
theorem X60.p (N : Nat) : PMut Tryz.prog gl 60 as60 rs60 (fun x => X60 N x.1 x.2.1) :=
  PMut.ev (c := c60 N) ⟨mixed, tiok, fun f k h => (by cases h), fun f k h => (by cases h), eqtok, fun t n f h => (by cases h)⟩ h60 (f := 60) (fn := Tryz.f60) (b := b60) (by kernel_rfl) (by kernel_rfl) (by kernel_rfl) (by kernel_rfl) (by decide) (fun x y h => ⟨N, (X60.ev N x.1 x.2.1).trans h⟩) (by intro x ds0 H0 h; cases h; rfl)
end Go.Eng.T
end
noncomputable section
namespace Go.Eng.T
open Go.RowKit
open Go.Proofs
set_option linter.unusedVariables false
/- laws.markGateGrantS -/
abbrev as34 : List Sh := [.one (.sl true T83), .one (.int .i64)]
abbrev rs34 : Rs := .one (.one (.int .i64))
def h34 : Hint := { keep := fun | 2 => [0, 1, 5] | _ => [] }
def c34 (N : Nat) : Cfg := { ti := ti, gl := gl, eqt := eqt, meth := fun _ _ => none, con := fun | 35 => some ⟨as35, rs35, fun x => X35 N x.1⟩ | _ => none, mu := fun | 60 => some ⟨as60, rs60, fun x => X60 N x.1 x.2.1⟩ | _ => none, nfix := 1 }
def ds34 (a1 : List T83.den) (a2 : Int) : List D := [.ow 0, .val (.int .i64) a2]
def b34 : Code := match Tryz.f34.body with | some b => b | none => .skip
def X34.l2.t (p3 : Int) (p4 : Int) (p5 : List T83.den) : List (Nat × D) := [(0, .ow 0), (1, .val (.int .i64) p3), (5, .val (.int .i64) p4)]
def X34.l2.h (p3 : Int) (p4 : Int) (p5 : List T83.den) : List E := [.arr T83 p5]
def X34.l2 (N : Nat) (a1 : List T83.den) (a2 : Int)  : Nat → Int → Int → (List T83.den) → Option (Int × (List T83.den) × Int × Unit)
  | 0, _, _, _ => none
  | n + 1, p3, p4, p5 =>
    bif decide (p4 < (p5.length : Int)) then
      (if (0 : Int) ≤ p4 then (if p4 < (p5.length : Int) then Option.bind (p5[p4.toNat]?) fun v6 =>
      Option.bind (X35 N (IntKind.i64.wrap (p3 + 1))) fun v7 =>
      (if (0 : Int) ≤ p4 then (if p4 < ((p5.set p4.toNat (p3, v6.2)).length : Int) then Option.bind ((p5.set p4.toNat (p3, v6.2))[p4.toNat]?) fun v8 =>
      Option.bind (X35 N (IntKind.i64.wrap ((IntKind.i64.wrap (p3 + 1)) + 1))) fun v9 =>
      (if (0 : Int) ≤ p4 then (if p4 < (((p5.set p4.toNat (p3, v6.2)).set p4.toNat (v8.1, v7, v8.2.2)).length : Int) then Option.bind (((p5.set p4.toNat (p3, v6.2)).set p4.toNat (v8.1, v7, v8.2.2))[p4.toNat]?) fun v10 =>
      (if (0 : Int) ≤ p4 then (if p4 < ((((p5.set p4.toNat (p3, v6.2)).set p4.toNat (v8.1, v7, v8.2.2)).set p4.toNat (v10.1, v10.2.1, v9, v10.2.2.2)).length : Int) then Option.bind ((((p5.set p4.toNat (p3, v6.2)).set p4.toNat (v8.1, v7, v8.2.2)).set p4.toNat (v10.1, v10.2.1, v9, v10.2.2.2))[p4.toNat]?) fun v11 =>
      Option.bind (X60 N v11.2.2.2.1.1 (IntKind.i64.wrap ((IntKind.i64.wrap ((IntKind.i64.wrap (p3 + 1)) + 1)) + 1))) fun v12 =>
      Option.bind (X35 N v12.1) fun v13 =>
      (if (0 : Int) ≤ p4 then (if p4 < (((((p5.set p4.toNat (p3, v6.2)).set p4.toNat (v8.1, v7, v8.2.2)).set p4.toNat (v10.1, v10.2.1, v9, v10.2.2.2)).set p4.toNat (v11.1, v11.2.1, v11.2.2.1, (v12.2.1, v11.2.2.2.1.2), v11.2.2.2.2)).length : Int) then Option.bind (((((p5.set p4.toNat (p3, v6.2)).set p4.toNat (v8.1, v7, v8.2.2)).set p4.toNat (v10.1, v10.2.1, v9, v10.2.2.2)).set p4.toNat (v11.1, v11.2.1, v11.2.2.1, (v12.2.1, v11.2.2.2.1.2), v11.2.2.2.2))[p4.toNat]?) fun v14 =>
      Option.bind (X35 N (IntKind.i64.wrap (v12.1 + 1))) fun v15 =>
      (if (0 : Int) ≤ p4 then (if p4 < ((((((p5.set p4.toNat (p3, v6.2)).set p4.toNat (v8.1, v7, v8.2.2)).set p4.toNat (v10.1, v10.2.1, v9, v10.2.2.2)).set p4.toNat (v11.1, v11.2.1, v11.2.2.1, (v12.2.1, v11.2.2.2.1.2), v11.2.2.2.2)).set p4.toNat (v14.1, v14.2.1, v14.2.2.1, (v14.2.2.2.1.1, v13, v14.2.2.2.1.2.2), v14.2.2.2.2)).length : Int) then Option.bind ((((((p5.set p4.toNat (p3, v6.2)).set p4.toNat (v8.1, v7, v8.2.2)).set p4.toNat (v10.1, v10.2.1, v9, v10.2.2.2)).set p4.toNat (v11.1, v11.2.1, v11.2.2.1, (v12.2.1, v11.2.2.2.1.2), v11.2.2.2.2)).set p4.toNat (v14.1, v14.2.1, v14.2.2.1, (v14.2.2.2.1.1, v13, v14.2.2.2.1.2.2), v14.2.2.2.2))[p4.toNat]?) fun v16 =>
      Option.bind (X35 N (IntKind.i64.wrap ((IntKind.i64.wrap (v12.1 + 1)) + 1))) fun v17 =>
      (if (0 : Int) ≤ p4 then (if p4 < (((((((p5.set p4.toNat (p3, v6.2)).set p4.toNat (v8.1, v7, v8.2.2)).set p4.toNat (v10.1, v10.2.1, v9, v10.2.2.2)).set p4.toNat (v11.1, v11.2.1, v11.2.2.1, (v12.2.1, v11.2.2.2.1.2), v11.2.2.2.2)).set p4.toNat (v14.1, v14.2.1, v14.2.2.1, (v14.2.2.2.1.1, v13, v14.2.2.2.1.2.2), v14.2.2.2.2)).set p4.toNat (v16.1, v16.2.1, v16.2.2.1, (v16.2.2.2.1.1, v16.2.2.2.1.2.1, v15, v16.2.2.2.1.2.2.2), v16.2.2.2.2)).length : Int) then Option.bind (((((((p5.set p4.toNat (p3, v6.2)).set p4.toNat (v8.1, v7, v8.2.2)).set p4.toNat (v10.1, v10.2.1, v9, v10.2.2.2)).set p4.toNat (v11.1, v11.2.1, v11.2.2.1, (v12.2.1, v11.2.2.2.1.2), v11.2.2.2.2)).set p4.toNat (v14.1, v14.2.1, v14.2.2.1, (v14.2.2.2.1.1, v13, v14.2.2.2.1.2.2), v14.2.2.2.2)).set p4.toNat (v16.1, v16.2.1, v16.2.2.1, (v16.2.2.2.1.1, v16.2.2.2.1.2.1, v15, v16.2.2.2.1.2.2.2), v16.2.2.2.2))[p4.toNat]?) fun v18 =>
      X34.l2 N a1 a2 n (IntKind.i64.wrap ((IntKind.i64.wrap ((IntKind.i64.wrap (v12.1 + 1)) + 1)) + 1)) (IntKind.i64.wrap (p4 + 1)) (((((((p5.set p4.toNat (p3, v6.2)).set p4.toNat (v8.1, v7, v8.2.2)).set p4.toNat (v10.1, v10.2.1, v9, v10.2.2.2)).set p4.toNat (v11.1, v11.2.1, v11.2.2.1, (v12.2.1, v11.2.2.2.1.2), v11.2.2.2.2)).set p4.toNat (v14.1, v14.2.1, v14.2.2.1, (v14.2.2.2.1.1, v13, v14.2.2.2.1.2.2), v14.2.2.2.2)).set p4.toNat (v16.1, v16.2.1, v16.2.2.1, (v16.2.2.2.1.1, v16.2.2.2.1.2.1, v15, v16.2.2.2.1.2.2.2), v16.2.2.2.2)).set p4.toNat (v18.1, v18.2.1, v18.2.2.1, (v18.2.2.2.1.1, v18.2.2.2.1.2.1, v18.2.2.2.1.2.2.1, v17, v18.2.2.2.1.2.2.2.2), v18.2.2.2.2)) else none) else none) else none) else none) else none) else none) else none) else none) else none) else none) else none) else none) else none) else none)
    else some (p3, p5, a2, ())
def X34.l2.ce (N : Nat) (a1 : List T83.den) (a2 : Int) (oc : List (Nat × (List (Nat × D) → List E → Option (Int × (List T83.den) × Int × Unit)))) : Nat → List (Nat × D) → List E → Option (Int × (List T83.den) × Int × Unit) := loopAt (c34 N) h34 N (endK (c34 N) Tryz.f34 (mvRsM rs34 as34 (ds34 a1 a2))) [.b, .a, .b, .a] b34 oc 1
theorem X34.l2.s (N n : Nat)  (a1 : List T83.den) (a2 : Int) (p3 : Int) (p4 : Int) (p5 : List T83.den) : X34.l2.ce N a1 a2 [] (n + 1) (X34.l2.t p3 p4 p5) (X34.l2.h p3 p4 p5) =
    bif decide (p4 < (p5.length : Int)) then
      (if (0 : Int) ≤ p4 then (if p4 < (p5.length : Int) then Option.bind (p5[p4.toNat]?) fun v6 =>
      Option.bind (X35 N (IntKind.i64.wrap (p3 + 1))) fun v7 =>
      (if (0 : Int) ≤ p4 then (if p4 < ((p5.set p4.toNat (p3, v6.2)).length : Int) then Option.bind ((p5.set p4.toNat (p3, v6.2))[p4.toNat]?) fun v8 =>
      Option.bind (X35 N (IntKind.i64.wrap ((IntKind.i64.wrap (p3 + 1)) + 1))) fun v9 =>
      (if (0 : Int) ≤ p4 then (if p4 < (((p5.set p4.toNat (p3, v6.2)).set p4.toNat (v8.1, v7, v8.2.2)).length : Int) then Option.bind (((p5.set p4.toNat (p3, v6.2)).set p4.toNat (v8.1, v7, v8.2.2))[p4.toNat]?) fun v10 =>
      (if (0 : Int) ≤ p4 then (if p4 < ((((p5.set p4.toNat (p3, v6.2)).set p4.toNat (v8.1, v7, v8.2.2)).set p4.toNat (v10.1, v10.2.1, v9, v10.2.2.2)).length : Int) then Option.bind ((((p5.set p4.toNat (p3, v6.2)).set p4.toNat (v8.1, v7, v8.2.2)).set p4.toNat (v10.1, v10.2.1, v9, v10.2.2.2))[p4.toNat]?) fun v11 =>
      Option.bind (X60 N v11.2.2.2.1.1 (IntKind.i64.wrap ((IntKind.i64.wrap ((IntKind.i64.wrap (p3 + 1)) + 1)) + 1))) fun v12 =>
      Option.bind (X35 N v12.1) fun v13 =>
      (if (0 : Int) ≤ p4 then (if p4 < (((((p5.set p4.toNat (p3, v6.2)).set p4.toNat (v8.1, v7, v8.2.2)).set p4.toNat (v10.1, v10.2.1, v9, v10.2.2.2)).set p4.toNat (v11.1, v11.2.1, v11.2.2.1, (v12.2.1, v11.2.2.2.1.2), v11.2.2.2.2)).length : Int) then Option.bind (((((p5.set p4.toNat (p3, v6.2)).set p4.toNat (v8.1, v7, v8.2.2)).set p4.toNat (v10.1, v10.2.1, v9, v10.2.2.2)).set p4.toNat (v11.1, v11.2.1, v11.2.2.1, (v12.2.1, v11.2.2.2.1.2), v11.2.2.2.2))[p4.toNat]?) fun v14 =>
      Option.bind (X35 N (IntKind.i64.wrap (v12.1 + 1))) fun v15 =>
      (if (0 : Int) ≤ p4 then (if p4 < ((((((p5.set p4.toNat (p3, v6.2)).set p4.toNat (v8.1, v7, v8.2.2)).set p4.toNat (v10.1, v10.2.1, v9, v10.2.2.2)).set p4.toNat (v11.1, v11.2.1, v11.2.2.1, (v12.2.1, v11.2.2.2.1.2), v11.2.2.2.2)).set p4.toNat (v14.1, v14.2.1, v14.2.2.1, (v14.2.2.2.1.1, v13, v14.2.2.2.1.2.2), v14.2.2.2.2)).length : Int) then Option.bind ((((((p5.set p4.toNat (p3, v6.2)).set p4.toNat (v8.1, v7, v8.2.2)).set p4.toNat (v10.1, v10.2.1, v9, v10.2.2.2)).set p4.toNat (v11.1, v11.2.1, v11.2.2.1, (v12.2.1, v11.2.2.2.1.2), v11.2.2.2.2)).set p4.toNat (v14.1, v14.2.1, v14.2.2.1, (v14.2.2.2.1.1, v13, v14.2.2.2.1.2.2), v14.2.2.2.2))[p4.toNat]?) fun v16 =>
      Option.bind (X35 N (IntKind.i64.wrap ((IntKind.i64.wrap (v12.1 + 1)) + 1))) fun v17 =>
      (if (0 : Int) ≤ p4 then (if p4 < (((((((p5.set p4.toNat (p3, v6.2)).set p4.toNat (v8.1, v7, v8.2.2)).set p4.toNat (v10.1, v10.2.1, v9, v10.2.2.2)).set p4.toNat (v11.1, v11.2.1, v11.2.2.1, (v12.2.1, v11.2.2.2.1.2), v11.2.2.2.2)).set p4.toNat (v14.1, v14.2.1, v14.2.2.1, (v14.2.2.2.1.1, v13, v14.2.2.2.1.2.2), v14.2.2.2.2)).set p4.toNat (v16.1, v16.2.1, v16.2.2.1, (v16.2.2.2.1.1, v16.2.2.2.1.2.1, v15, v16.2.2.2.1.2.2.2), v16.2.2.2.2)).length : Int) then Option.bind (((((((p5.set p4.toNat (p3, v6.2)).set p4.toNat (v8.1, v7, v8.2.2)).set p4.toNat (v10.1, v10.2.1, v9, v10.2.2.2)).set p4.toNat (v11.1, v11.2.1, v11.2.2.1, (v12.2.1, v11.2.2.2.1.2), v11.2.2.2.2)).set p4.toNat (v14.1, v14.2.1, v14.2.2.1, (v14.2.2.2.1.1, v13, v14.2.2.2.1.2.2), v14.2.2.2.2)).set p4.toNat (v16.1, v16.2.1, v16.2.2.1, (v16.2.2.2.1.1, v16.2.2.2.1.2.1, v15, v16.2.2.2.1.2.2.2), v16.2.2.2.2))[p4.toNat]?) fun v18 =>
      X34.l2.ce N a1 a2 [] n (X34.l2.t (IntKind.i64.wrap ((IntKind.i64.wrap ((IntKind.i64.wrap (v12.1 + 1)) + 1)) + 1)) (IntKind.i64.wrap (p4 + 1)) (((((((p5.set p4.toNat (p3, v6.2)).set p4.toNat (v8.1, v7, v8.2.2)).set p4.toNat (v10.1, v10.2.1, v9, v10.2.2.2)).set p4.toNat (v11.1, v11.2.1, v11.2.2.1, (v12.2.1, v11.2.2.2.1.2), v11.2.2.2.2)).set p4.toNat (v14.1, v14.2.1, v14.2.2.1, (v14.2.2.2.1.1, v13, v14.2.2.2.1.2.2), v14.2.2.2.2)).set p4.toNat (v16.1, v16.2.1, v16.2.2.1, (v16.2.2.2.1.1, v16.2.2.2.1.2.1, v15, v16.2.2.2.1.2.2.2), v16.2.2.2.2)).set p4.toNat (v18.1, v18.2.1, v18.2.2.1, (v18.2.2.2.1.1, v18.2.2.2.1.2.1, v18.2.2.2.1.2.2.1, v17, v18.2.2.2.1.2.2.2.2), v18.2.2.2.2))) (X34.l2.h (IntKind.i64.wrap ((IntKind.i64.wrap ((IntKind.i64.wrap (v12.1 + 1)) + 1)) + 1)) (IntKind.i64.wrap (p4 + 1)) (((((((p5.set p4.toNat (p3, v6.2)).set p4.toNat (v8.1, v7, v8.2.2)).set p4.toNat (v10.1, v10.2.1, v9, v10.2.2.2)).set p4.toNat (v11.1, v11.2.1, v11.2.2.1, (v12.2.1, v11.2.2.2.1.2), v11.2.2.2.2)).set p4.toNat (v14.1, v14.2.1, v14.2.2.1, (v14.2.2.2.1.1, v13, v14.2.2.2.1.2.2), v14.2.2.2.2)).set p4.toNat (v16.1, v16.2.1, v16.2.2.1, (v16.2.2.2.1.1, v16.2.2.2.1.2.1, v15, v16.2.2.2.1.2.2.2), v16.2.2.2.2)).set p4.toNat (v18.1, v18.2.1, v18.2.2.1, (v18.2.2.2.1.1, v18.2.2.2.1.2.1, v18.2.2.2.1.2.2.1, v17, v18.2.2.2.1.2.2.2.2), v18.2.2.2.2))) else none) else none) else none) else none) else none) else none) else none) else none) else none) else none) else none) else none) else none) else none)
    else some (p3, p5, a2, ()) := by kernel_rfl
theorem X34.l2.e (N : Nat)  (a1 : List T83.den) (a2 : Int) : ∀ (n : Nat) (p3 : Int) (p4 : Int) (p5 : List T83.den), X34.l2.ce N a1 a2 [] n (X34.l2.t p3 p4 p5) (X34.l2.h p3 p4 p5) = X34.l2 N a1 a2 n p3 p4 p5
  | 0, _, _, _ => rfl
  | n + 1, p3, p4, p5 => by rw [X34.l2.s, X34.l2]; (try simp only [X34.l2.e N a1 a2 n])
def X34 (N : Nat) (a1 : List T83.den) (a2 : Int) : Option (Int × (List T83.den) × Int × Unit) :=
  X34.l2 N a1 a2 N a2 0 a1
theorem X34.ev (N : Nat) (a1 : List T83.den) (a2 : Int) : evM (c34 N) h34 Tryz.f34 as34 rs34 N (a1, a2, ()) = X34 N a1 a2 :=
  (show evM (c34 N) h34 Tryz.f34 as34 rs34 N (a1, a2, ()) =
    X34.l2.ce N a1 a2 [] N (X34.l2.t a2 0 a1) (X34.l2.h a2 0 a1) by kernel_rfl).trans (by simp only [X34.l2.e]; try rfl)
theorem X34.p (N : Nat) : PMut Tryz.prog gl 34 as34 rs34 (fun x => X34 N x.1 x.2.1) :=
  PMut.ev (c := c34 N) ⟨mixed, tiok, fun f k h => (by simp only [c34] at h; split at h <;> first | (cases h; done) | (cases h; first | exact X35.p N)), fun f k h => (by simp only [c34] at h; split at h <;> first | (cases h; done) | (cases h; first | exact X60.p N)), eqtok, fun t n f h => (by cases h)⟩ h34 (f := 34) (fn := Tryz.f34) (b := b34) (by kernel_rfl) (by kernel_rfl) (by kernel_rfl) (by kernel_rfl) (by decide) (fun x y h => ⟨N, (X34.ev N x.1 x.2.1).trans h⟩) (by intro x ds0 H0 h; cases h; rfl)
end Go.Eng.T
end
noncomputable section
namespace Go.Eng.T
open Go.RowKit
open Go.Proofs
set_option linter.unusedVariables false
/- laws.markHallHouse -/
abbrev as13 : List Sh := [.agg T25, .one (.int .i64)]
abbrev rs13 : Rs := .one (.one (.int .i64))
def h13 : Hint := {  }
def c13 (N : Nat) : Cfg := { ti := ti, gl := gl, eqt := eqt, meth := fun _ _ => none, con := fun _ => none, mu := fun | 33 => some ⟨as33, rs33, fun x => X33 N x.1 x.2.1⟩ | 34 => some ⟨as34, rs34, fun x => X34 N x.1 x.2.1⟩ | _ => none, nfix := 2 }
def ds13 (a1 : T25.den) (a2 : Int) : List D := [.agg [.ow 0, .ow 1], .val (.int .i64) a2]
def b13 : Code := match Tryz.f13.body with | some b => b | none => .skip
def X13 (N : Nat) (a1 : T25.den) (a2 : Int) : Option (Int × T25.den × Int × Unit) :=
  Option.bind (X33 N a1.1 a2) fun v3 =>
  Option.bind (X34 N a1.2.1 v3.1) fun v4 =>
  some (v4.1, (v3.2.1, v4.2.1, ()), a2, ())
theorem X13.ev (N : Nat) (a1 : T25.den) (a2 : Int) : evM (c13 N) h13 Tryz.f13 as13 rs13 N (a1, a2, ()) = X13 N a1 a2 := by kernel_rfl
theorem X13.p (N : Nat) : PMut Tryz.prog gl 13 as13 rs13 (fun x => X13 N x.1 x.2.1) :=
  PMut.ev (c := c13 N) ⟨mixed, tiok, fun f k h => (by cases h), fun f k h => (by simp only [c13] at h; split at h <;> first | (cases h; done) | (cases h; first | exact X33.p N | exact X34.p N)), eqtok, fun t n f h => (by cases h)⟩ h13 (f := 13) (fn := Tryz.f13) (b := b13) (by kernel_rfl) (by kernel_rfl) (by kernel_rfl) (by kernel_rfl) (by decide) (fun x y h => ⟨N, (X13.ev N x.1 x.2.1).trans h⟩) (by intro x ds0 H0 h; cases h; rfl)
end Go.Eng.T
end
noncomputable section
namespace Go.Eng.T
open Go.RowKit
open Go.Proofs
set_option linter.unusedVariables false
/- laws.markDeskS -/
abbrev as14 : List Sh := [.one (.sl true T58), .one (.int .i64)]
abbrev rs14 : Rs := .one (.one (.int .i64))
def h14 : Hint := { keep := fun | 2 => [0, 1, 5] | _ => [] }
def c14 (N : Nat) : Cfg := { ti := ti, gl := gl, eqt := eqt, meth := fun _ _ => none, con := fun | 35 => some ⟨as35, rs35, fun x => X35 N x.1⟩ | _ => none, nfix := 1 }
def ds14 (a1 : List T58.den) (a2 : Int) : List D := [.ow 0, .val (.int .i64) a2]
def b14 : Code := match Tryz.f14.body with | some b => b | none => .skip
def X14.l2.t (p3 : Int) (p4 : Int) (p5 : List T58.den) : List (Nat × D) := [(0, .ow 0), (1, .val (.int .i64) p3), (5, .val (.int .i64) p4)]
def X14.l2.h (p3 : Int) (p4 : Int) (p5 : List T58.den) : List E := [.arr T58 p5]
def X14.l2 (N : Nat) (a1 : List T58.den) (a2 : Int)  : Nat → Int → Int → (List T58.den) → Option (Int × (List T58.den) × Int × Unit)
  | 0, _, _, _ => none
  | n + 1, p3, p4, p5 =>
    bif decide (p4 < (p5.length : Int)) then
      Option.bind (X35 N p3) fun v6 =>
      (if (0 : Int) ≤ p4 then (if p4 < (p5.length : Int) then Option.bind (p5[p4.toNat]?) fun v7 =>
      Option.bind (X35 N (IntKind.i64.wrap (p3 + 1))) fun v8 =>
      (if (0 : Int) ≤ p4 then (if p4 < ((p5.set p4.toNat (v6, v7.2)).length : Int) then Option.bind ((p5.set p4.toNat (v6, v7.2))[p4.toNat]?) fun v9 =>
      Option.bind (X35 N (IntKind.i64.wrap ((IntKind.i64.wrap (p3 + 1)) + 1))) fun v10 =>
      (if (0 : Int) ≤ p4 then (if p4 < (((p5.set p4.toNat (v6, v7.2)).set p4.toNat (v9.1, v8, v9.2.2)).length : Int) then Option.bind (((p5.set p4.toNat (v6, v7.2)).set p4.toNat (v9.1, v8, v9.2.2))[p4.toNat]?) fun v11 =>
      Option.bind (X35 N (IntKind.i64.wrap ((IntKind.i64.wrap ((IntKind.i64.wrap (p3 + 1)) + 1)) + 1))) fun v12 =>
      (if (0 : Int) ≤ p4 then (if p4 < ((((p5.set p4.toNat (v6, v7.2)).set p4.toNat (v9.1, v8, v9.2.2)).set p4.toNat (v11.1, v11.2.1, v10, v11.2.2.2)).length : Int) then Option.bind ((((p5.set p4.toNat (v6, v7.2)).set p4.toNat (v9.1, v8, v9.2.2)).set p4.toNat (v11.1, v11.2.1, v10, v11.2.2.2))[p4.toNat]?) fun v13 =>
      X14.l2 N a1 a2 n (IntKind.i64.wrap ((IntKind.i64.wrap ((IntKind.i64.wrap ((IntKind.i64.wrap (p3 + 1)) + 1)) + 1)) + 1)) (IntKind.i64.wrap (p4 + 1)) ((((p5.set p4.toNat (v6, v7.2)).set p4.toNat (v9.1, v8, v9.2.2)).set p4.toNat (v11.1, v11.2.1, v10, v11.2.2.2)).set p4.toNat (v13.1, v13.2.1, v13.2.2.1, v12, v13.2.2.2.2)) else none) else none) else none) else none) else none) else none) else none) else none)
    else some (p3, p5, a2, ())
def X14.l2.ce (N : Nat) (a1 : List T58.den) (a2 : Int) (oc : List (Nat × (List (Nat × D) → List E → Option (Int × (List T58.den) × Int × Unit)))) : Nat → List (Nat × D) → List E → Option (Int × (List T58.den) × Int × Unit) := loopAt (c14 N) h14 N (endK (c14 N) Tryz.f14 (mvRsM rs14 as14 (ds14 a1 a2))) [.b, .a, .b, .a] b14 oc 1
theorem X14.l2.s (N n : Nat)  (a1 : List T58.den) (a2 : Int) (p3 : Int) (p4 : Int) (p5 : List T58.den) : X14.l2.ce N a1 a2 [] (n + 1) (X14.l2.t p3 p4 p5) (X14.l2.h p3 p4 p5) =
    bif decide (p4 < (p5.length : Int)) then
      Option.bind (X35 N p3) fun v6 =>
      (if (0 : Int) ≤ p4 then (if p4 < (p5.length : Int) then Option.bind (p5[p4.toNat]?) fun v7 =>
      Option.bind (X35 N (IntKind.i64.wrap (p3 + 1))) fun v8 =>
      (if (0 : Int) ≤ p4 then (if p4 < ((p5.set p4.toNat (v6, v7.2)).length : Int) then Option.bind ((p5.set p4.toNat (v6, v7.2))[p4.toNat]?) fun v9 =>
      Option.bind (X35 N (IntKind.i64.wrap ((IntKind.i64.wrap (p3 + 1)) + 1))) fun v10 =>
      (if (0 : Int) ≤ p4 then (if p4 < (((p5.set p4.toNat (v6, v7.2)).set p4.toNat (v9.1, v8, v9.2.2)).length : Int) then Option.bind (((p5.set p4.toNat (v6, v7.2)).set p4.toNat (v9.1, v8, v9.2.2))[p4.toNat]?) fun v11 =>
      Option.bind (X35 N (IntKind.i64.wrap ((IntKind.i64.wrap ((IntKind.i64.wrap (p3 + 1)) + 1)) + 1))) fun v12 =>
      (if (0 : Int) ≤ p4 then (if p4 < ((((p5.set p4.toNat (v6, v7.2)).set p4.toNat (v9.1, v8, v9.2.2)).set p4.toNat (v11.1, v11.2.1, v10, v11.2.2.2)).length : Int) then Option.bind ((((p5.set p4.toNat (v6, v7.2)).set p4.toNat (v9.1, v8, v9.2.2)).set p4.toNat (v11.1, v11.2.1, v10, v11.2.2.2))[p4.toNat]?) fun v13 =>
      X14.l2.ce N a1 a2 [] n (X14.l2.t (IntKind.i64.wrap ((IntKind.i64.wrap ((IntKind.i64.wrap ((IntKind.i64.wrap (p3 + 1)) + 1)) + 1)) + 1)) (IntKind.i64.wrap (p4 + 1)) ((((p5.set p4.toNat (v6, v7.2)).set p4.toNat (v9.1, v8, v9.2.2)).set p4.toNat (v11.1, v11.2.1, v10, v11.2.2.2)).set p4.toNat (v13.1, v13.2.1, v13.2.2.1, v12, v13.2.2.2.2))) (X14.l2.h (IntKind.i64.wrap ((IntKind.i64.wrap ((IntKind.i64.wrap ((IntKind.i64.wrap (p3 + 1)) + 1)) + 1)) + 1)) (IntKind.i64.wrap (p4 + 1)) ((((p5.set p4.toNat (v6, v7.2)).set p4.toNat (v9.1, v8, v9.2.2)).set p4.toNat (v11.1, v11.2.1, v10, v11.2.2.2)).set p4.toNat (v13.1, v13.2.1, v13.2.2.1, v12, v13.2.2.2.2))) else none) else none) else none) else none) else none) else none) else none) else none)
    else some (p3, p5, a2, ()) := by kernel_rfl
theorem X14.l2.e (N : Nat)  (a1 : List T58.den) (a2 : Int) : ∀ (n : Nat) (p3 : Int) (p4 : Int) (p5 : List T58.den), X14.l2.ce N a1 a2 [] n (X14.l2.t p3 p4 p5) (X14.l2.h p3 p4 p5) = X14.l2 N a1 a2 n p3 p4 p5
  | 0, _, _, _ => rfl
  | n + 1, p3, p4, p5 => by rw [X14.l2.s, X14.l2]; (try simp only [X14.l2.e N a1 a2 n])
def X14 (N : Nat) (a1 : List T58.den) (a2 : Int) : Option (Int × (List T58.den) × Int × Unit) :=
  X14.l2 N a1 a2 N a2 0 a1
theorem X14.ev (N : Nat) (a1 : List T58.den) (a2 : Int) : evM (c14 N) h14 Tryz.f14 as14 rs14 N (a1, a2, ()) = X14 N a1 a2 :=
  (show evM (c14 N) h14 Tryz.f14 as14 rs14 N (a1, a2, ()) =
    X14.l2.ce N a1 a2 [] N (X14.l2.t a2 0 a1) (X14.l2.h a2 0 a1) by kernel_rfl).trans (by simp only [X14.l2.e]; try rfl)
theorem X14.p (N : Nat) : PMut Tryz.prog gl 14 as14 rs14 (fun x => X14 N x.1 x.2.1) :=
  PMut.ev (c := c14 N) ⟨mixed, tiok, fun f k h => (by simp only [c14] at h; split at h <;> first | (cases h; done) | (cases h; first | exact X35.p N)), fun f k h => (by cases h), eqtok, fun t n f h => (by cases h)⟩ h14 (f := 14) (fn := Tryz.f14) (b := b14) (by kernel_rfl) (by kernel_rfl) (by kernel_rfl) (by kernel_rfl) (by decide) (fun x y h => ⟨N, (X14.ev N x.1 x.2.1).trans h⟩) (by intro x ds0 H0 h; cases h; rfl)
end Go.Eng.T
end
noncomputable section
namespace Go.Eng.T
open Go.RowKit
open Go.Proofs
set_option linter.unusedVariables false
/- laws.markRecSlotS -/
abbrev as133 : List Sh := [.one (.sl true T218), .one (.int .i64)]
abbrev rs133 : Rs := .one (.one (.int .i64))
def h133 : Hint := { keep := fun | 2 => [0, 1, 5] | _ => [] }
def c133 (N : Nat) : Cfg := { ti := ti, gl := gl, eqt := eqt, meth := fun _ _ => none, con := fun | 35 => some ⟨as35, rs35, fun x => X35 N x.1⟩ | _ => none, nfix := 1 }
def ds133 (a1 : List T218.den) (a2 : Int) : List D := [.ow 0, .val (.int .i64) a2]
def b133 : Code := match Tryz.f133.body with | some b => b | none => .skip
def X133.l2.t (p3 : Int) (p4 : Int) (p5 : List T218.den) : List (Nat × D) := [(0, .ow 0), (1, .val (.int .i64) p3), (5, .val (.int .i64) p4)]
def X133.l2.h (p3 : Int) (p4 : Int) (p5 : List T218.den) : List E := [.arr T218 p5]
def X133.l2 (N : Nat) (a1 : List T218.den) (a2 : Int)  : Nat → Int → Int → (List T218.den) → Option (Int × (List T218.den) × Int × Unit)
  | 0, _, _, _ => none
  | n + 1, p3, p4, p5 =>
    bif decide (p4 < (p5.length : Int)) then
      (if (0 : Int) ≤ p4 then (if p4 < (p5.length : Int) then Option.bind (p5[p4.toNat]?) fun v6 =>
      Option.bind (X35 N (IntKind.i64.wrap (p3 + 1))) fun v7 =>
      (if (0 : Int) ≤ p4 then (if p4 < ((p5.set p4.toNat (p3, v6.2)).length : Int) then Option.bind ((p5.set p4.toNat (p3, v6.2))[p4.toNat]?) fun v8 =>
      X133.l2 N a1 a2 n (IntKind.i64.wrap ((IntKind.i64.wrap (p3 + 1)) + 1)) (IntKind.i64.wrap (p4 + 1)) ((p5.set p4.toNat (p3, v6.2)).set p4.toNat (v8.1, v7, v8.2.2)) else none) else none) else none) else none)
    else some (p3, p5, a2, ())
def X133.l2.ce (N : Nat) (a1 : List T218.den) (a2 : Int) (oc : List (Nat × (List (Nat × D) → List E → Option (Int × (List T218.den) × Int × Unit)))) : Nat → List (Nat × D) → List E → Option (Int × (List T218.den) × Int × Unit) := loopAt (c133 N) h133 N (endK (c133 N) Tryz.f133 (mvRsM rs133 as133 (ds133 a1 a2))) [.b, .a, .b, .a] b133 oc 1
theorem X133.l2.s (N n : Nat)  (a1 : List T218.den) (a2 : Int) (p3 : Int) (p4 : Int) (p5 : List T218.den) : X133.l2.ce N a1 a2 [] (n + 1) (X133.l2.t p3 p4 p5) (X133.l2.h p3 p4 p5) =
    bif decide (p4 < (p5.length : Int)) then
      (if (0 : Int) ≤ p4 then (if p4 < (p5.length : Int) then Option.bind (p5[p4.toNat]?) fun v6 =>
      Option.bind (X35 N (IntKind.i64.wrap (p3 + 1))) fun v7 =>
      (if (0 : Int) ≤ p4 then (if p4 < ((p5.set p4.toNat (p3, v6.2)).length : Int) then Option.bind ((p5.set p4.toNat (p3, v6.2))[p4.toNat]?) fun v8 =>
      X133.l2.ce N a1 a2 [] n (X133.l2.t (IntKind.i64.wrap ((IntKind.i64.wrap (p3 + 1)) + 1)) (IntKind.i64.wrap (p4 + 1)) ((p5.set p4.toNat (p3, v6.2)).set p4.toNat (v8.1, v7, v8.2.2))) (X133.l2.h (IntKind.i64.wrap ((IntKind.i64.wrap (p3 + 1)) + 1)) (IntKind.i64.wrap (p4 + 1)) ((p5.set p4.toNat (p3, v6.2)).set p4.toNat (v8.1, v7, v8.2.2))) else none) else none) else none) else none)
    else some (p3, p5, a2, ()) := by kernel_rfl
theorem X133.l2.e (N : Nat)  (a1 : List T218.den) (a2 : Int) : ∀ (n : Nat) (p3 : Int) (p4 : Int) (p5 : List T218.den), X133.l2.ce N a1 a2 [] n (X133.l2.t p3 p4 p5) (X133.l2.h p3 p4 p5) = X133.l2 N a1 a2 n p3 p4 p5
  | 0, _, _, _ => rfl
  | n + 1, p3, p4, p5 => by rw [X133.l2.s, X133.l2]; (try simp only [X133.l2.e N a1 a2 n])
def X133 (N : Nat) (a1 : List T218.den) (a2 : Int) : Option (Int × (List T218.den) × Int × Unit) :=
  X133.l2 N a1 a2 N a2 0 a1
theorem X133.ev (N : Nat) (a1 : List T218.den) (a2 : Int) : evM (c133 N) h133 Tryz.f133 as133 rs133 N (a1, a2, ()) = X133 N a1 a2 :=
  (show evM (c133 N) h133 Tryz.f133 as133 rs133 N (a1, a2, ()) =
    X133.l2.ce N a1 a2 [] N (X133.l2.t a2 0 a1) (X133.l2.h a2 0 a1) by kernel_rfl).trans (by simp only [X133.l2.e]; try rfl)
theorem X133.p (N : Nat) : PMut Tryz.prog gl 133 as133 rs133 (fun x => X133 N x.1 x.2.1) :=
  PMut.ev (c := c133 N) ⟨mixed, tiok, fun f k h => (by simp only [c133] at h; split at h <;> first | (cases h; done) | (cases h; first | exact X35.p N)), fun f k h => (by cases h), eqtok, fun t n f h => (by cases h)⟩ h133 (f := 133) (fn := Tryz.f133) (b := b133) (by kernel_rfl) (by kernel_rfl) (by kernel_rfl) (by kernel_rfl) (by decide) (fun x y h => ⟨N, (X133.ev N x.1 x.2.1).trans h⟩) (by intro x ds0 H0 h; cases h; rfl)
end Go.Eng.T
end
