/- Part of the proof: functions that the law reaches, each with the typed function that it computes. -/
import Derived.Test.YtadefgfohmkheaaGreatDoorP1
import Derived.Test.YtadefgfohmkheaaGreatDoorP4
noncomputable section
namespace Go.Eng.T
open Go.RowKit
open Go.Proofs
set_option linter.unusedVariables false
/- impl.HallNew -/
abbrev as25 : List Sh := [.agg T25r, .one (.int .i64)]
abbrev rs25 : Rs := .one (.agg T40)
def h25 : Hint := {  }
def c25 (N : Nat) : Cfg := { ti := ti, gl := gl, eqt := eqt, meth := fun _ _ => none, con := fun | 27 => some ⟨as27, rs27, fun x => X27 N x.1⟩ | 49 => some ⟨as49, rs49, fun x => X49 N x.1⟩ | 50 => some ⟨as50, rs50, fun x => X50 N x.1⟩ | _ => none }
def b25 : Code := match Tryz.f25.body with | some b => b | none => .skip
def X25 (N : Nat) (a1 : T25.den) (a2 : Int) : Option T40.den :=
  Option.bind (X27 N a1) fun v4 =>
  bif !v4 then
    some ((([] : List T77.den), ([] : List T83.den), ()), (([] : List T114.den), ([] : List T160.den), ([] : List T218.den), ()), 0, ([] : List T120.den), ())
  else bif decide (a2 < 1) then
    some ((([] : List T77.den), ([] : List T83.den), ()), (([] : List T114.den), ([] : List T160.den), ([] : List T218.den), ()), 0, ([] : List T120.den), ())
  else bif decide (a2 > 5) then
    some ((([] : List T77.den), ([] : List T83.den), ()), (([] : List T114.den), ([] : List T160.den), ([] : List T218.den), ()), 0, ([] : List T120.den), ())
  else Option.bind (X49 N a1) fun v5 =>
  Option.bind (X50 N a2) fun v6 =>
  some (v5, v6, 0, ([] : List T120.den), ())
theorem X25.ev (N : Nat) (a1 : T25.den) (a2 : Int) : evF (c25 N) h25 Tryz.f25 as25 rs25 N (a1, a2, ()) = X25 N a1 a2 := by kernel_rfl
theorem X25.p (N : Nat) : PFun Tryz.prog gl 25 as25 rs25 (fun x => X25 N x.1 x.2.1) :=
  PFun.ev (c := c25 N) ⟨mixed, tiok, fun f k h => (by simp only [c25] at h; split at h <;> first | (cases h; done) | (cases h; first | exact X27.p N | exact X49.p N | exact X50.p N)), fun f k h => (by cases h), eqtok, fun t n f h => (by cases h)⟩ h25 (f := 25) (fn := Tryz.f25) (b := b25) (by kernel_rfl) (by kernel_rfl) (by kernel_rfl) (by kernel_rfl) (by decide) (fun x y h => ⟨N, (X25.ev N x.1 x.2.1).trans h⟩)
end Go.Eng.T
end
noncomputable section
namespace Go.Eng.T
open Go.RowKit
open Go.Proofs
set_option linter.unusedVariables false
/- slices.Clone[[]impl.Desk,impl.Desk] -/
abbrev as26 : List Sh := [.one (.sl false T58)]
abbrev rs26 : Rs := .one (.one (.sl true T58))
def h26 : Hint := { join := fun | 3 => some ([0], 0) | _ => none }
def c26 (N : Nat) : Cfg := { ti := ti, gl := gl, eqt := eqt, meth := fun _ _ => none, con := fun _ => none }
def b26 : Code := match Tryz.f26.body with | some b => b | none => .skip
def X26.j3.t (a1 : List T58.den) : List (Nat × D) := [(0, .val (.sl false T58) a1)]
def X26.j3.h (a1 : List T58.den) : List E := []
def X26.j3 (N : Nat) (a1 : List T58.den)   : Option (List T58.den) :=
    pass N <|
    (if (([] : List T58.den).length + a1.length) * 64 ≤ 140737488355328 then some (([] : List T58.den) ++ a1) else none)
def X26.j3.ce (N : Nat) (oc : List (Nat × (List (Nat × D) → List E → Option (List T58.den)))) : List (Nat × D) → List E → Option (List T58.den) := joinAt (c26 N) h26 N (endK (c26 N) Tryz.f26 (mvRs rs26)) [.b, .b] b26 oc
theorem X26.j3.e (N : Nat)  (a1 : List T58.den) : X26.j3.ce N [] (X26.j3.t a1) (X26.j3.h a1) = X26.j3 N a1 :=
  (joinAt_eq (show partAt (c26 N) h26 N (endK (c26 N) Tryz.f26 (mvRs rs26)) [.b, .b] b26 [] (X26.j3.t a1) (X26.j3.h a1) =
    (if (([] : List T58.den).length + a1.length) * 64 ≤ 140737488355328 then some (([] : List T58.den) ++ a1) else none) by kernel_rfl)).trans (by rfl)
def X26 (N : Nat) (a1 : List T58.den) : Option (List T58.den) :=
  bif a1.isEmpty then
    both (some ([] : List T58.den)) (X26.j3 N a1)
  else X26.j3 N a1
theorem X26.ev (N : Nat) (a1 : List T58.den) : evF (c26 N) h26 Tryz.f26 as26 rs26 N (a1, ()) = X26 N a1 :=
  (show evF (c26 N) h26 Tryz.f26 as26 rs26 N (a1, ()) =
    bif a1.isEmpty then
      both (some ([] : List T58.den)) (X26.j3.ce N [] (X26.j3.t a1) (X26.j3.h a1))
    else X26.j3.ce N [] (X26.j3.t a1) (X26.j3.h a1) by kernel_rfl).trans (by simp only [X26.j3.e, X26.j3.e]; try rfl)
theorem X26.p (N : Nat) : PFun Tryz.prog gl 26 as26 rs26 (fun x => X26 N x.1) :=
  PFun.ev (c := c26 N) ⟨mixed, tiok, fun f k h => (by cases h), fun f k h => (by cases h), eqtok, fun t n f h => (by cases h)⟩ h26 (f := 26) (fn := Tryz.f26) (b := b26) (by kernel_rfl) (by kernel_rfl) (by kernel_rfl) (by kernel_rfl) (by decide) (fun x y h => ⟨N, (X26.ev N x.1).trans h⟩)
end Go.Eng.T
end
noncomputable section
namespace Go.Eng.T
open Go.RowKit
open Go.Proofs
set_option linter.unusedVariables false
/- impl.slotsOk -/
abbrev as153 : List Sh := [.one (.sl false T218)]
abbrev rs153 : Rs := .one (.one .bool)
def h153 : Hint := { keep := fun | 4 => [8, 9, 10] | _ => [] }
def c153 (N : Nat) : Cfg := { ti := ti, gl := gl, eqt := eqt, meth := fun _ _ => none, con := fun | 81 => some ⟨as81, rs81, fun x => X81 N x.1 x.2.1 x.2.2.1⟩ | _ => none }
def b153 : Code := match Tryz.f153.body with | some b => b | none => .skip
def X153.l4.t (a1 : List T218.den) (p2 : Int) : List (Nat × D) := [(8, .val (.sl false T218) a1), (9, .val (.int .i64) (a1.length : Int)), (10, .val (.int .i64) p2)]
def X153.l4.h (a1 : List T218.den) (p2 : Int) : List E := []
def X153.l4 (N : Nat) (a1 : List T218.den)  : Nat → Int → Option Bool
  | 0, _ => none
  | n + 1, p2 =>
    bif decide (p2 < (a1.length : Int)) then
      (if (0 : Int) ≤ p2 then Option.bind (a1[p2.toNat]?) fun v3 =>
      Option.bind (X81 N v3.1 0 1000000) fun v4 =>
      bif !v4 then
        some false
      else bif decide ((v3.2.1.size : Int) > 160) then
        some false
      else bif v3.1 == 0 then
        bif !(v3.2.1.toList == (⟨#[]⟩ : ByteArray).toList) then
          some false
        else X153.l4 N a1 n (IntKind.i64.wrap (p2 + 1))
      else X153.l4 N a1 n (IntKind.i64.wrap (p2 + 1)) else none)
    else some true
def X153.l4.ce (N : Nat) (oc : List (Nat × (List (Nat × D) → List E → Option Bool))) : Nat → List (Nat × D) → List E → Option Bool := loopAt (c153 N) h153 N (endK (c153 N) Tryz.f153 (mvRs rs153)) [.b, .b, .a, .b, .a] b153 oc 0
theorem X153.l4.s (N n : Nat)  (a1 : List T218.den) (p2 : Int) : X153.l4.ce N [] (n + 1) (X153.l4.t a1 p2) (X153.l4.h a1 p2) =
    bif decide (p2 < (a1.length : Int)) then
      (if (0 : Int) ≤ p2 then Option.bind (a1[p2.toNat]?) fun v3 =>
      Option.bind (X81 N v3.1 0 1000000) fun v4 =>
      bif !v4 then
        some false
      else bif decide ((v3.2.1.size : Int) > 160) then
        some false
      else bif v3.1 == 0 then
        bif !(v3.2.1.toList == (⟨#[]⟩ : ByteArray).toList) then
          some false
        else X153.l4.ce N [] n (X153.l4.t a1 (IntKind.i64.wrap (p2 + 1))) (X153.l4.h a1 (IntKind.i64.wrap (p2 + 1)))
      else X153.l4.ce N [] n (X153.l4.t a1 (IntKind.i64.wrap (p2 + 1))) (X153.l4.h a1 (IntKind.i64.wrap (p2 + 1))) else none)
    else some true := by kernel_rfl
theorem X153.l4.e (N : Nat)  (a1 : List T218.den) : ∀ (n : Nat) (p2 : Int), X153.l4.ce N [] n (X153.l4.t a1 p2) (X153.l4.h a1 p2) = X153.l4 N a1 n p2
  | 0, _ => rfl
  | n + 1, p2 => by rw [X153.l4.s, X153.l4]; (try simp only [X153.l4.e N a1 n])
def X153 (N : Nat) (a1 : List T218.den) : Option Bool :=
  bif decide ((a1.length : Int) > 120) then
    some false
  else X153.l4 N a1 N 0
theorem X153.ev (N : Nat) (a1 : List T218.den) : evF (c153 N) h153 Tryz.f153 as153 rs153 N (a1, ()) = X153 N a1 :=
  (show evF (c153 N) h153 Tryz.f153 as153 rs153 N (a1, ()) =
    bif decide ((a1.length : Int) > 120) then
      some false
    else X153.l4.ce N [] N (X153.l4.t a1 0) (X153.l4.h a1 0) by kernel_rfl).trans (by simp only [X153.l4.e]; try rfl)
theorem X153.p (N : Nat) : PFun Tryz.prog gl 153 as153 rs153 (fun x => X153 N x.1) :=
  PFun.ev (c := c153 N) ⟨mixed, tiok, fun f k h => (by simp only [c153] at h; split at h <;> first | (cases h; done) | (cases h; first | exact X81.p N)), fun f k h => (by cases h), eqtok, fun t n f h => (by cases h)⟩ h153 (f := 153) (fn := Tryz.f153) (b := b153) (by kernel_rfl) (by kernel_rfl) (by kernel_rfl) (by kernel_rfl) (by decide) (fun x y h => ⟨N, (X153.ev N x.1).trans h⟩)
end Go.Eng.T
end
noncomputable section
namespace Go.Eng.T
open Go.RowKit
open Go.Proofs
set_option linter.unusedVariables false
/- impl.RecMessageOk -/
abbrev as123 : List Sh := [.agg T160r, .one (.int .i64)]
abbrev rs123 : Rs := .one (.one .bool)
def h123 : Hint := {  }
def c123 (N : Nat) : Cfg := { ti := ti, gl := gl, eqt := eqt, meth := fun _ _ => none, con := fun | 81 => some ⟨as81, rs81, fun x => X81 N x.1 x.2.1 x.2.2.1⟩ | 153 => some ⟨as153, rs153, fun x => X153 N x.1⟩ | _ => none }
def b123 : Code := match Tryz.f123.body with | some b => b | none => .skip
def X123 (N : Nat) (a1 : T160.den) (a2 : Int) : Option Bool :=
  Option.bind (X81 N a1.1 1 9) fun v3 =>
  bif v3 then
    Option.bind (X81 N a1.2.1 1 a2) fun v4 =>
    bif v4 then
      Option.bind (X81 N a1.2.2.1 1 a2) fun v5 =>
      bif v5 then
        Option.bind (X81 N a1.2.2.2.1 0 1000000) fun v6 =>
        bif v6 then
          Option.bind (X81 N a1.2.2.2.2.1 0 120) fun v7 =>
          bif v7 then
            Option.bind (X81 N a1.2.2.2.2.2.1 0 120) fun v8 =>
            bif v8 then
              bif decide ((a1.2.2.2.2.2.2.1.size : Int) ≤ 160) then
                Option.bind (X153 N a1.2.2.2.2.2.2.2.1) fun v9 =>
                some v9
              else some false
            else some false
          else some false
        else some false
      else some false
    else some false
  else some false
theorem X123.ev (N : Nat) (a1 : T160.den) (a2 : Int) : evF (c123 N) h123 Tryz.f123 as123 rs123 N (a1, a2, ()) = X123 N a1 a2 := by kernel_rfl
theorem X123.p (N : Nat) : PFun Tryz.prog gl 123 as123 rs123 (fun x => X123 N x.1 x.2.1) :=
  PFun.ev (c := c123 N) ⟨mixed, tiok, fun f k h => (by simp only [c123] at h; split at h <;> first | (cases h; done) | (cases h; first | exact X81.p N | exact X153.p N)), fun f k h => (by cases h), eqtok, fun t n f h => (by cases h)⟩ h123 (f := 123) (fn := Tryz.f123) (b := b123) (by kernel_rfl) (by kernel_rfl) (by kernel_rfl) (by kernel_rfl) (by decide) (fun x y h => ⟨N, (X123.ev N x.1 x.2.1).trans h⟩)
end Go.Eng.T
end
noncomputable section
namespace Go.Eng.T
open Go.RowKit
open Go.Proofs
set_option linter.unusedVariables false
/- impl.RecDiskOk -/
abbrev as151 : List Sh := [.agg T110r]
abbrev rs151 : Rs := .one (.one .bool)
def h151 : Hint := { keep := fun | 4 => [1, 25, 26, 27] | _ => [] }
def c151 (N : Nat) : Cfg := { ti := ti, gl := gl, eqt := eqt, meth := fun _ _ => none, con := fun | 81 => some ⟨as81, rs81, fun x => X81 N x.1 x.2.1 x.2.2.1⟩ | 153 => some ⟨as153, rs153, fun x => X153 N x.1⟩ | _ => none }
def b151 : Code := match Tryz.f151.body with | some b => b | none => .skip
def X151.l4.t (a1 : T110.den) (p13 : Int) : List (Nat × D) := [(1, .bp 0 0), (25, .val (.sl false T218) a1.2.2.1), (26, .val (.int .i64) (a1.2.2.1.length : Int)), (27, .val (.int .i64) p13)]
def X151.l4.h (a1 : T110.den) (p13 : Int) : List E := [.box [.val (.int .i64) a1.1, .val (.int .i64) a1.2.1, .val (.sl false T218) a1.2.2.1]]
def X151.l4 (N : Nat) (a1 : T110.den)  : Nat → Int → Option Bool
  | 0, _ => none
  | n + 1, p13 =>
    bif decide (p13 < (a1.2.2.1.length : Int)) then
      (if (0 : Int) ≤ p13 then Option.bind (a1.2.2.1[p13.toNat]?) fun v14 =>
      bif decide (v14.1 > a1.1) then
        some false
      else bif decide (p13 < a1.2.1) then
        bif v14.1 == 0 then
          some false
        else X151.l4 N a1 n (IntKind.i64.wrap (p13 + 1))
      else X151.l4 N a1 n (IntKind.i64.wrap (p13 + 1)) else none)
    else some true
def X151.l4.ce (N : Nat) (oc : List (Nat × (List (Nat × D) → List E → Option Bool))) : Nat → List (Nat × D) → List E → Option Bool := loopAt (c151 N) h151 N (endK (c151 N) Tryz.f151 (mvRs rs151)) [.b, .b, .a, .b, .a] b151 oc 1
theorem X151.l4.s (N n : Nat)  (a1 : T110.den) (p13 : Int) : X151.l4.ce N [] (n + 1) (X151.l4.t a1 p13) (X151.l4.h a1 p13) =
    bif decide (p13 < (a1.2.2.1.length : Int)) then
      (if (0 : Int) ≤ p13 then Option.bind (a1.2.2.1[p13.toNat]?) fun v14 =>
      bif decide (v14.1 > a1.1) then
        some false
      else bif decide (p13 < a1.2.1) then
        bif v14.1 == 0 then
          some false
        else X151.l4.ce N [] n (X151.l4.t a1 (IntKind.i64.wrap (p13 + 1))) (X151.l4.h a1 (IntKind.i64.wrap (p13 + 1)))
      else X151.l4.ce N [] n (X151.l4.t a1 (IntKind.i64.wrap (p13 + 1))) (X151.l4.h a1 (IntKind.i64.wrap (p13 + 1))) else none)
    else some true := by kernel_rfl
theorem X151.l4.e (N : Nat)  (a1 : T110.den) : ∀ (n : Nat) (p13 : Int), X151.l4.ce N [] n (X151.l4.t a1 p13) (X151.l4.h a1 p13) = X151.l4 N a1 n p13
  | 0, _ => rfl
  | n + 1, p13 => by rw [X151.l4.s, X151.l4]; (try simp only [X151.l4.e N a1 n])
def X151 (N : Nat) (a1 : T110.den) : Option Bool :=
  Option.bind (X81 N a1.1 0 1000000) fun v5 =>
  bif !v5 then
    some false
  else Option.bind (X153 N a1.2.2.1) fun v6 =>
  bif !v6 then
    some false
  else Option.bind (X81 N a1.2.1 0 (a1.2.2.1.length : Int)) fun v7 =>
  bif !v7 then
    some false
  else X151.l4 N a1 N 0
theorem X151.ev (N : Nat) (a1 : T110.den) : evF (c151 N) h151 Tryz.f151 as151 rs151 N (a1, ()) = X151 N a1 :=
  (show evF (c151 N) h151 Tryz.f151 as151 rs151 N (a1, ()) =
    Option.bind (X81 N a1.1 0 1000000) fun v5 =>
    bif !v5 then
      some false
    else Option.bind (X153 N a1.2.2.1) fun v6 =>
    bif !v6 then
      some false
    else Option.bind (X81 N a1.2.1 0 (a1.2.2.1.length : Int)) fun v7 =>
    bif !v7 then
      some false
    else X151.l4.ce N [] N (X151.l4.t a1 0) (X151.l4.h a1 0) by kernel_rfl).trans (by simp only [X151.l4.e]; try rfl)
theorem X151.p (N : Nat) : PFun Tryz.prog gl 151 as151 rs151 (fun x => X151 N x.1) :=
  PFun.ev (c := c151 N) ⟨mixed, tiok, fun f k h => (by simp only [c151] at h; split at h <;> first | (cases h; done) | (cases h; first | exact X81.p N | exact X153.p N)), fun f k h => (by cases h), eqtok, fun t n f h => (by cases h)⟩ h151 (f := 151) (fn := Tryz.f151) (b := b151) (by kernel_rfl) (by kernel_rfl) (by kernel_rfl) (by kernel_rfl) (by decide) (fun x y h => ⟨N, (X151.ev N x.1).trans h⟩)
end Go.Eng.T
end
noncomputable section
namespace Go.Eng.T
open Go.RowKit
open Go.Proofs
set_option linter.unusedVariables false
/- impl.people -/
abbrev as152 : List Sh := [.one (.sl false (.int .i64)), .one (.int .i64)]
abbrev rs152 : Rs := .one (.one .bool)
def h152 : Hint := { keep := fun | 2 => [0, 1, 7, 8, 9] | _ => [] }
def c152 (N : Nat) : Cfg := { ti := ti, gl := gl, eqt := eqt, meth := fun _ _ => none, con := fun | 81 => some ⟨as81, rs81, fun x => X81 N x.1 x.2.1 x.2.2.1⟩ | _ => none }
def b152 : Code := match Tryz.f152.body with | some b => b | none => .skip
def X152.l2.t (a1 : List Int) (a2 : Int) (p3 : Int) : List (Nat × D) := [(0, .val (.sl false (.int .i64)) a1), (1, .val (.int .i64) a2), (7, .val (.sl false (.int .i64)) a1), (8, .val (.int .i64) (a1.length : Int)), (9, .val (.int .i64) p3)]
def X152.l2.h (a1 : List Int) (a2 : Int) (p3 : Int) : List E := []
def X152.l2 (N : Nat) (a1 : List Int) (a2 : Int)  : Nat → Int → Option Bool
  | 0, _ => none
  | n + 1, p3 =>
    bif decide (p3 < (a1.length : Int)) then
      (if (0 : Int) ≤ p3 then Option.bind (a1[p3.toNat]?) fun v4 =>
      Option.bind (X81 N v4 1 a2) fun v5 =>
      bif !v5 then
        some false
      else bif decide (p3 > 0) then
        (if (0 : Int) ≤ (IntKind.i64.wrap (p3 - 1)) then Option.bind (a1[(IntKind.i64.wrap (p3 - 1)).toNat]?) fun v6 =>
        bif decide (v4 ≤ v6) then
          some false
        else X152.l2 N a1 a2 n (IntKind.i64.wrap (p3 + 1)) else none)
      else X152.l2 N a1 a2 n (IntKind.i64.wrap (p3 + 1)) else none)
    else some true
def X152.l2.ce (N : Nat) (oc : List (Nat × (List (Nat × D) → List E → Option Bool))) : Nat → List (Nat × D) → List E → Option Bool := loopAt (c152 N) h152 N (endK (c152 N) Tryz.f152 (mvRs rs152)) [.b, .a, .b, .a] b152 oc 0
theorem X152.l2.s (N n : Nat)  (a1 : List Int) (a2 : Int) (p3 : Int) : X152.l2.ce N [] (n + 1) (X152.l2.t a1 a2 p3) (X152.l2.h a1 a2 p3) =
    bif decide (p3 < (a1.length : Int)) then
      (if (0 : Int) ≤ p3 then Option.bind (a1[p3.toNat]?) fun v4 =>
      Option.bind (X81 N v4 1 a2) fun v5 =>
      bif !v5 then
        some false
      else bif decide (p3 > 0) then
        (if (0 : Int) ≤ (IntKind.i64.wrap (p3 - 1)) then Option.bind (a1[(IntKind.i64.wrap (p3 - 1)).toNat]?) fun v6 =>
        bif decide (v4 ≤ v6) then
          some false
        else X152.l2.ce N [] n (X152.l2.t a1 a2 (IntKind.i64.wrap (p3 + 1))) (X152.l2.h a1 a2 (IntKind.i64.wrap (p3 + 1))) else none)
      else X152.l2.ce N [] n (X152.l2.t a1 a2 (IntKind.i64.wrap (p3 + 1))) (X152.l2.h a1 a2 (IntKind.i64.wrap (p3 + 1))) else none)
    else some true := by kernel_rfl
theorem X152.l2.e (N : Nat)  (a1 : List Int) (a2 : Int) : ∀ (n : Nat) (p3 : Int), X152.l2.ce N [] n (X152.l2.t a1 a2 p3) (X152.l2.h a1 a2 p3) = X152.l2 N a1 a2 n p3
  | 0, _ => rfl
  | n + 1, p3 => by rw [X152.l2.s, X152.l2]; (try simp only [X152.l2.e N a1 a2 n])
def X152 (N : Nat) (a1 : List Int) (a2 : Int) : Option Bool :=
  X152.l2 N a1 a2 N 0
theorem X152.ev (N : Nat) (a1 : List Int) (a2 : Int) : evF (c152 N) h152 Tryz.f152 as152 rs152 N (a1, a2, ()) = X152 N a1 a2 :=
  (show evF (c152 N) h152 Tryz.f152 as152 rs152 N (a1, a2, ()) =
    X152.l2.ce N [] N (X152.l2.t a1 a2 0) (X152.l2.h a1 a2 0) by kernel_rfl).trans (by simp only [X152.l2.e]; try rfl)
theorem X152.p (N : Nat) : PFun Tryz.prog gl 152 as152 rs152 (fun x => X152 N x.1 x.2.1) :=
  PFun.ev (c := c152 N) ⟨mixed, tiok, fun f k h => (by simp only [c152] at h; split at h <;> first | (cases h; done) | (cases h; first | exact X81.p N)), fun f k h => (by cases h), eqtok, fun t n f h => (by cases h)⟩ h152 (f := 152) (fn := Tryz.f152) (b := b152) (by kernel_rfl) (by kernel_rfl) (by kernel_rfl) (by kernel_rfl) (by decide) (fun x y h => ⟨N, (X152.ev N x.1 x.2.1).trans h⟩)
end Go.Eng.T
end
noncomputable section
namespace Go.Eng.T
open Go.RowKit
open Go.Proofs
set_option linter.unusedVariables false
/- slices.Index[[]string,string] -/
abbrev as174 : List Sh := [.one (.sl false .str), .one .str]
abbrev rs174 : Rs := .one (.one (.int .i64))
def h174 : Hint := { keep := fun | 2 => [0, 1, 7, 8] | _ => [] }
def c174 (N : Nat) : Cfg := { ti := ti, gl := gl, eqt := eqt, meth := fun _ _ => none, con := fun _ => none }
def b174 : Code := match Tryz.f174.body with | some b => b | none => .skip
def X174.l2.t (a1 : List ByteArray) (a2 : ByteArray) (p3 : Int) : List (Nat × D) := [(0, .val (.sl false .str) a1), (1, .val .str a2), (7, .val (.int .i64) (a1.length : Int)), (8, .val (.int .i64) p3)]
def X174.l2.h (a1 : List ByteArray) (a2 : ByteArray) (p3 : Int) : List E := []
def X174.l2 (N : Nat) (a1 : List ByteArray) (a2 : ByteArray)  : Nat → Int → Option Int
  | 0, _ => none
  | n + 1, p3 =>
    bif decide (p3 < (a1.length : Int)) then
      (if (0 : Int) ≤ p3 then Option.bind (a1[p3.toNat]?) fun v4 =>
      bif a2.toList == v4.toList then
        some p3
      else X174.l2 N a1 a2 n (IntKind.i64.wrap (p3 + 1)) else none)
    else some (-1)
def X174.l2.ce (N : Nat) (oc : List (Nat × (List (Nat × D) → List E → Option Int))) : Nat → List (Nat × D) → List E → Option Int := loopAt (c174 N) h174 N (endK (c174 N) Tryz.f174 (mvRs rs174)) [.b, .a, .b, .a] b174 oc 0
theorem X174.l2.s (N n : Nat)  (a1 : List ByteArray) (a2 : ByteArray) (p3 : Int) : X174.l2.ce N [] (n + 1) (X174.l2.t a1 a2 p3) (X174.l2.h a1 a2 p3) =
    bif decide (p3 < (a1.length : Int)) then
      (if (0 : Int) ≤ p3 then Option.bind (a1[p3.toNat]?) fun v4 =>
      bif a2.toList == v4.toList then
        some p3
      else X174.l2.ce N [] n (X174.l2.t a1 a2 (IntKind.i64.wrap (p3 + 1))) (X174.l2.h a1 a2 (IntKind.i64.wrap (p3 + 1))) else none)
    else some (-1) := by kernel_rfl
theorem X174.l2.e (N : Nat)  (a1 : List ByteArray) (a2 : ByteArray) : ∀ (n : Nat) (p3 : Int), X174.l2.ce N [] n (X174.l2.t a1 a2 p3) (X174.l2.h a1 a2 p3) = X174.l2 N a1 a2 n p3
  | 0, _ => rfl
  | n + 1, p3 => by rw [X174.l2.s, X174.l2]; (try simp only [X174.l2.e N a1 a2 n])
def X174 (N : Nat) (a1 : List ByteArray) (a2 : ByteArray) : Option Int :=
  X174.l2 N a1 a2 N 0
theorem X174.ev (N : Nat) (a1 : List ByteArray) (a2 : ByteArray) : evF (c174 N) h174 Tryz.f174 as174 rs174 N (a1, a2, ()) = X174 N a1 a2 :=
  (show evF (c174 N) h174 Tryz.f174 as174 rs174 N (a1, a2, ()) =
    X174.l2.ce N [] N (X174.l2.t a1 a2 0) (X174.l2.h a1 a2 0) by kernel_rfl).trans (by simp only [X174.l2.e]; try rfl)
theorem X174.p (N : Nat) : PFun Tryz.prog gl 174 as174 rs174 (fun x => X174 N x.1 x.2.1) :=
  PFun.ev (c := c174 N) ⟨mixed, tiok, fun f k h => (by cases h), fun f k h => (by cases h), eqtok, fun t n f h => (by cases h)⟩ h174 (f := 174) (fn := Tryz.f174) (b := b174) (by kernel_rfl) (by kernel_rfl) (by kernel_rfl) (by kernel_rfl) (by decide) (fun x y h => ⟨N, (X174.ev N x.1 x.2.1).trans h⟩)
end Go.Eng.T
end
noncomputable section
namespace Go.Eng.T
open Go.RowKit
open Go.Proofs
set_option linter.unusedVariables false
/- slices.Contains[[]string,string] -/
abbrev as154 : List Sh := [.one (.sl false .str), .one .str]
abbrev rs154 : Rs := .one (.one .bool)
def h154 : Hint := {  }
def c154 (N : Nat) : Cfg := { ti := ti, gl := gl, eqt := eqt, meth := fun _ _ => none, con := fun | 174 => some ⟨as174, rs174, fun x => X174 N x.1 x.2.1⟩ | _ => none }
def b154 : Code := match Tryz.f154.body with | some b => b | none => .skip
def X154 (N : Nat) (a1 : List ByteArray) (a2 : ByteArray) : Option Bool :=
  Option.bind (X174 N a1 a2) fun v3 =>
  some (decide (v3 ≥ 0))
theorem X154.ev (N : Nat) (a1 : List ByteArray) (a2 : ByteArray) : evF (c154 N) h154 Tryz.f154 as154 rs154 N (a1, a2, ()) = X154 N a1 a2 := by kernel_rfl
theorem X154.p (N : Nat) : PFun Tryz.prog gl 154 as154 rs154 (fun x => X154 N x.1 x.2.1) :=
  PFun.ev (c := c154 N) ⟨mixed, tiok, fun f k h => (by simp only [c154] at h; split at h <;> first | (cases h; done) | (cases h; first | exact X174.p N)), fun f k h => (by cases h), eqtok, fun t n f h => (by cases h)⟩ h154 (f := 154) (fn := Tryz.f154) (b := b154) (by kernel_rfl) (by kernel_rfl) (by kernel_rfl) (by kernel_rfl) (by decide) (fun x y h => ⟨N, (X154.ev N x.1 x.2.1).trans h⟩)
end Go.Eng.T
end
noncomputable section
namespace Go.Eng.T
open Go.RowKit
open Go.Proofs
set_option linter.unusedVariables false
/- impl.RecValid -/
abbrev as122 : List Sh := [.agg T114r]
abbrev rs122 : Rs := .one (.one .bool)
def h122 : Hint := { keep := fun | 4 => [1, 66, 67, 68] | 10 => [1, 86, 87, 88] | 16 => [1, 107, 108, 109] | _ => [], join := fun | 23 => some ([1], 1) | 28 => some ([1], 1) | _ => none }
def c122 (N : Nat) : Cfg := { ti := ti, gl := gl, eqt := eqt, meth := fun _ _ => none, con := fun | 81 => some ⟨as81, rs81, fun x => X81 N x.1 x.2.1 x.2.2.1⟩ | 123 => some ⟨as123, rs123, fun x => X123 N x.1 x.2.1⟩ | 151 => some ⟨as151, rs151, fun x => X151 N x.1⟩ | 152 => some ⟨as152, rs152, fun x => X152 N x.1 x.2.1⟩ | 153 => some ⟨as153, rs153, fun x => X153 N x.1⟩ | 154 => some ⟨as154, rs154, fun x => X154 N x.1 x.2.1⟩ | _ => none }
def b122 : Code := match Tryz.f122.body with | some b => b | none => .skip
def X122.j28.t (a1 : T114.den) : List (Nat × D) := [(1, .bp 0 0)]
def X122.j28.h (a1 : T114.den) : List E := [.box [.val (.int .i64) a1.1, .val (.int .i64) a1.2.1, .val .bool a1.2.2.1, .val (.int .i64) a1.2.2.2.1.1, .val (.int .i64) a1.2.2.2.1.2.1, .val (.sl false T218) a1.2.2.2.1.2.2.1, .val (.int .i64) a1.2.2.2.2.1.1, .val (.int .i64) a1.2.2.2.2.1.2.1, .val (.sl false T218) a1.2.2.2.2.1.2.2.1, .val (.sl false T160r) a1.2.2.2.2.2.1, .val (.sl false .str) a1.2.2.2.2.2.2.1, .val .bool a1.2.2.2.2.2.2.2.1, .val .bool a1.2.2.2.2.2.2.2.2.1, .val (.int .i64) a1.2.2.2.2.2.2.2.2.2.1, .val (.sl false (.int .i64)) a1.2.2.2.2.2.2.2.2.2.2.1, .val (.sl false T218) a1.2.2.2.2.2.2.2.2.2.2.2.1, .val (.sl false T198r) a1.2.2.2.2.2.2.2.2.2.2.2.2.1, .val (.int .i64) a1.2.2.2.2.2.2.2.2.2.2.2.2.2.1]]
def X122.j23.t (a1 : T114.den) : List (Nat × D) := [(1, .bp 0 0)]
def X122.j23.h (a1 : T114.den) : List E := [.box [.val (.int .i64) a1.1, .val (.int .i64) a1.2.1, .val .bool a1.2.2.1, .val (.int .i64) a1.2.2.2.1.1, .val (.int .i64) a1.2.2.2.1.2.1, .val (.sl false T218) a1.2.2.2.1.2.2.1, .val (.int .i64) a1.2.2.2.2.1.1, .val (.int .i64) a1.2.2.2.2.1.2.1, .val (.sl false T218) a1.2.2.2.2.1.2.2.1, .val (.sl false T160r) a1.2.2.2.2.2.1, .val (.sl false .str) a1.2.2.2.2.2.2.1, .val .bool a1.2.2.2.2.2.2.2.1, .val .bool a1.2.2.2.2.2.2.2.2.1, .val (.int .i64) a1.2.2.2.2.2.2.2.2.2.1, .val (.sl false (.int .i64)) a1.2.2.2.2.2.2.2.2.2.2.1, .val (.sl false T218) a1.2.2.2.2.2.2.2.2.2.2.2.1, .val (.sl false T198r) a1.2.2.2.2.2.2.2.2.2.2.2.2.1, .val (.int .i64) a1.2.2.2.2.2.2.2.2.2.2.2.2.2.1]]
def X122.l16.t (a1 : T114.den) (p415 : Int) : List (Nat × D) := [(1, .bp 0 0), (107, .val (.sl false T198r) a1.2.2.2.2.2.2.2.2.2.2.2.2.1), (108, .val (.int .i64) (a1.2.2.2.2.2.2.2.2.2.2.2.2.1.length : Int)), (109, .val (.int .i64) p415)]
def X122.l16.h (a1 : T114.den) (p415 : Int) : List E := [.box [.val (.int .i64) a1.1, .val (.int .i64) a1.2.1, .val .bool a1.2.2.1, .val (.int .i64) a1.2.2.2.1.1, .val (.int .i64) a1.2.2.2.1.2.1, .val (.sl false T218) a1.2.2.2.1.2.2.1, .val (.int .i64) a1.2.2.2.2.1.1, .val (.int .i64) a1.2.2.2.2.1.2.1, .val (.sl false T218) a1.2.2.2.2.1.2.2.1, .val (.sl false T160r) a1.2.2.2.2.2.1, .val (.sl false .str) a1.2.2.2.2.2.2.1, .val .bool a1.2.2.2.2.2.2.2.1, .val .bool a1.2.2.2.2.2.2.2.2.1, .val (.int .i64) a1.2.2.2.2.2.2.2.2.2.1, .val (.sl false (.int .i64)) a1.2.2.2.2.2.2.2.2.2.2.1, .val (.sl false T218) a1.2.2.2.2.2.2.2.2.2.2.2.1, .val (.sl false T198r) a1.2.2.2.2.2.2.2.2.2.2.2.2.1, .val (.int .i64) a1.2.2.2.2.2.2.2.2.2.2.2.2.2.1]]
def X122.l10.t (a1 : T114.den) (p356 : Int) : List (Nat × D) := [(1, .bp 0 0), (86, .val (.sl false .str) a1.2.2.2.2.2.2.1), (87, .val (.int .i64) (a1.2.2.2.2.2.2.1.length : Int)), (88, .val (.int .i64) p356)]
def X122.l10.h (a1 : T114.den) (p356 : Int) : List E := [.box [.val (.int .i64) a1.1, .val (.int .i64) a1.2.1, .val .bool a1.2.2.1, .val (.int .i64) a1.2.2.2.1.1, .val (.int .i64) a1.2.2.2.1.2.1, .val (.sl false T218) a1.2.2.2.1.2.2.1, .val (.int .i64) a1.2.2.2.2.1.1, .val (.int .i64) a1.2.2.2.2.1.2.1, .val (.sl false T218) a1.2.2.2.2.1.2.2.1, .val (.sl false T160r) a1.2.2.2.2.2.1, .val (.sl false .str) a1.2.2.2.2.2.2.1, .val .bool a1.2.2.2.2.2.2.2.1, .val .bool a1.2.2.2.2.2.2.2.2.1, .val (.int .i64) a1.2.2.2.2.2.2.2.2.2.1, .val (.sl false (.int .i64)) a1.2.2.2.2.2.2.2.2.2.2.1, .val (.sl false T218) a1.2.2.2.2.2.2.2.2.2.2.2.1, .val (.sl false T198r) a1.2.2.2.2.2.2.2.2.2.2.2.2.1, .val (.int .i64) a1.2.2.2.2.2.2.2.2.2.2.2.2.2.1]]
def X122.l4.t (a1 : T114.den) (p241 : Int) : List (Nat × D) := [(1, .bp 0 0), (66, .val (.sl false T160r) a1.2.2.2.2.2.1), (67, .val (.int .i64) (a1.2.2.2.2.2.1.length : Int)), (68, .val (.int .i64) p241)]
def X122.l4.h (a1 : T114.den) (p241 : Int) : List E := [.box [.val (.int .i64) a1.1, .val (.int .i64) a1.2.1, .val .bool a1.2.2.1, .val (.int .i64) a1.2.2.2.1.1, .val (.int .i64) a1.2.2.2.1.2.1, .val (.sl false T218) a1.2.2.2.1.2.2.1, .val (.int .i64) a1.2.2.2.2.1.1, .val (.int .i64) a1.2.2.2.2.1.2.1, .val (.sl false T218) a1.2.2.2.2.1.2.2.1, .val (.sl false T160r) a1.2.2.2.2.2.1, .val (.sl false .str) a1.2.2.2.2.2.2.1, .val .bool a1.2.2.2.2.2.2.2.1, .val .bool a1.2.2.2.2.2.2.2.2.1, .val (.int .i64) a1.2.2.2.2.2.2.2.2.2.1, .val (.sl false (.int .i64)) a1.2.2.2.2.2.2.2.2.2.2.1, .val (.sl false T218) a1.2.2.2.2.2.2.2.2.2.2.2.1, .val (.sl false T198r) a1.2.2.2.2.2.2.2.2.2.2.2.2.1, .val (.int .i64) a1.2.2.2.2.2.2.2.2.2.2.2.2.2.1]]
def X122.j28 (N : Nat) (a1 : T114.den)   : Option Bool :=
    pass N <|
    bif a1.2.2.1 then
      some true
    else bif !a1.2.2.2.2.2.2.2.1 then
      bif !a1.2.2.2.2.2.2.2.2.1 then
        bif (IntKind.i64.wrap ((a1.2.2.2.2.2.1.length : Int) + (a1.2.2.2.2.2.2.1.length : Int))) == 0 then
          some (a1.2.2.2.2.2.2.2.2.2.2.2.2.2.1 == 0)
        else some false
      else some false
    else some false
def X122.j28.ce (N : Nat) (oc : List (Nat × (List (Nat × D) → List E → Option Bool))) : List (Nat × D) → List E → Option Bool := joinAt (c122 N) h122 N (endK (c122 N) Tryz.f122 (mvRs rs122)) [.b, .b, .b, .b, .b, .b, .b] b122 oc
theorem X122.j28.e (N : Nat)  (a1 : T114.den) : X122.j28.ce N [] (X122.j28.t a1) (X122.j28.h a1) = X122.j28 N a1 :=
  (joinAt_eq (show partAt (c122 N) h122 N (endK (c122 N) Tryz.f122 (mvRs rs122)) [.b, .b, .b, .b, .b, .b, .b] b122 [] (X122.j28.t a1) (X122.j28.h a1) =
    bif a1.2.2.1 then
      some true
    else bif !a1.2.2.2.2.2.2.2.1 then
      bif !a1.2.2.2.2.2.2.2.2.1 then
        bif (IntKind.i64.wrap ((a1.2.2.2.2.2.1.length : Int) + (a1.2.2.2.2.2.2.1.length : Int))) == 0 then
          some (a1.2.2.2.2.2.2.2.2.2.2.2.2.2.1 == 0)
        else some false
      else some false
    else some false by kernel_rfl)).trans (by rfl)
def X122.j23 (N : Nat) (a1 : T114.den)   : Option Bool :=
    pass N <|
    bif a1.2.2.2.2.2.2.2.1 then
      Option.bind (X81 N a1.2.2.2.2.2.2.2.2.2.1 1 a1.2.2.2.2.1.1) fun v422 =>
      bif !v422 then
        some false
      else bif a1.2.2.2.2.2.2.2.2.1 then
        bif decide ((a1.2.2.2.2.2.2.2.2.2.2.2.2.1.length : Int) > 0) then
          some false
        else bif a1.2.2.2.2.2.2.2.1 then
          bif decide ((IntKind.i64.wrap ((a1.2.2.2.2.2.2.2.2.2.2.1.length : Int) + (a1.2.2.2.2.2.2.2.2.2.2.2.1.length : Int))) > 0) then
            some false
          else X122.j28 N a1
        else X122.j28 N a1
      else bif a1.2.2.2.2.2.2.2.1 then
        bif decide ((IntKind.i64.wrap ((a1.2.2.2.2.2.2.2.2.2.2.1.length : Int) + (a1.2.2.2.2.2.2.2.2.2.2.2.1.length : Int))) > 0) then
          some false
        else X122.j28 N a1
      else X122.j28 N a1
    else bif a1.2.2.2.2.2.2.2.2.1 then
      Option.bind (X81 N a1.2.2.2.2.2.2.2.2.2.1 1 a1.2.2.2.2.1.1) fun v423 =>
      bif !v423 then
        some false
      else bif a1.2.2.2.2.2.2.2.2.1 then
        bif decide ((a1.2.2.2.2.2.2.2.2.2.2.2.2.1.length : Int) > 0) then
          some false
        else bif a1.2.2.2.2.2.2.2.1 then
          bif decide ((IntKind.i64.wrap ((a1.2.2.2.2.2.2.2.2.2.2.1.length : Int) + (a1.2.2.2.2.2.2.2.2.2.2.2.1.length : Int))) > 0) then
            some false
          else X122.j28 N a1
        else X122.j28 N a1
      else bif a1.2.2.2.2.2.2.2.1 then
        bif decide ((IntKind.i64.wrap ((a1.2.2.2.2.2.2.2.2.2.2.1.length : Int) + (a1.2.2.2.2.2.2.2.2.2.2.2.1.length : Int))) > 0) then
          some false
        else X122.j28 N a1
      else X122.j28 N a1
    else bif a1.2.2.2.2.2.2.2.2.2.1 != 0 then
      some false
    else bif decide ((IntKind.i64.wrap ((IntKind.i64.wrap ((a1.2.2.2.2.2.2.2.2.2.2.1.length : Int) + (a1.2.2.2.2.2.2.2.2.2.2.2.1.length : Int))) + (a1.2.2.2.2.2.2.2.2.2.2.2.2.1.length : Int))) > 0) then
      some false
    else X122.j28 N a1
def X122.j23.ce (N : Nat) (oc : List (Nat × (List (Nat × D) → List E → Option Bool))) : List (Nat × D) → List E → Option Bool := joinAt (c122 N) h122 N (endK (c122 N) Tryz.f122 (mvRs rs122)) [.b, .b, .b, .b, .b, .b] b122 oc
theorem X122.j23.e (N : Nat)  (a1 : T114.den) : X122.j23.ce N [] (X122.j23.t a1) (X122.j23.h a1) = X122.j23 N a1 :=
  (joinAt_eq (show partAt (c122 N) h122 N (endK (c122 N) Tryz.f122 (mvRs rs122)) [.b, .b, .b, .b, .b, .b] b122 [] (X122.j23.t a1) (X122.j23.h a1) =
    bif a1.2.2.2.2.2.2.2.1 then
      Option.bind (X81 N a1.2.2.2.2.2.2.2.2.2.1 1 a1.2.2.2.2.1.1) fun v422 =>
      bif !v422 then
        some false
      else bif a1.2.2.2.2.2.2.2.2.1 then
        bif decide ((a1.2.2.2.2.2.2.2.2.2.2.2.2.1.length : Int) > 0) then
          some false
        else bif a1.2.2.2.2.2.2.2.1 then
          bif decide ((IntKind.i64.wrap ((a1.2.2.2.2.2.2.2.2.2.2.1.length : Int) + (a1.2.2.2.2.2.2.2.2.2.2.2.1.length : Int))) > 0) then
            some false
          else X122.j28.ce N [] (X122.j28.t a1) (X122.j28.h a1)
        else X122.j28.ce N [] (X122.j28.t a1) (X122.j28.h a1)
      else bif a1.2.2.2.2.2.2.2.1 then
        bif decide ((IntKind.i64.wrap ((a1.2.2.2.2.2.2.2.2.2.2.1.length : Int) + (a1.2.2.2.2.2.2.2.2.2.2.2.1.length : Int))) > 0) then
          some false
        else X122.j28.ce N [] (X122.j28.t a1) (X122.j28.h a1)
      else X122.j28.ce N [] (X122.j28.t a1) (X122.j28.h a1)
    else bif a1.2.2.2.2.2.2.2.2.1 then
      Option.bind (X81 N a1.2.2.2.2.2.2.2.2.2.1 1 a1.2.2.2.2.1.1) fun v423 =>
      bif !v423 then
        some false
      else bif a1.2.2.2.2.2.2.2.2.1 then
        bif decide ((a1.2.2.2.2.2.2.2.2.2.2.2.2.1.length : Int) > 0) then
          some false
        else bif a1.2.2.2.2.2.2.2.1 then
          bif decide ((IntKind.i64.wrap ((a1.2.2.2.2.2.2.2.2.2.2.1.length : Int) + (a1.2.2.2.2.2.2.2.2.2.2.2.1.length : Int))) > 0) then
            some false
          else X122.j28.ce N [] (X122.j28.t a1) (X122.j28.h a1)
        else X122.j28.ce N [] (X122.j28.t a1) (X122.j28.h a1)
      else bif a1.2.2.2.2.2.2.2.1 then
        bif decide ((IntKind.i64.wrap ((a1.2.2.2.2.2.2.2.2.2.2.1.length : Int) + (a1.2.2.2.2.2.2.2.2.2.2.2.1.length : Int))) > 0) then
          some false
        else X122.j28.ce N [] (X122.j28.t a1) (X122.j28.h a1)
      else X122.j28.ce N [] (X122.j28.t a1) (X122.j28.h a1)
    else bif a1.2.2.2.2.2.2.2.2.2.1 != 0 then
      some false
    else bif decide ((IntKind.i64.wrap ((IntKind.i64.wrap ((a1.2.2.2.2.2.2.2.2.2.2.1.length : Int) + (a1.2.2.2.2.2.2.2.2.2.2.2.1.length : Int))) + (a1.2.2.2.2.2.2.2.2.2.2.2.2.1.length : Int))) > 0) then
      some false
    else X122.j28.ce N [] (X122.j28.t a1) (X122.j28.h a1) by kernel_rfl)).trans (by rw [X122.j23]; simp only [X122.j28.e, X122.j28.e, X122.j28.e, X122.j28.e, X122.j28.e, X122.j28.e, X122.j28.e, X122.j28.e, X122.j28.e])
def X122.l16 (N : Nat) (a1 : T114.den)  : Nat → Int → Option Bool
  | 0, _ => none
  | n + 1, p415 =>
    bif decide (p415 < (a1.2.2.2.2.2.2.2.2.2.2.2.2.1.length : Int)) then
      (if (0 : Int) ≤ p415 then Option.bind (a1.2.2.2.2.2.2.2.2.2.2.2.2.1[p415.toNat]?) fun v416 =>
      Option.bind (X81 N v416.1 1 120) fun v417 =>
      bif !v417 then
        some false
      else Option.bind (X152 N v416.2.1 a1.2.1) fun v418 =>
      bif !v418 then
        some false
      else bif decide (p415 > 0) then
        (if (0 : Int) ≤ (IntKind.i64.wrap (p415 - 1)) then Option.bind (a1.2.2.2.2.2.2.2.2.2.2.2.2.1[(IntKind.i64.wrap (p415 - 1)).toNat]?) fun v419 =>
        bif decide (v416.1 ≤ v419.1) then
          some false
        else X122.l16 N a1 n (IntKind.i64.wrap (p415 + 1)) else none)
      else X122.l16 N a1 n (IntKind.i64.wrap (p415 + 1)) else none)
    else bif a1.2.2.2.2.2.2.2.1 then
      bif a1.2.2.2.2.2.2.2.2.1 then
        some false
      else X122.j23 N a1
    else X122.j23 N a1
def X122.l16.ce (N : Nat) (oc : List (Nat × (List (Nat × D) → List E → Option Bool))) : Nat → List (Nat × D) → List E → Option Bool := loopAt (c122 N) h122 N (endK (c122 N) Tryz.f122 (mvRs rs122)) [.b, .b, .b, .b, .a, .b, .a] b122 oc 1
theorem X122.l16.s (N n : Nat)  (a1 : T114.den) (p415 : Int) : X122.l16.ce N [] (n + 1) (X122.l16.t a1 p415) (X122.l16.h a1 p415) =
    bif decide (p415 < (a1.2.2.2.2.2.2.2.2.2.2.2.2.1.length : Int)) then
      (if (0 : Int) ≤ p415 then Option.bind (a1.2.2.2.2.2.2.2.2.2.2.2.2.1[p415.toNat]?) fun v416 =>
      Option.bind (X81 N v416.1 1 120) fun v417 =>
      bif !v417 then
        some false
      else Option.bind (X152 N v416.2.1 a1.2.1) fun v418 =>
      bif !v418 then
        some false
      else bif decide (p415 > 0) then
        (if (0 : Int) ≤ (IntKind.i64.wrap (p415 - 1)) then Option.bind (a1.2.2.2.2.2.2.2.2.2.2.2.2.1[(IntKind.i64.wrap (p415 - 1)).toNat]?) fun v419 =>
        bif decide (v416.1 ≤ v419.1) then
          some false
        else X122.l16.ce N [] n (X122.l16.t a1 (IntKind.i64.wrap (p415 + 1))) (X122.l16.h a1 (IntKind.i64.wrap (p415 + 1))) else none)
      else X122.l16.ce N [] n (X122.l16.t a1 (IntKind.i64.wrap (p415 + 1))) (X122.l16.h a1 (IntKind.i64.wrap (p415 + 1))) else none)
    else bif a1.2.2.2.2.2.2.2.1 then
      bif a1.2.2.2.2.2.2.2.2.1 then
        some false
      else X122.j23.ce N [] (X122.j23.t a1) (X122.j23.h a1)
    else X122.j23.ce N [] (X122.j23.t a1) (X122.j23.h a1) := by kernel_rfl
theorem X122.l16.e (N : Nat)  (a1 : T114.den) : ∀ (n : Nat) (p415 : Int), X122.l16.ce N [] n (X122.l16.t a1 p415) (X122.l16.h a1 p415) = X122.l16 N a1 n p415
  | 0, _ => rfl
  | n + 1, p415 => by rw [X122.l16.s, X122.l16]; (try simp only [X122.l16.e N a1 n, X122.j23.e, X122.j23.e])
def X122.l10 (N : Nat) (a1 : T114.den)  : Nat → Int → Option Bool
  | 0, _ => none
  | n + 1, p356 =>
    bif decide (p356 < (a1.2.2.2.2.2.2.1.length : Int)) then
      (if (0 : Int) ≤ p356 then Option.bind (a1.2.2.2.2.2.2.1[p356.toNat]?) fun v357 =>
      Option.bind (X81 N (v357.size : Int) 1 160) fun v358 =>
      bif !v358 then
        some false
      else (if (0 : Int) ≤ p356 then (if p356 ≤ (a1.2.2.2.2.2.2.1.length : Int) then Option.bind (X154 N ((a1.2.2.2.2.2.2.1.drop 0).take (p356.toNat - 0)) v357) fun v359 =>
      bif v359 then
        some false
      else X122.l10 N a1 n (IntKind.i64.wrap (p356 + 1)) else none) else none) else none)
    else X122.l16 N a1 N 0
def X122.l10.ce (N : Nat) (oc : List (Nat × (List (Nat × D) → List E → Option Bool))) : Nat → List (Nat × D) → List E → Option Bool := loopAt (c122 N) h122 N (endK (c122 N) Tryz.f122 (mvRs rs122)) [.b, .b, .b, .a, .b, .a] b122 oc 1
theorem X122.l10.s (N n : Nat)  (a1 : T114.den) (p356 : Int) : X122.l10.ce N [] (n + 1) (X122.l10.t a1 p356) (X122.l10.h a1 p356) =
    bif decide (p356 < (a1.2.2.2.2.2.2.1.length : Int)) then
      (if (0 : Int) ≤ p356 then Option.bind (a1.2.2.2.2.2.2.1[p356.toNat]?) fun v357 =>
      Option.bind (X81 N (v357.size : Int) 1 160) fun v358 =>
      bif !v358 then
        some false
      else (if (0 : Int) ≤ p356 then (if p356 ≤ (a1.2.2.2.2.2.2.1.length : Int) then Option.bind (X154 N ((a1.2.2.2.2.2.2.1.drop 0).take (p356.toNat - 0)) v357) fun v359 =>
      bif v359 then
        some false
      else X122.l10.ce N [] n (X122.l10.t a1 (IntKind.i64.wrap (p356 + 1))) (X122.l10.h a1 (IntKind.i64.wrap (p356 + 1))) else none) else none) else none)
    else X122.l16.ce N [] N (X122.l16.t a1 0) (X122.l16.h a1 0) := by kernel_rfl
theorem X122.l10.e (N : Nat)  (a1 : T114.den) : ∀ (n : Nat) (p356 : Int), X122.l10.ce N [] n (X122.l10.t a1 p356) (X122.l10.h a1 p356) = X122.l10 N a1 n p356
  | 0, _ => rfl
  | n + 1, p356 => by rw [X122.l10.s, X122.l10]; (try simp only [X122.l10.e N a1 n, X122.l16.e])
def X122.l4 (N : Nat) (a1 : T114.den)  : Nat → Int → Option Bool
  | 0, _ => none
  | n + 1, p241 =>
    bif decide (p241 < (a1.2.2.2.2.2.1.length : Int)) then
      (if (0 : Int) ≤ p241 then Option.bind (a1.2.2.2.2.2.1[p241.toNat]?) fun v242 =>
      Option.bind (X123 N v242 a1.2.1) fun v243 =>
      bif !v243 then
        some false
      else bif v242.2.1 != a1.1 then
        some false
      else X122.l4 N a1 n (IntKind.i64.wrap (p241 + 1)) else none)
    else X122.l10 N a1 N 0
def X122.l4.ce (N : Nat) (oc : List (Nat × (List (Nat × D) → List E → Option Bool))) : Nat → List (Nat × D) → List E → Option Bool := loopAt (c122 N) h122 N (endK (c122 N) Tryz.f122 (mvRs rs122)) [.b, .b, .a, .b, .a] b122 oc 1
theorem X122.l4.s (N n : Nat)  (a1 : T114.den) (p241 : Int) : X122.l4.ce N [] (n + 1) (X122.l4.t a1 p241) (X122.l4.h a1 p241) =
    bif decide (p241 < (a1.2.2.2.2.2.1.length : Int)) then
      (if (0 : Int) ≤ p241 then Option.bind (a1.2.2.2.2.2.1[p241.toNat]?) fun v242 =>
      Option.bind (X123 N v242 a1.2.1) fun v243 =>
      bif !v243 then
        some false
      else bif v242.2.1 != a1.1 then
        some false
      else X122.l4.ce N [] n (X122.l4.t a1 (IntKind.i64.wrap (p241 + 1))) (X122.l4.h a1 (IntKind.i64.wrap (p241 + 1))) else none)
    else X122.l10.ce N [] N (X122.l10.t a1 0) (X122.l10.h a1 0) := by kernel_rfl
theorem X122.l4.e (N : Nat)  (a1 : T114.den) : ∀ (n : Nat) (p241 : Int), X122.l4.ce N [] n (X122.l4.t a1 p241) (X122.l4.h a1 p241) = X122.l4 N a1 n p241
  | 0, _ => rfl
  | n + 1, p241 => by rw [X122.l4.s, X122.l4]; (try simp only [X122.l4.e N a1 n, X122.l10.e])
def X122 (N : Nat) (a1 : T114.den) : Option Bool :=
  Option.bind (X81 N a1.2.1 1 5) fun v9 =>
  bif !v9 then
    some false
  else Option.bind (X81 N a1.1 1 a1.2.1) fun v10 =>
  bif !v10 then
    some false
  else Option.bind (X151 N a1.2.2.2.1) fun v11 =>
  bif !v11 then
    some false
  else Option.bind (X151 N a1.2.2.2.2.1) fun v12 =>
  bif !v12 then
    some false
  else bif decide ((a1.2.2.2.2.2.1.length : Int) > 400) then
    some false
  else bif decide ((a1.2.2.2.2.2.2.1.length : Int) > 20) then
    some false
  else Option.bind (X81 N a1.2.2.2.2.2.2.2.2.2.2.2.2.2.1 0 1000000) fun v13 =>
  bif !v13 then
    some false
  else Option.bind (X152 N a1.2.2.2.2.2.2.2.2.2.2.1 a1.2.1) fun v14 =>
  bif !v14 then
    some false
  else Option.bind (X153 N a1.2.2.2.2.2.2.2.2.2.2.2.1) fun v15 =>
  bif !v15 then
    some false
  else X122.l4 N a1 N 0
theorem X122.ev (N : Nat) (a1 : T114.den) : evF (c122 N) h122 Tryz.f122 as122 rs122 N (a1, ()) = X122 N a1 :=
  (show evF (c122 N) h122 Tryz.f122 as122 rs122 N (a1, ()) =
    Option.bind (X81 N a1.2.1 1 5) fun v9 =>
    bif !v9 then
      some false
    else Option.bind (X81 N a1.1 1 a1.2.1) fun v10 =>
    bif !v10 then
      some false
    else Option.bind (X151 N a1.2.2.2.1) fun v11 =>
    bif !v11 then
      some false
    else Option.bind (X151 N a1.2.2.2.2.1) fun v12 =>
    bif !v12 then
      some false
    else bif decide ((a1.2.2.2.2.2.1.length : Int) > 400) then
      some false
    else bif decide ((a1.2.2.2.2.2.2.1.length : Int) > 20) then
      some false
    else Option.bind (X81 N a1.2.2.2.2.2.2.2.2.2.2.2.2.2.1 0 1000000) fun v13 =>
    bif !v13 then
      some false
    else Option.bind (X152 N a1.2.2.2.2.2.2.2.2.2.2.1 a1.2.1) fun v14 =>
    bif !v14 then
      some false
    else Option.bind (X153 N a1.2.2.2.2.2.2.2.2.2.2.2.1) fun v15 =>
    bif !v15 then
      some false
    else X122.l4.ce N [] N (X122.l4.t a1 0) (X122.l4.h a1 0) by kernel_rfl).trans (by simp only [X122.l4.e]; try rfl)
theorem X122.p (N : Nat) : PFun Tryz.prog gl 122 as122 rs122 (fun x => X122 N x.1) :=
  PFun.ev (c := c122 N) ⟨mixed, tiok, fun f k h => (by simp only [c122] at h; split at h <;> first | (cases h; done) | (cases h; first | exact X81.p N | exact X123.p N | exact X151.p N | exact X152.p N | exact X153.p N | exact X154.p N)), fun f k h => (by cases h), eqtok, fun t n f h => (by cases h)⟩ h122 (f := 122) (fn := Tryz.f122) (b := b122) (by kernel_rfl) (by kernel_rfl) (by kernel_rfl) (by kernel_rfl) (by decide) (fun x y h => ⟨N, (X122.ev N x.1).trans h⟩)
end Go.Eng.T
end
noncomputable section
namespace Go.Eng.T
open Go.RowKit
open Go.Proofs
set_option linter.unusedVariables false
/- impl.RecWorldOk -/
abbrev as86 : List Sh := [.agg T37r]
abbrev rs86 : Rs := .one (.one .bool)
def h86 : Hint := { keep := fun | 5 => [1, 3, 23, 24, 25] | 11 => [1, 3, 48, 49, 50] | 17 => [1, 60, 61, 62] | _ => [] }
def c86 (N : Nat) : Cfg := { ti := ti, gl := gl, eqt := eqt, meth := fun _ _ => none, con := fun | 81 => some ⟨as81, rs81, fun x => X81 N x.1 x.2.1 x.2.2.1⟩ | 122 => some ⟨as122, rs122, fun x => X122 N x.1⟩ | 123 => some ⟨as123, rs123, fun x => X123 N x.1 x.2.1⟩ | _ => none }
def b86 : Code := match Tryz.f86.body with | some b => b | none => .skip
def X86.l17.t (a1 : T37.den) (p98 : Int) : List (Nat × D) := [(1, .bp 0 0), (60, .val (.sl false T218) a1.2.2.1), (61, .val (.int .i64) (a1.2.2.1.length : Int)), (62, .val (.int .i64) p98)]
def X86.l17.h (a1 : T37.den) (p98 : Int) : List E := [.box [.val (.sl false T114r) a1.1, .val (.sl false T160r) a1.2.1, .val (.sl false T218) a1.2.2.1]]
def X86.l11.t (a1 : T37.den) (p88 : Int) : List (Nat × D) := [(1, .bp 0 0), (3, .val (.int .i64) (a1.1.length : Int)), (48, .val (.sl false T160r) a1.2.1), (49, .val (.int .i64) (a1.2.1.length : Int)), (50, .val (.int .i64) p88)]
def X86.l11.h (a1 : T37.den) (p88 : Int) : List E := [.box [.val (.sl false T114r) a1.1, .val (.sl false T160r) a1.2.1, .val (.sl false T218) a1.2.2.1]]
def X86.l5.t (a1 : T37.den) (p59 : Int) : List (Nat × D) := [(1, .bp 0 0), (3, .val (.int .i64) (a1.1.length : Int)), (23, .val (.sl false T114r) a1.1), (24, .val (.int .i64) (a1.1.length : Int)), (25, .val (.int .i64) p59)]
def X86.l5.h (a1 : T37.den) (p59 : Int) : List E := [.box [.val (.sl false T114r) a1.1, .val (.sl false T160r) a1.2.1, .val (.sl false T218) a1.2.2.1]]
def X86.l17 (N : Nat) (a1 : T37.den)  : Nat → Int → Option Bool
  | 0, _ => none
  | n + 1, p98 =>
    bif decide (p98 < (a1.2.2.1.length : Int)) then
      (if (0 : Int) ≤ p98 then Option.bind (a1.2.2.1[p98.toNat]?) fun v99 =>
      Option.bind (X81 N v99.1 1 120) fun v100 =>
      bif !v100 then
        some false
      else bif decide ((v99.2.1.size : Int) > 160) then
        some false
      else bif decide (p98 > 0) then
        (if (0 : Int) ≤ (IntKind.i64.wrap (p98 - 1)) then Option.bind (a1.2.2.1[(IntKind.i64.wrap (p98 - 1)).toNat]?) fun v101 =>
        bif decide (v99.1 ≤ v101.1) then
          some false
        else X86.l17 N a1 n (IntKind.i64.wrap (p98 + 1)) else none)
      else X86.l17 N a1 n (IntKind.i64.wrap (p98 + 1)) else none)
    else some true
def X86.l17.ce (N : Nat) (oc : List (Nat × (List (Nat × D) → List E → Option Bool))) : Nat → List (Nat × D) → List E → Option Bool := loopAt (c86 N) h86 N (endK (c86 N) Tryz.f86 (mvRs rs86)) [.b, .b, .b, .b, .b, .a, .b, .a] b86 oc 1
theorem X86.l17.s (N n : Nat)  (a1 : T37.den) (p98 : Int) : X86.l17.ce N [] (n + 1) (X86.l17.t a1 p98) (X86.l17.h a1 p98) =
    bif decide (p98 < (a1.2.2.1.length : Int)) then
      (if (0 : Int) ≤ p98 then Option.bind (a1.2.2.1[p98.toNat]?) fun v99 =>
      Option.bind (X81 N v99.1 1 120) fun v100 =>
      bif !v100 then
        some false
      else bif decide ((v99.2.1.size : Int) > 160) then
        some false
      else bif decide (p98 > 0) then
        (if (0 : Int) ≤ (IntKind.i64.wrap (p98 - 1)) then Option.bind (a1.2.2.1[(IntKind.i64.wrap (p98 - 1)).toNat]?) fun v101 =>
        bif decide (v99.1 ≤ v101.1) then
          some false
        else X86.l17.ce N [] n (X86.l17.t a1 (IntKind.i64.wrap (p98 + 1))) (X86.l17.h a1 (IntKind.i64.wrap (p98 + 1))) else none)
      else X86.l17.ce N [] n (X86.l17.t a1 (IntKind.i64.wrap (p98 + 1))) (X86.l17.h a1 (IntKind.i64.wrap (p98 + 1))) else none)
    else some true := by kernel_rfl
theorem X86.l17.e (N : Nat)  (a1 : T37.den) : ∀ (n : Nat) (p98 : Int), X86.l17.ce N [] n (X86.l17.t a1 p98) (X86.l17.h a1 p98) = X86.l17 N a1 n p98
  | 0, _ => rfl
  | n + 1, p98 => by rw [X86.l17.s, X86.l17]; (try simp only [X86.l17.e N a1 n])
def X86.l11 (N : Nat) (a1 : T37.den)  : Nat → Int → Option Bool
  | 0, _ => none
  | n + 1, p88 =>
    bif decide (p88 < (a1.2.1.length : Int)) then
      (if (0 : Int) ≤ p88 then Option.bind (a1.2.1[p88.toNat]?) fun v89 =>
      Option.bind (X123 N v89 (a1.1.length : Int)) fun v90 =>
      bif !v90 then
        some false
      else X86.l11 N a1 n (IntKind.i64.wrap (p88 + 1)) else none)
    else X86.l17 N a1 N 0
def X86.l11.ce (N : Nat) (oc : List (Nat × (List (Nat × D) → List E → Option Bool))) : Nat → List (Nat × D) → List E → Option Bool := loopAt (c86 N) h86 N (endK (c86 N) Tryz.f86 (mvRs rs86)) [.b, .b, .b, .b, .a, .b, .a] b86 oc 1
theorem X86.l11.s (N n : Nat)  (a1 : T37.den) (p88 : Int) : X86.l11.ce N [] (n + 1) (X86.l11.t a1 p88) (X86.l11.h a1 p88) =
    bif decide (p88 < (a1.2.1.length : Int)) then
      (if (0 : Int) ≤ p88 then Option.bind (a1.2.1[p88.toNat]?) fun v89 =>
      Option.bind (X123 N v89 (a1.1.length : Int)) fun v90 =>
      bif !v90 then
        some false
      else X86.l11.ce N [] n (X86.l11.t a1 (IntKind.i64.wrap (p88 + 1))) (X86.l11.h a1 (IntKind.i64.wrap (p88 + 1))) else none)
    else X86.l17.ce N [] N (X86.l17.t a1 0) (X86.l17.h a1 0) := by kernel_rfl
theorem X86.l11.e (N : Nat)  (a1 : T37.den) : ∀ (n : Nat) (p88 : Int), X86.l11.ce N [] n (X86.l11.t a1 p88) (X86.l11.h a1 p88) = X86.l11 N a1 n p88
  | 0, _ => rfl
  | n + 1, p88 => by rw [X86.l11.s, X86.l11]; (try simp only [X86.l11.e N a1 n, X86.l17.e])
def X86.l5 (N : Nat) (a1 : T37.den)  : Nat → Int → Option Bool
  | 0, _ => none
  | n + 1, p59 =>
    bif decide (p59 < (a1.1.length : Int)) then
      (if (0 : Int) ≤ p59 then Option.bind (a1.1[p59.toNat]?) fun v60 =>
      Option.bind (X122 N v60) fun v61 =>
      bif !v61 then
        some false
      else bif v60.1 != (IntKind.i64.wrap (p59 + 1)) then
        some false
      else bif v60.2.1 != (a1.1.length : Int) then
        some false
      else X86.l5 N a1 n (IntKind.i64.wrap (p59 + 1)) else none)
    else X86.l11 N a1 N 0
def X86.l5.ce (N : Nat) (oc : List (Nat × (List (Nat × D) → List E → Option Bool))) : Nat → List (Nat × D) → List E → Option Bool := loopAt (c86 N) h86 N (endK (c86 N) Tryz.f86 (mvRs rs86)) [.b, .b, .b, .a, .b, .a] b86 oc 1
theorem X86.l5.s (N n : Nat)  (a1 : T37.den) (p59 : Int) : X86.l5.ce N [] (n + 1) (X86.l5.t a1 p59) (X86.l5.h a1 p59) =
    bif decide (p59 < (a1.1.length : Int)) then
      (if (0 : Int) ≤ p59 then Option.bind (a1.1[p59.toNat]?) fun v60 =>
      Option.bind (X122 N v60) fun v61 =>
      bif !v61 then
        some false
      else bif v60.1 != (IntKind.i64.wrap (p59 + 1)) then
        some false
      else bif v60.2.1 != (a1.1.length : Int) then
        some false
      else X86.l5.ce N [] n (X86.l5.t a1 (IntKind.i64.wrap (p59 + 1))) (X86.l5.h a1 (IntKind.i64.wrap (p59 + 1))) else none)
    else X86.l11.ce N [] N (X86.l11.t a1 0) (X86.l11.h a1 0) := by kernel_rfl
theorem X86.l5.e (N : Nat)  (a1 : T37.den) : ∀ (n : Nat) (p59 : Int), X86.l5.ce N [] n (X86.l5.t a1 p59) (X86.l5.h a1 p59) = X86.l5 N a1 n p59
  | 0, _ => rfl
  | n + 1, p59 => by rw [X86.l5.s, X86.l5]; (try simp only [X86.l5.e N a1 n, X86.l11.e])
def X86 (N : Nat) (a1 : T37.den) : Option Bool :=
  Option.bind (X81 N (a1.1.length : Int) 1 5) fun v3 =>
  bif !v3 then
    some false
  else bif decide ((a1.2.1.length : Int) > 600) then
    some false
  else X86.l5 N a1 N 0
theorem X86.ev (N : Nat) (a1 : T37.den) : evF (c86 N) h86 Tryz.f86 as86 rs86 N (a1, ()) = X86 N a1 :=
  (show evF (c86 N) h86 Tryz.f86 as86 rs86 N (a1, ()) =
    Option.bind (X81 N (a1.1.length : Int) 1 5) fun v3 =>
    bif !v3 then
      some false
    else bif decide ((a1.2.1.length : Int) > 600) then
      some false
    else X86.l5.ce N [] N (X86.l5.t a1 0) (X86.l5.h a1 0) by kernel_rfl).trans (by simp only [X86.l5.e]; try rfl)
theorem X86.p (N : Nat) : PFun Tryz.prog gl 86 as86 rs86 (fun x => X86 N x.1) :=
  PFun.ev (c := c86 N) ⟨mixed, tiok, fun f k h => (by simp only [c86] at h; split at h <;> first | (cases h; done) | (cases h; first | exact X81.p N | exact X122.p N | exact X123.p N)), fun f k h => (by cases h), eqtok, fun t n f h => (by cases h)⟩ h86 (f := 86) (fn := Tryz.f86) (b := b86) (by kernel_rfl) (by kernel_rfl) (by kernel_rfl) (by kernel_rfl) (by decide) (fun x y h => ⟨N, (X86.ev N x.1).trans h⟩)
end Go.Eng.T
end
noncomputable section
namespace Go.Eng.T
open Go.RowKit
open Go.Proofs
set_option linter.unusedVariables false
/- impl.HallWorldOk -/
abbrev as54 : List Sh := [.agg T40r]
abbrev rs54 : Rs := .one (.one .bool)
def h54 : Hint := { keep := fun | 4 => [1, 29, 30, 31] | _ => [] }
def c54 (N : Nat) : Cfg := { ti := ti, gl := gl, eqt := eqt, meth := fun _ _ => none, con := fun | 27 => some ⟨as27, rs27, fun x => X27 N x.1⟩ | 86 => some ⟨as86, rs86, fun x => X86 N x.1⟩ | _ => none }
def b54 : Code := match Tryz.f54.body with | some b => b | none => .skip
def X54.l4.t (a1 : T40.den) : List (Nat × D) := [(1, .bp 0 0), (29, .val (.sl false T120) a1.2.2.2.1), (30, .val (.int .i64) (a1.2.2.2.1.length : Int)), (31, .val (.int .i64) 0)]
def X54.l4.h (a1 : T40.den) : List E := [.box [.val (.sl false T77) a1.1.1, .val (.sl false T83r) a1.1.2.1, .val (.sl false T114r) a1.2.1.1, .val (.sl false T160r) a1.2.1.2.1, .val (.sl false T218) a1.2.1.2.2.1, .val (.int .i64) a1.2.2.1, .val (.sl false T120) a1.2.2.2.1]]
def X54.l4 (N : Nat) (a1 : T40.den)  : Nat → Option Bool
  | 0 => none
  | n + 1 =>
    bif decide ((0 : Int) < (a1.2.2.2.1.length : Int)) then
      Option.bind (a1.2.2.2.1[0]?) fun v15 =>
      none
    else some true
def X54.l4.ce (N : Nat) (oc : List (Nat × (List (Nat × D) → List E → Option Bool))) : Nat → List (Nat × D) → List E → Option Bool := loopAt (c54 N) h54 N (endK (c54 N) Tryz.f54 (mvRs rs54)) [.b, .b, .a, .b, .a] b54 oc 1
theorem X54.l4.s (N n : Nat)  (a1 : T40.den) : X54.l4.ce N [] (n + 1) (X54.l4.t a1) (X54.l4.h a1) =
    bif decide ((0 : Int) < (a1.2.2.2.1.length : Int)) then
      Option.bind (a1.2.2.2.1[0]?) fun v15 =>
      none
    else some true := by kernel_rfl
theorem X54.l4.e (N : Nat)  (a1 : T40.den) : ∀ (n : Nat), X54.l4.ce N [] n (X54.l4.t a1) (X54.l4.h a1) = X54.l4 N a1 n
  | 0 => rfl
  | n + 1 => by rw [X54.l4.s, X54.l4]; (try simp only [X54.l4.e N a1 n])
def X54 (N : Nat) (a1 : T40.den) : Option Bool :=
  Option.bind (X27 N a1.1) fun v4 =>
  bif !v4 then
    some false
  else Option.bind (X86 N a1.2.1) fun v5 =>
  bif !v5 then
    some false
  else bif decide (a1.2.2.1 < 0) then
    some false
  else bif decide ((a1.2.2.2.1.length : Int) > 12) then
    some false
  else X54.l4 N a1 N
theorem X54.ev (N : Nat) (a1 : T40.den) : evF (c54 N) h54 Tryz.f54 as54 rs54 N (a1, ()) = X54 N a1 :=
  (show evF (c54 N) h54 Tryz.f54 as54 rs54 N (a1, ()) =
    Option.bind (X27 N a1.1) fun v4 =>
    bif !v4 then
      some false
    else Option.bind (X86 N a1.2.1) fun v5 =>
    bif !v5 then
      some false
    else bif decide (a1.2.2.1 < 0) then
      some false
    else bif decide ((a1.2.2.2.1.length : Int) > 12) then
      some false
    else X54.l4.ce N [] N (X54.l4.t a1) (X54.l4.h a1) by kernel_rfl).trans (by simp only [X54.l4.e]; try rfl)
theorem X54.p (N : Nat) : PFun Tryz.prog gl 54 as54 rs54 (fun x => X54 N x.1) :=
  PFun.ev (c := c54 N) ⟨mixed, tiok, fun f k h => (by simp only [c54] at h; split at h <;> first | (cases h; done) | (cases h; first | exact X27.p N | exact X86.p N)), fun f k h => (by cases h), eqtok, fun t n f h => (by cases h)⟩ h54 (f := 54) (fn := Tryz.f54) (b := b54) (by kernel_rfl) (by kernel_rfl) (by kernel_rfl) (by kernel_rfl) (by decide) (fun x y h => ⟨N, (X54.ev N x.1).trans h⟩)
end Go.Eng.T
end
noncomputable section
namespace Go.Eng.T
open Go.RowKit
open Go.Proofs
set_option linter.unusedVariables false
/- impl.DeskOk -/
abbrev as90 : List Sh := [.agg T58]
abbrev rs90 : Rs := .one (.one .bool)
def h90 : Hint := {  }
def c90 (N : Nat) : Cfg := { ti := ti, gl := gl, eqt := eqt, meth := fun _ _ => none, con := fun | 52 => some ⟨as52, rs52, fun x => X52 N x.1⟩ | _ => none }
def b90 : Code := match Tryz.f90.body with | some b => b | none => .skip
def X90 (N : Nat) (a1 : T58.den) : Option Bool :=
  Option.bind (X52 N a1.1) fun v2 =>
  bif v2 then
    Option.bind (X52 N a1.2.1) fun v3 =>
    bif v3 then
      bif a1.2.2.1.toList == (⟨#[]⟩ : ByteArray).toList then
        some true
      else Option.bind (X52 N a1.2.2.1) fun v4 =>
      some v4
    else some false
  else some false
theorem X90.ev (N : Nat) (a1 : T58.den) : evF (c90 N) h90 Tryz.f90 as90 rs90 N (a1, ()) = X90 N a1 := by kernel_rfl
theorem X90.p (N : Nat) : PFun Tryz.prog gl 90 as90 rs90 (fun x => X90 N x.1) :=
  PFun.ev (c := c90 N) ⟨mixed, tiok, fun f k h => (by simp only [c90] at h; split at h <;> first | (cases h; done) | (cases h; first | exact X52.p N)), fun f k h => (by cases h), eqtok, fun t n f h => (by cases h)⟩ h90 (f := 90) (fn := Tryz.f90) (b := b90) (by kernel_rfl) (by kernel_rfl) (by kernel_rfl) (by kernel_rfl) (by decide) (fun x y h => ⟨N, (X90.ev N x.1).trans h⟩)
end Go.Eng.T
end
noncomputable section
namespace Go.Eng.T
open Go.RowKit
open Go.Proofs
set_option linter.unusedVariables false
/- internal/stringslite.HasPrefix -/
abbrev as127 : List Sh := [.one .str, .one .str]
abbrev rs127 : Rs := .one (.one .bool)
def h127 : Hint := {  }
def c127 (N : Nat) : Cfg := { ti := ti, gl := gl, eqt := eqt, meth := fun _ _ => none, con := fun _ => none }
def b127 : Code := match Tryz.f127.body with | some b => b | none => .skip
def X127 (N : Nat) (a1 : ByteArray) (a2 : ByteArray) : Option Bool :=
  bif decide ((a1.size : Int) ≥ (a2.size : Int)) then
    (if (0 : Int) ≤ (a2.size : Int) then (if (a2.size : Int) ≤ (a1.size : Int) then some ((a1.extract 0 (a2.size : Int).toNat).toList == a2.toList) else none) else none)
  else some false
theorem X127.ev (N : Nat) (a1 : ByteArray) (a2 : ByteArray) : evF (c127 N) h127 Tryz.f127 as127 rs127 N (a1, a2, ()) = X127 N a1 a2 := by kernel_rfl
theorem X127.p (N : Nat) : PFun Tryz.prog gl 127 as127 rs127 (fun x => X127 N x.1 x.2.1) :=
  PFun.ev (c := c127 N) ⟨mixed, tiok, fun f k h => (by cases h), fun f k h => (by cases h), eqtok, fun t n f h => (by cases h)⟩ h127 (f := 127) (fn := Tryz.f127) (b := b127) (by kernel_rfl) (by kernel_rfl) (by kernel_rfl) (by kernel_rfl) (by decide) (fun x y h => ⟨N, (X127.ev N x.1 x.2.1).trans h⟩)
end Go.Eng.T
end
