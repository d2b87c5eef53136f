/- Part of the proof: functions that the law reaches, each with the typed function that it computes. -/
import Derived.Test.YtadefgfohmkheaaGreatDoorP1
import Derived.Test.YtadefgfohmkheaaGreatDoorP2
noncomputable section
namespace Go.Eng.T
open Go.RowKit
open Go.Proofs
set_option linter.unusedVariables false
/- spec.RecValid -/
abbrev as109 : List Sh := [.agg T114r]
abbrev rs109 : Rs := .one (.one .bool)
def h109 : Hint := { keep := fun | 4 => [1, 3] | _ => [], join := fun | 10 => some ([1], 1) | 15 => some ([1], 1) | _ => none }
def c109 (N : Nat) : Cfg := { ti := ti, gl := gl, eqt := eqt, meth := fun _ _ => none, con := fun | 71 => some ⟨as71, rs71, fun x => X71 N x.1 x.2.1 x.2.2.1⟩ | 110 => some ⟨as110, rs110, fun x => X110 N x.1 x.2.1⟩ | 140 => some ⟨as140, rs140, fun x => X140 N x.1⟩ | 141 => some ⟨as141, rs141, fun x => X141 N x.1⟩ | 142 => some ⟨as142, rs142, fun x => X142 N x.1 x.2.1⟩ | 143 => some ⟨as143, rs143, fun x => X143 N x.1⟩ | 144 => some ⟨as144, rs144, fun x => X144 N x.1 x.2.1⟩ | 145 => some ⟨as145, rs145, fun x => X145 N x.1⟩ | _ => none }
def b109 : Code := match Tryz.f109.body with | some b => b | none => .skip
def X109.j15.t (a1 : T114.den) : List (Nat × D) := [(1, .bp 0 0)]
def X109.j15.h (a1 : T114.den) : List E := [.box [.val (.int .i64) a1.1, .val (.int .i64) a1.2.1, .val .bool a1.2.2.1, .val (.int .i64) a1.2.2.2.1.1, .val (.int .i64) a1.2.2.2.1.2.1, .val (.sl false T218) a1.2.2.2.1.2.2.1, .val (.int .i64) a1.2.2.2.2.1.1, .val (.int .i64) a1.2.2.2.2.1.2.1, .val (.sl false T218) a1.2.2.2.2.1.2.2.1, .val (.sl false T160r) a1.2.2.2.2.2.1, .val (.sl false .str) a1.2.2.2.2.2.2.1, .val .bool a1.2.2.2.2.2.2.2.1, .val .bool a1.2.2.2.2.2.2.2.2.1, .val (.int .i64) a1.2.2.2.2.2.2.2.2.2.1, .val (.sl false (.int .i64)) a1.2.2.2.2.2.2.2.2.2.2.1, .val (.sl false T218) a1.2.2.2.2.2.2.2.2.2.2.2.1, .val (.sl false T198r) a1.2.2.2.2.2.2.2.2.2.2.2.2.1, .val (.int .i64) a1.2.2.2.2.2.2.2.2.2.2.2.2.2.1]]
def X109.j10.t (a1 : T114.den) : List (Nat × D) := [(1, .bp 0 0)]
def X109.j10.h (a1 : T114.den) : List E := [.box [.val (.int .i64) a1.1, .val (.int .i64) a1.2.1, .val .bool a1.2.2.1, .val (.int .i64) a1.2.2.2.1.1, .val (.int .i64) a1.2.2.2.1.2.1, .val (.sl false T218) a1.2.2.2.1.2.2.1, .val (.int .i64) a1.2.2.2.2.1.1, .val (.int .i64) a1.2.2.2.2.1.2.1, .val (.sl false T218) a1.2.2.2.2.1.2.2.1, .val (.sl false T160r) a1.2.2.2.2.2.1, .val (.sl false .str) a1.2.2.2.2.2.2.1, .val .bool a1.2.2.2.2.2.2.2.1, .val .bool a1.2.2.2.2.2.2.2.2.1, .val (.int .i64) a1.2.2.2.2.2.2.2.2.2.1, .val (.sl false (.int .i64)) a1.2.2.2.2.2.2.2.2.2.2.1, .val (.sl false T218) a1.2.2.2.2.2.2.2.2.2.2.2.1, .val (.sl false T198r) a1.2.2.2.2.2.2.2.2.2.2.2.2.1, .val (.int .i64) a1.2.2.2.2.2.2.2.2.2.2.2.2.2.1]]
def X109.l4.t (a1 : T114.den) (p75 : Int) : List (Nat × D) := [(1, .bp 0 0), (3, .val (.int .i64) p75)]
def X109.l4.h (a1 : T114.den) (p75 : Int) : List E := [.box [.val (.int .i64) a1.1, .val (.int .i64) a1.2.1, .val .bool a1.2.2.1, .val (.int .i64) a1.2.2.2.1.1, .val (.int .i64) a1.2.2.2.1.2.1, .val (.sl false T218) a1.2.2.2.1.2.2.1, .val (.int .i64) a1.2.2.2.2.1.1, .val (.int .i64) a1.2.2.2.2.1.2.1, .val (.sl false T218) a1.2.2.2.2.1.2.2.1, .val (.sl false T160r) a1.2.2.2.2.2.1, .val (.sl false .str) a1.2.2.2.2.2.2.1, .val .bool a1.2.2.2.2.2.2.2.1, .val .bool a1.2.2.2.2.2.2.2.2.1, .val (.int .i64) a1.2.2.2.2.2.2.2.2.2.1, .val (.sl false (.int .i64)) a1.2.2.2.2.2.2.2.2.2.2.1, .val (.sl false T218) a1.2.2.2.2.2.2.2.2.2.2.2.1, .val (.sl false T198r) a1.2.2.2.2.2.2.2.2.2.2.2.2.1, .val (.int .i64) a1.2.2.2.2.2.2.2.2.2.2.2.2.2.1]]
def X109.j15 (N : Nat) (a1 : T114.den)   : Option Bool :=
    pass N <|
    bif a1.2.2.1 then
      some true
    else Option.bind (X145 N a1) fun v85 =>
    bif v85 then
      some ((IntKind.i64.wrap ((IntKind.i64.wrap ((a1.2.2.2.2.2.1.length : Int) + (a1.2.2.2.2.2.2.1.length : Int))) + a1.2.2.2.2.2.2.2.2.2.2.2.2.2.1)) == 0)
    else some false
def X109.j15.ce (N : Nat) (oc : List (Nat × (List (Nat × D) → List E → Option Bool))) : List (Nat × D) → List E → Option Bool := joinAt (c109 N) h109 N (endK (c109 N) Tryz.f109 (mvRs rs109)) [.b, .b, .b, .b, .b] b109 oc
theorem X109.j15.e (N : Nat)  (a1 : T114.den) : X109.j15.ce N [] (X109.j15.t a1) (X109.j15.h a1) = X109.j15 N a1 :=
  (joinAt_eq (show partAt (c109 N) h109 N (endK (c109 N) Tryz.f109 (mvRs rs109)) [.b, .b, .b, .b, .b] b109 [] (X109.j15.t a1) (X109.j15.h a1) =
    bif a1.2.2.1 then
      some true
    else Option.bind (X145 N a1) fun v85 =>
    bif v85 then
      some ((IntKind.i64.wrap ((IntKind.i64.wrap ((a1.2.2.2.2.2.1.length : Int) + (a1.2.2.2.2.2.2.1.length : Int))) + a1.2.2.2.2.2.2.2.2.2.2.2.2.2.1)) == 0)
    else some false by kernel_rfl)).trans (by rfl)
def X109.j10 (N : Nat) (a1 : T114.den)   : Option Bool :=
    pass N <|
    bif a1.2.2.2.2.2.2.2.1 then
      Option.bind (X71 N a1.2.2.2.2.2.2.2.2.2.1 1 a1.2.2.2.2.1.1) fun v86 =>
      bif !v86 then
        some false
      else bif a1.2.2.2.2.2.2.2.2.1 then
        bif decide ((a1.2.2.2.2.2.2.2.2.2.2.2.2.1.length : Int) > 0) then
          some false
        else bif a1.2.2.2.2.2.2.2.1 then
          bif decide ((IntKind.i64.wrap ((a1.2.2.2.2.2.2.2.2.2.2.1.length : Int) + (a1.2.2.2.2.2.2.2.2.2.2.2.1.length : Int))) > 0) then
            some false
          else X109.j15 N a1
        else X109.j15 N a1
      else bif a1.2.2.2.2.2.2.2.1 then
        bif decide ((IntKind.i64.wrap ((a1.2.2.2.2.2.2.2.2.2.2.1.length : Int) + (a1.2.2.2.2.2.2.2.2.2.2.2.1.length : Int))) > 0) then
          some false
        else X109.j15 N a1
      else X109.j15 N a1
    else bif a1.2.2.2.2.2.2.2.2.1 then
      Option.bind (X71 N a1.2.2.2.2.2.2.2.2.2.1 1 a1.2.2.2.2.1.1) fun v87 =>
      bif !v87 then
        some false
      else bif a1.2.2.2.2.2.2.2.2.1 then
        bif decide ((a1.2.2.2.2.2.2.2.2.2.2.2.2.1.length : Int) > 0) then
          some false
        else bif a1.2.2.2.2.2.2.2.1 then
          bif decide ((IntKind.i64.wrap ((a1.2.2.2.2.2.2.2.2.2.2.1.length : Int) + (a1.2.2.2.2.2.2.2.2.2.2.2.1.length : Int))) > 0) then
            some false
          else X109.j15 N a1
        else X109.j15 N a1
      else bif a1.2.2.2.2.2.2.2.1 then
        bif decide ((IntKind.i64.wrap ((a1.2.2.2.2.2.2.2.2.2.2.1.length : Int) + (a1.2.2.2.2.2.2.2.2.2.2.2.1.length : Int))) > 0) then
          some false
        else X109.j15 N a1
      else X109.j15 N a1
    else Option.bind (X145 N a1) fun v88 =>
    bif !v88 then
      some false
    else X109.j15 N a1
def X109.j10.ce (N : Nat) (oc : List (Nat × (List (Nat × D) → List E → Option Bool))) : List (Nat × D) → List E → Option Bool := joinAt (c109 N) h109 N (endK (c109 N) Tryz.f109 (mvRs rs109)) [.b, .b, .b, .b] b109 oc
theorem X109.j10.e (N : Nat)  (a1 : T114.den) : X109.j10.ce N [] (X109.j10.t a1) (X109.j10.h a1) = X109.j10 N a1 :=
  (joinAt_eq (show partAt (c109 N) h109 N (endK (c109 N) Tryz.f109 (mvRs rs109)) [.b, .b, .b, .b] b109 [] (X109.j10.t a1) (X109.j10.h a1) =
    bif a1.2.2.2.2.2.2.2.1 then
      Option.bind (X71 N a1.2.2.2.2.2.2.2.2.2.1 1 a1.2.2.2.2.1.1) fun v86 =>
      bif !v86 then
        some false
      else bif a1.2.2.2.2.2.2.2.2.1 then
        bif decide ((a1.2.2.2.2.2.2.2.2.2.2.2.2.1.length : Int) > 0) then
          some false
        else bif a1.2.2.2.2.2.2.2.1 then
          bif decide ((IntKind.i64.wrap ((a1.2.2.2.2.2.2.2.2.2.2.1.length : Int) + (a1.2.2.2.2.2.2.2.2.2.2.2.1.length : Int))) > 0) then
            some false
          else X109.j15.ce N [] (X109.j15.t a1) (X109.j15.h a1)
        else X109.j15.ce N [] (X109.j15.t a1) (X109.j15.h a1)
      else bif a1.2.2.2.2.2.2.2.1 then
        bif decide ((IntKind.i64.wrap ((a1.2.2.2.2.2.2.2.2.2.2.1.length : Int) + (a1.2.2.2.2.2.2.2.2.2.2.2.1.length : Int))) > 0) then
          some false
        else X109.j15.ce N [] (X109.j15.t a1) (X109.j15.h a1)
      else X109.j15.ce N [] (X109.j15.t a1) (X109.j15.h a1)
    else bif a1.2.2.2.2.2.2.2.2.1 then
      Option.bind (X71 N a1.2.2.2.2.2.2.2.2.2.1 1 a1.2.2.2.2.1.1) fun v87 =>
      bif !v87 then
        some false
      else bif a1.2.2.2.2.2.2.2.2.1 then
        bif decide ((a1.2.2.2.2.2.2.2.2.2.2.2.2.1.length : Int) > 0) then
          some false
        else bif a1.2.2.2.2.2.2.2.1 then
          bif decide ((IntKind.i64.wrap ((a1.2.2.2.2.2.2.2.2.2.2.1.length : Int) + (a1.2.2.2.2.2.2.2.2.2.2.2.1.length : Int))) > 0) then
            some false
          else X109.j15.ce N [] (X109.j15.t a1) (X109.j15.h a1)
        else X109.j15.ce N [] (X109.j15.t a1) (X109.j15.h a1)
      else bif a1.2.2.2.2.2.2.2.1 then
        bif decide ((IntKind.i64.wrap ((a1.2.2.2.2.2.2.2.2.2.2.1.length : Int) + (a1.2.2.2.2.2.2.2.2.2.2.2.1.length : Int))) > 0) then
          some false
        else X109.j15.ce N [] (X109.j15.t a1) (X109.j15.h a1)
      else X109.j15.ce N [] (X109.j15.t a1) (X109.j15.h a1)
    else Option.bind (X145 N a1) fun v88 =>
    bif !v88 then
      some false
    else X109.j15.ce N [] (X109.j15.t a1) (X109.j15.h a1) by kernel_rfl)).trans (by rw [X109.j10]; simp only [X109.j15.e, X109.j15.e, X109.j15.e, X109.j15.e, X109.j15.e, X109.j15.e, X109.j15.e, X109.j15.e, X109.j15.e])
def X109.l4 (N : Nat) (a1 : T114.den)  : Nat → Int → Option Bool
  | 0, _ => none
  | n + 1, p75 =>
    bif decide (p75 < (a1.2.2.2.2.2.1.length : Int)) then
      (if (0 : Int) ≤ p75 then Option.bind (a1.2.2.2.2.2.1[p75.toNat]?) fun v76 =>
      Option.bind (X110 N v76 a1.2.1) fun v77 =>
      bif !v77 then
        some false
      else (if (0 : Int) ≤ p75 then Option.bind (a1.2.2.2.2.2.1[p75.toNat]?) fun v78 =>
      bif v78.2.1 != a1.1 then
        some false
      else X109.l4 N a1 n (IntKind.i64.wrap (p75 + 1)) else none) else none)
    else Option.bind (X142 N a1.2.2.2.2.2.2.2.2.2.2.1 a1.2.1) fun v89 =>
    bif !v89 then
      some false
    else Option.bind (X143 N a1.2.2.2.2.2.2.2.2.2.2.2.1) fun v90 =>
    bif !v90 then
      some false
    else Option.bind (X144 N a1.2.2.2.2.2.2.2.2.2.2.2.2.1 a1.2.1) fun v91 =>
    bif !v91 then
      some false
    else bif a1.2.2.2.2.2.2.2.1 then
      bif a1.2.2.2.2.2.2.2.2.1 then
        some false
      else X109.j10 N a1
    else X109.j10 N a1
def X109.l4.ce (N : Nat) (oc : List (Nat × (List (Nat × D) → List E → Option Bool))) : Nat → List (Nat × D) → List E → Option Bool := loopAt (c109 N) h109 N (endK (c109 N) Tryz.f109 (mvRs rs109)) [.b, .b, .a, .b, .a] b109 oc 1
theorem X109.l4.s (N n : Nat)  (a1 : T114.den) (p75 : Int) : X109.l4.ce N [] (n + 1) (X109.l4.t a1 p75) (X109.l4.h a1 p75) =
    bif decide (p75 < (a1.2.2.2.2.2.1.length : Int)) then
      (if (0 : Int) ≤ p75 then Option.bind (a1.2.2.2.2.2.1[p75.toNat]?) fun v76 =>
      Option.bind (X110 N v76 a1.2.1) fun v77 =>
      bif !v77 then
        some false
      else (if (0 : Int) ≤ p75 then Option.bind (a1.2.2.2.2.2.1[p75.toNat]?) fun v78 =>
      bif v78.2.1 != a1.1 then
        some false
      else X109.l4.ce N [] n (X109.l4.t a1 (IntKind.i64.wrap (p75 + 1))) (X109.l4.h a1 (IntKind.i64.wrap (p75 + 1))) else none) else none)
    else Option.bind (X142 N a1.2.2.2.2.2.2.2.2.2.2.1 a1.2.1) fun v89 =>
    bif !v89 then
      some false
    else Option.bind (X143 N a1.2.2.2.2.2.2.2.2.2.2.2.1) fun v90 =>
    bif !v90 then
      some false
    else Option.bind (X144 N a1.2.2.2.2.2.2.2.2.2.2.2.2.1 a1.2.1) fun v91 =>
    bif !v91 then
      some false
    else bif a1.2.2.2.2.2.2.2.1 then
      bif a1.2.2.2.2.2.2.2.2.1 then
        some false
      else X109.j10.ce N [] (X109.j10.t a1) (X109.j10.h a1)
    else X109.j10.ce N [] (X109.j10.t a1) (X109.j10.h a1) := by kernel_rfl
theorem X109.l4.e (N : Nat)  (a1 : T114.den) : ∀ (n : Nat) (p75 : Int), X109.l4.ce N [] n (X109.l4.t a1 p75) (X109.l4.h a1 p75) = X109.l4 N a1 n p75
  | 0, _ => rfl
  | n + 1, p75 => by rw [X109.l4.s, X109.l4]; (try simp only [X109.l4.e N a1 n, X109.j10.e, X109.j10.e])
def X109 (N : Nat) (a1 : T114.den) : Option Bool :=
  Option.bind (X71 N a1.2.1 1 5) fun v8 =>
  bif !v8 then
    some false
  else Option.bind (X71 N a1.1 1 a1.2.1) fun v9 =>
  bif !v9 then
    some false
  else Option.bind (X140 N a1.2.2.2.1) fun v10 =>
  bif !v10 then
    some false
  else Option.bind (X140 N a1.2.2.2.2.1) fun v11 =>
  bif !v11 then
    some false
  else bif decide ((a1.2.2.2.2.2.1.length : Int) > 400) then
    some false
  else Option.bind (X141 N a1.2.2.2.2.2.2.1) fun v12 =>
  bif !v12 then
    some false
  else Option.bind (X71 N a1.2.2.2.2.2.2.2.2.2.2.2.2.2.1 0 1000000) fun v13 =>
  bif !v13 then
    some false
  else X109.l4 N a1 N 0
theorem X109.ev (N : Nat) (a1 : T114.den) : evF (c109 N) h109 Tryz.f109 as109 rs109 N (a1, ()) = X109 N a1 :=
  (show evF (c109 N) h109 Tryz.f109 as109 rs109 N (a1, ()) =
    Option.bind (X71 N a1.2.1 1 5) fun v8 =>
    bif !v8 then
      some false
    else Option.bind (X71 N a1.1 1 a1.2.1) fun v9 =>
    bif !v9 then
      some false
    else Option.bind (X140 N a1.2.2.2.1) fun v10 =>
    bif !v10 then
      some false
    else Option.bind (X140 N a1.2.2.2.2.1) fun v11 =>
    bif !v11 then
      some false
    else bif decide ((a1.2.2.2.2.2.1.length : Int) > 400) then
      some false
    else Option.bind (X141 N a1.2.2.2.2.2.2.1) fun v12 =>
    bif !v12 then
      some false
    else Option.bind (X71 N a1.2.2.2.2.2.2.2.2.2.2.2.2.2.1 0 1000000) fun v13 =>
    bif !v13 then
      some false
    else X109.l4.ce N [] N (X109.l4.t a1 0) (X109.l4.h a1 0) by kernel_rfl).trans (by simp only [X109.l4.e]; try rfl)
theorem X109.p (N : Nat) : PFun Tryz.prog gl 109 as109 rs109 (fun x => X109 N x.1) :=
  PFun.ev (c := c109 N) ⟨mixed, tiok, fun f k h => (by simp only [c109] at h; split at h <;> first | (cases h; done) | (cases h; first | exact X71.p N | exact X110.p N | exact X140.p N | exact X141.p N | exact X142.p N | exact X143.p N | exact X144.p N | exact X145.p N)), fun f k h => (by cases h), eqtok, fun t n f h => (by cases h)⟩ h109 (f := 109) (fn := Tryz.f109) (b := b109) (by kernel_rfl) (by kernel_rfl) (by kernel_rfl) (by kernel_rfl) (by decide) (fun x y h => ⟨N, (X109.ev N x.1).trans h⟩)
end Go.Eng.T
end
noncomputable section
namespace Go.Eng.T
open Go.RowKit
open Go.Proofs
set_option linter.unusedVariables false
/- spec.RecWorldOk -/
abbrev as73 : List Sh := [.agg T37r]
abbrev rs73 : Rs := .one (.one .bool)
def h73 : Hint := { keep := fun | 5 => [1, 3, 4] | 10 => [1, 3, 5] | 15 => [1, 6] | _ => [] }
def c73 (N : Nat) : Cfg := { ti := ti, gl := gl, eqt := eqt, meth := fun _ _ => none, con := fun | 71 => some ⟨as71, rs71, fun x => X71 N x.1 x.2.1 x.2.2.1⟩ | 109 => some ⟨as109, rs109, fun x => X109 N x.1⟩ | 110 => some ⟨as110, rs110, fun x => X110 N x.1 x.2.1⟩ | _ => none }
def b73 : Code := match Tryz.f73.body with | some b => b | none => .skip
def X73.l15.t (a1 : T37.den) (p120 : Int) : List (Nat × D) := [(1, .bp 0 0), (6, .val (.int .i64) p120)]
def X73.l15.h (a1 : T37.den) (p120 : Int) : List E := [.box [.val (.sl false T114r) a1.1, .val (.sl false T160r) a1.2.1, .val (.sl false T218) a1.2.2.1]]
def X73.l10.t (a1 : T37.den) (p108 : Int) : List (Nat × D) := [(1, .bp 0 0), (3, .val (.int .i64) (a1.1.length : Int)), (5, .val (.int .i64) p108)]
def X73.l10.h (a1 : T37.den) (p108 : Int) : List E := [.box [.val (.sl false T114r) a1.1, .val (.sl false T160r) a1.2.1, .val (.sl false T218) a1.2.2.1]]
def X73.l5.t (a1 : T37.den) (p73 : Int) : List (Nat × D) := [(1, .bp 0 0), (3, .val (.int .i64) (a1.1.length : Int)), (4, .val (.int .i64) p73)]
def X73.l5.h (a1 : T37.den) (p73 : Int) : List E := [.box [.val (.sl false T114r) a1.1, .val (.sl false T160r) a1.2.1, .val (.sl false T218) a1.2.2.1]]
def X73.l15 (N : Nat) (a1 : T37.den)  : Nat → Int → Option Bool
  | 0, _ => none
  | n + 1, p120 =>
    bif decide (p120 < (a1.2.2.1.length : Int)) then
      (if (0 : Int) ≤ p120 then Option.bind (a1.2.2.1[p120.toNat]?) fun v121 =>
      Option.bind (X71 N v121.1 1 120) fun v122 =>
      bif !v122 then
        some false
      else (if (0 : Int) ≤ p120 then Option.bind (a1.2.2.1[p120.toNat]?) fun v123 =>
      bif decide ((v123.2.1.size : Int) > 160) then
        some false
      else bif decide (p120 > 0) then
        (if (0 : Int) ≤ (IntKind.i64.wrap (p120 - 1)) then Option.bind (a1.2.2.1[(IntKind.i64.wrap (p120 - 1)).toNat]?) fun v124 =>
        (if (0 : Int) ≤ p120 then Option.bind (a1.2.2.1[p120.toNat]?) fun v125 =>
        bif decide (v124.1 ≥ v125.1) then
          some false
        else X73.l15 N a1 n (IntKind.i64.wrap (p120 + 1)) else none) else none)
      else X73.l15 N a1 n (IntKind.i64.wrap (p120 + 1)) else none) else none)
    else some true
def X73.l15.ce (N : Nat) (oc : List (Nat × (List (Nat × D) → List E → Option Bool))) : Nat → List (Nat × D) → List E → Option Bool := loopAt (c73 N) h73 N (endK (c73 N) Tryz.f73 (mvRs rs73)) [.b, .b, .b, .b, .b, .a, .b, .a] b73 oc 1
theorem X73.l15.s (N n : Nat)  (a1 : T37.den) (p120 : Int) : X73.l15.ce N [] (n + 1) (X73.l15.t a1 p120) (X73.l15.h a1 p120) =
    bif decide (p120 < (a1.2.2.1.length : Int)) then
      (if (0 : Int) ≤ p120 then Option.bind (a1.2.2.1[p120.toNat]?) fun v121 =>
      Option.bind (X71 N v121.1 1 120) fun v122 =>
      bif !v122 then
        some false
      else (if (0 : Int) ≤ p120 then Option.bind (a1.2.2.1[p120.toNat]?) fun v123 =>
      bif decide ((v123.2.1.size : Int) > 160) then
        some false
      else bif decide (p120 > 0) then
        (if (0 : Int) ≤ (IntKind.i64.wrap (p120 - 1)) then Option.bind (a1.2.2.1[(IntKind.i64.wrap (p120 - 1)).toNat]?) fun v124 =>
        (if (0 : Int) ≤ p120 then Option.bind (a1.2.2.1[p120.toNat]?) fun v125 =>
        bif decide (v124.1 ≥ v125.1) then
          some false
        else X73.l15.ce N [] n (X73.l15.t a1 (IntKind.i64.wrap (p120 + 1))) (X73.l15.h a1 (IntKind.i64.wrap (p120 + 1))) else none) else none)
      else X73.l15.ce N [] n (X73.l15.t a1 (IntKind.i64.wrap (p120 + 1))) (X73.l15.h a1 (IntKind.i64.wrap (p120 + 1))) else none) else none)
    else some true := by kernel_rfl
theorem X73.l15.e (N : Nat)  (a1 : T37.den) : ∀ (n : Nat) (p120 : Int), X73.l15.ce N [] n (X73.l15.t a1 p120) (X73.l15.h a1 p120) = X73.l15 N a1 n p120
  | 0, _ => rfl
  | n + 1, p120 => by rw [X73.l15.s, X73.l15]; (try simp only [X73.l15.e N a1 n])
def X73.l10 (N : Nat) (a1 : T37.den)  : Nat → Int → Option Bool
  | 0, _ => none
  | n + 1, p108 =>
    bif decide (p108 < (a1.2.1.length : Int)) then
      (if (0 : Int) ≤ p108 then Option.bind (a1.2.1[p108.toNat]?) fun v109 =>
      Option.bind (X110 N v109 (a1.1.length : Int)) fun v110 =>
      bif !v110 then
        some false
      else X73.l10 N a1 n (IntKind.i64.wrap (p108 + 1)) else none)
    else X73.l15 N a1 N 0
def X73.l10.ce (N : Nat) (oc : List (Nat × (List (Nat × D) → List E → Option Bool))) : Nat → List (Nat × D) → List E → Option Bool := loopAt (c73 N) h73 N (endK (c73 N) Tryz.f73 (mvRs rs73)) [.b, .b, .b, .b, .a, .b, .a] b73 oc 1
theorem X73.l10.s (N n : Nat)  (a1 : T37.den) (p108 : Int) : X73.l10.ce N [] (n + 1) (X73.l10.t a1 p108) (X73.l10.h a1 p108) =
    bif decide (p108 < (a1.2.1.length : Int)) then
      (if (0 : Int) ≤ p108 then Option.bind (a1.2.1[p108.toNat]?) fun v109 =>
      Option.bind (X110 N v109 (a1.1.length : Int)) fun v110 =>
      bif !v110 then
        some false
      else X73.l10.ce N [] n (X73.l10.t a1 (IntKind.i64.wrap (p108 + 1))) (X73.l10.h a1 (IntKind.i64.wrap (p108 + 1))) else none)
    else X73.l15.ce N [] N (X73.l15.t a1 0) (X73.l15.h a1 0) := by kernel_rfl
theorem X73.l10.e (N : Nat)  (a1 : T37.den) : ∀ (n : Nat) (p108 : Int), X73.l10.ce N [] n (X73.l10.t a1 p108) (X73.l10.h a1 p108) = X73.l10 N a1 n p108
  | 0, _ => rfl
  | n + 1, p108 => by rw [X73.l10.s, X73.l10]; (try simp only [X73.l10.e N a1 n, X73.l15.e])
def X73.l5 (N : Nat) (a1 : T37.den)  : Nat → Int → Option Bool
  | 0, _ => none
  | n + 1, p73 =>
    bif decide (p73 < (a1.1.length : Int)) then
      (if (0 : Int) ≤ p73 then Option.bind (a1.1[p73.toNat]?) fun v74 =>
      Option.bind (X109 N v74) fun v75 =>
      bif !v75 then
        some false
      else (if (0 : Int) ≤ p73 then Option.bind (a1.1[p73.toNat]?) fun v76 =>
      bif v76.1 != (IntKind.i64.wrap (p73 + 1)) then
        some false
      else (if (0 : Int) ≤ p73 then Option.bind (a1.1[p73.toNat]?) fun v77 =>
      bif v77.2.1 != (a1.1.length : Int) then
        some false
      else X73.l5 N a1 n (IntKind.i64.wrap (p73 + 1)) else none) else none) else none)
    else X73.l10 N a1 N 0
def X73.l5.ce (N : Nat) (oc : List (Nat × (List (Nat × D) → List E → Option Bool))) : Nat → List (Nat × D) → List E → Option Bool := loopAt (c73 N) h73 N (endK (c73 N) Tryz.f73 (mvRs rs73)) [.b, .b, .b, .a, .b, .a] b73 oc 1
theorem X73.l5.s (N n : Nat)  (a1 : T37.den) (p73 : Int) : X73.l5.ce N [] (n + 1) (X73.l5.t a1 p73) (X73.l5.h a1 p73) =
    bif decide (p73 < (a1.1.length : Int)) then
      (if (0 : Int) ≤ p73 then Option.bind (a1.1[p73.toNat]?) fun v74 =>
      Option.bind (X109 N v74) fun v75 =>
      bif !v75 then
        some false
      else (if (0 : Int) ≤ p73 then Option.bind (a1.1[p73.toNat]?) fun v76 =>
      bif v76.1 != (IntKind.i64.wrap (p73 + 1)) then
        some false
      else (if (0 : Int) ≤ p73 then Option.bind (a1.1[p73.toNat]?) fun v77 =>
      bif v77.2.1 != (a1.1.length : Int) then
        some false
      else X73.l5.ce N [] n (X73.l5.t a1 (IntKind.i64.wrap (p73 + 1))) (X73.l5.h a1 (IntKind.i64.wrap (p73 + 1))) else none) else none) else none)
    else X73.l10.ce N [] N (X73.l10.t a1 0) (X73.l10.h a1 0) := by kernel_rfl
theorem X73.l5.e (N : Nat)  (a1 : T37.den) : ∀ (n : Nat) (p73 : Int), X73.l5.ce N [] n (X73.l5.t a1 p73) (X73.l5.h a1 p73) = X73.l5 N a1 n p73
  | 0, _ => rfl
  | n + 1, p73 => by rw [X73.l5.s, X73.l5]; (try simp only [X73.l5.e N a1 n, X73.l10.e])
def X73 (N : Nat) (a1 : T37.den) : Option Bool :=
  Option.bind (X71 N (a1.1.length : Int) 1 5) fun v3 =>
  bif !v3 then
    some false
  else bif decide ((a1.2.1.length : Int) > 600) then
    some false
  else X73.l5 N a1 N 0
theorem X73.ev (N : Nat) (a1 : T37.den) : evF (c73 N) h73 Tryz.f73 as73 rs73 N (a1, ()) = X73 N a1 :=
  (show evF (c73 N) h73 Tryz.f73 as73 rs73 N (a1, ()) =
    Option.bind (X71 N (a1.1.length : Int) 1 5) fun v3 =>
    bif !v3 then
      some false
    else bif decide ((a1.2.1.length : Int) > 600) then
      some false
    else X73.l5.ce N [] N (X73.l5.t a1 0) (X73.l5.h a1 0) by kernel_rfl).trans (by simp only [X73.l5.e]; try rfl)
theorem X73.p (N : Nat) : PFun Tryz.prog gl 73 as73 rs73 (fun x => X73 N x.1) :=
  PFun.ev (c := c73 N) ⟨mixed, tiok, fun f k h => (by simp only [c73] at h; split at h <;> first | (cases h; done) | (cases h; first | exact X71.p N | exact X109.p N | exact X110.p N)), fun f k h => (by cases h), eqtok, fun t n f h => (by cases h)⟩ h73 (f := 73) (fn := Tryz.f73) (b := b73) (by kernel_rfl) (by kernel_rfl) (by kernel_rfl) (by kernel_rfl) (by decide) (fun x y h => ⟨N, (X73.ev N x.1).trans h⟩)
end Go.Eng.T
end
noncomputable section
namespace Go.Eng.T
open Go.RowKit
open Go.Proofs
set_option linter.unusedVariables false
/- spec.HallWorldOk -/
abbrev as45 : List Sh := [.agg T40r]
abbrev rs45 : Rs := .one (.one .bool)
def h45 : Hint := { keep := fun | 4 => [1, 3] | _ => [] }
def c45 (N : Nat) : Cfg := { ti := ti, gl := gl, eqt := eqt, meth := fun _ _ => none, con := fun | 41 => some ⟨as41, rs41, fun x => X41 N x.1⟩ | 73 => some ⟨as73, rs73, fun x => X73 N x.1⟩ | _ => none }
def b45 : Code := match Tryz.f45.body with | some b => b | none => .skip
def X45.l4.t (a1 : T40.den) : List (Nat × D) := [(1, .bp 0 0), (3, .val (.int .i64) 0)]
def X45.l4.h (a1 : T40.den) : List E := [.box [.val (.sl false T77) a1.1.1, .val (.sl false T83r) a1.1.2.1, .val (.sl false T114r) a1.2.1.1, .val (.sl false T160r) a1.2.1.2.1, .val (.sl false T218) a1.2.1.2.2.1, .val (.int .i64) a1.2.2.1, .val (.sl false T120) a1.2.2.2.1]]
def X45.l4 (N : Nat) (a1 : T40.den)  : Nat → Option Bool
  | 0 => none
  | n + 1 =>
    bif decide ((0 : Int) < (a1.2.2.2.1.length : Int)) then
      Option.bind (a1.2.2.2.1[0]?) fun v15 =>
      none
    else some true
def X45.l4.ce (N : Nat) (oc : List (Nat × (List (Nat × D) → List E → Option Bool))) : Nat → List (Nat × D) → List E → Option Bool := loopAt (c45 N) h45 N (endK (c45 N) Tryz.f45 (mvRs rs45)) [.b, .b, .a, .b, .a] b45 oc 1
theorem X45.l4.s (N n : Nat)  (a1 : T40.den) : X45.l4.ce N [] (n + 1) (X45.l4.t a1) (X45.l4.h a1) =
    bif decide ((0 : Int) < (a1.2.2.2.1.length : Int)) then
      Option.bind (a1.2.2.2.1[0]?) fun v15 =>
      none
    else some true := by kernel_rfl
theorem X45.l4.e (N : Nat)  (a1 : T40.den) : ∀ (n : Nat), X45.l4.ce N [] n (X45.l4.t a1) (X45.l4.h a1) = X45.l4 N a1 n
  | 0 => rfl
  | n + 1 => by rw [X45.l4.s, X45.l4]; (try simp only [X45.l4.e N a1 n])
def X45 (N : Nat) (a1 : T40.den) : Option Bool :=
  Option.bind (X41 N a1.1) fun v4 =>
  bif !v4 then
    some false
  else Option.bind (X73 N a1.2.1) fun v5 =>
  bif !v5 then
    some false
  else bif decide (a1.2.2.1 < 0) then
    some false
  else bif decide ((a1.2.2.2.1.length : Int) > 12) then
    some false
  else X45.l4 N a1 N
theorem X45.ev (N : Nat) (a1 : T40.den) : evF (c45 N) h45 Tryz.f45 as45 rs45 N (a1, ()) = X45 N a1 :=
  (show evF (c45 N) h45 Tryz.f45 as45 rs45 N (a1, ()) =
    Option.bind (X41 N a1.1) fun v4 =>
    bif !v4 then
      some false
    else Option.bind (X73 N a1.2.1) fun v5 =>
    bif !v5 then
      some false
    else bif decide (a1.2.2.1 < 0) then
      some false
    else bif decide ((a1.2.2.2.1.length : Int) > 12) then
      some false
    else X45.l4.ce N [] N (X45.l4.t a1) (X45.l4.h a1) by kernel_rfl).trans (by simp only [X45.l4.e]; try rfl)
theorem X45.p (N : Nat) : PFun Tryz.prog gl 45 as45 rs45 (fun x => X45 N x.1) :=
  PFun.ev (c := c45 N) ⟨mixed, tiok, fun f k h => (by simp only [c45] at h; split at h <;> first | (cases h; done) | (cases h; first | exact X41.p N | exact X73.p N)), fun f k h => (by cases h), eqtok, fun t n f h => (by cases h)⟩ h45 (f := 45) (fn := Tryz.f45) (b := b45) (by kernel_rfl) (by kernel_rfl) (by kernel_rfl) (by kernel_rfl) (by decide) (fun x y h => ⟨N, (X45.ev N x.1).trans h⟩)
end Go.Eng.T
end
noncomputable section
namespace Go.Eng.T
open Go.RowKit
open Go.Proofs
set_option linter.unusedVariables false
/- spec.l30Maybe -/
abbrev as117 : List Sh := [.one .str]
abbrev rs117 : Rs := .one (.one .bool)
def h117 : Hint := {  }
def c117 (N : Nat) : Cfg := { ti := ti, gl := gl, eqt := eqt, meth := fun _ _ => none, con := fun | 68 => some ⟨as68, rs68, fun x => X68 N x.1⟩ | _ => none }
def b117 : Code := match Tryz.f117.body with | some b => b | none => .skip
def X117 (N : Nat) (a1 : ByteArray) : Option Bool :=
  bif a1.toList == (⟨#[]⟩ : ByteArray).toList then
    some true
  else Option.bind (X68 N a1) fun v2 =>
  some v2
theorem X117.ev (N : Nat) (a1 : ByteArray) : evF (c117 N) h117 Tryz.f117 as117 rs117 N (a1, ()) = X117 N a1 := by kernel_rfl
theorem X117.p (N : Nat) : PFun Tryz.prog gl 117 as117 rs117 (fun x => X117 N x.1) :=
  PFun.ev (c := c117 N) ⟨mixed, tiok, fun f k h => (by simp only [c117] at h; split at h <;> first | (cases h; done) | (cases h; first | exact X68.p N)), fun f k h => (by cases h), eqtok, fun t n f h => (by cases h)⟩ h117 (f := 117) (fn := Tryz.f117) (b := b117) (by kernel_rfl) (by kernel_rfl) (by kernel_rfl) (by kernel_rfl) (by decide) (fun x y h => ⟨N, (X117.ev N x.1).trans h⟩)
end Go.Eng.T
end
noncomputable section
namespace Go.Eng.T
open Go.RowKit
open Go.Proofs
set_option linter.unusedVariables false
/- spec.DeskOk -/
abbrev as76 : List Sh := [.agg T58]
abbrev rs76 : Rs := .one (.one .bool)
def h76 : Hint := {  }
def c76 (N : Nat) : Cfg := { ti := ti, gl := gl, eqt := eqt, meth := fun _ _ => none, con := fun | 68 => some ⟨as68, rs68, fun x => X68 N x.1⟩ | 117 => some ⟨as117, rs117, fun x => X117 N x.1⟩ | _ => none }
def b76 : Code := match Tryz.f76.body with | some b => b | none => .skip
def X76 (N : Nat) (a1 : T58.den) : Option Bool :=
  Option.bind (X68 N a1.1) fun v2 =>
  bif v2 then
    Option.bind (X68 N a1.2.1) fun v3 =>
    bif v3 then
      Option.bind (X117 N a1.2.2.1) fun v4 =>
      some v4
    else some false
  else some false
theorem X76.ev (N : Nat) (a1 : T58.den) : evF (c76 N) h76 Tryz.f76 as76 rs76 N (a1, ()) = X76 N a1 := by kernel_rfl
theorem X76.p (N : Nat) : PFun Tryz.prog gl 76 as76 rs76 (fun x => X76 N x.1) :=
  PFun.ev (c := c76 N) ⟨mixed, tiok, fun f k h => (by simp only [c76] at h; split at h <;> first | (cases h; done) | (cases h; first | exact X68.p N | exact X117.p N)), fun f k h => (by cases h), eqtok, fun t n f h => (by cases h)⟩ h76 (f := 76) (fn := Tryz.f76) (b := b76) (by kernel_rfl) (by kernel_rfl) (by kernel_rfl) (by kernel_rfl) (by decide) (fun x y h => ⟨N, (X76.ev N x.1).trans h⟩)
end Go.Eng.T
end
noncomputable section
namespace Go.Eng.T
open Go.RowKit
open Go.Proofs
set_option linter.unusedVariables false
/- spec.l4Begins -/
abbrev as77 : List Sh := [.one .str, .one .str]
abbrev rs77 : Rs := .one (.one .bool)
def h77 : Hint := {  }
def c77 (N : Nat) : Cfg := { ti := ti, gl := gl, eqt := eqt, meth := fun _ _ => none, con := fun _ => none }
def b77 : Code := match Tryz.f77.body with | some b => b | none => .skip
def X77 (N : Nat) (a1 : ByteArray) (a2 : ByteArray) : Option Bool :=
  bif decide ((a1.size : Int) ≥ (a2.size : Int)) then
    (if (0 : Int) ≤ (a2.size : Int) then (if (a2.size : Int) ≤ (a1.size : Int) then some ((a1.extract 0 (a2.size : Int).toNat).toList == a2.toList) else none) else none)
  else some false
theorem X77.ev (N : Nat) (a1 : ByteArray) (a2 : ByteArray) : evF (c77 N) h77 Tryz.f77 as77 rs77 N (a1, a2, ()) = X77 N a1 a2 := by kernel_rfl
theorem X77.p (N : Nat) : PFun Tryz.prog gl 77 as77 rs77 (fun x => X77 N x.1 x.2.1) :=
  PFun.ev (c := c77 N) ⟨mixed, tiok, fun f k h => (by cases h), fun f k h => (by cases h), eqtok, fun t n f h => (by cases h)⟩ h77 (f := 77) (fn := Tryz.f77) (b := b77) (by kernel_rfl) (by kernel_rfl) (by kernel_rfl) (by kernel_rfl) (by decide) (fun x y h => ⟨N, (X77.ev N x.1 x.2.1).trans h⟩)
end Go.Eng.T
end
noncomputable section
namespace Go.Eng.T
open Go.RowKit
open Go.Proofs
set_option linter.unusedVariables false
/- spec.DeskApart -/
abbrev as46 : List Sh := [.one (.sl false T58)]
abbrev rs46 : Rs := .one (.one .bool)
def h46 : Hint := { keep := fun | 2 => [0, 3] | 7 => [0, 3, 4] | _ => [] }
def c46 (N : Nat) : Cfg := { ti := ti, gl := gl, eqt := eqt, meth := fun _ _ => none, con := fun | 76 => some ⟨as76, rs76, fun x => X76 N x.1⟩ | 77 => some ⟨as77, rs77, fun x => X77 N x.1 x.2.1⟩ | _ => none }
def b46 : Code := match Tryz.f46.body with | some b => b | none => .skip
def X46.l7.t (a1 : List T58.den) (p16 : Int) (p21 : Int) : List (Nat × D) := [(0, .val (.sl false T58) a1), (3, .val (.int .i64) p16), (4, .val (.int .i64) p21)]
def X46.l7.h (a1 : List T58.den) (p16 : Int) (p21 : Int) : List E := []
def X46.l2.t (a1 : List T58.den) (p16 : Int) : List (Nat × D) := [(0, .val (.sl false T58) a1), (3, .val (.int .i64) p16)]
def X46.l2.h (a1 : List T58.den) (p16 : Int) : List E := []
def X46.l7 (N : Nat) (a1 : List T58.den) (p16 : Int) (k2 : Int → Option Bool) : Nat → Int → Option Bool
  | 0, _ => none
  | n + 1, p21 =>
    bif decide (p21 < p16) then
      (if (0 : Int) ≤ p16 then Option.bind (a1[p16.toNat]?) fun v22 =>
      (if (0 : Int) ≤ p21 then Option.bind (a1[p21.toNat]?) fun v23 =>
      bif v22.2.1.toList == v23.2.1.toList then
        some false
      else (if (0 : Int) ≤ p16 then Option.bind (a1[p16.toNat]?) fun v24 =>
      (if (0 : Int) ≤ p21 then Option.bind (a1[p21.toNat]?) fun v25 =>
      Option.bind (X77 N v24.2.2.1 v25.2.2.1) fun v26 =>
      bif v26 then
        some false
      else (if (0 : Int) ≤ p21 then Option.bind (a1[p21.toNat]?) fun v27 =>
      (if (0 : Int) ≤ p16 then Option.bind (a1[p16.toNat]?) fun v28 =>
      Option.bind (X77 N v27.2.2.1 v28.2.2.1) fun v29 =>
      bif v29 then
        some false
      else X46.l7 N a1 p16 k2 n (IntKind.i64.wrap (p21 + 1)) else none) else none) else none) else none) else none) else none)
    else k2 (IntKind.i64.wrap (p16 + 1))
def X46.l7.ce (N : Nat) (oc : List (Nat × (List (Nat × D) → List E → Option Bool))) : Nat → List (Nat × D) → List E → Option Bool := loopAt (c46 N) h46 N (endK (c46 N) Tryz.f46 (mvRs rs46)) [.b, .a, .b, .a, .a, .b, .a, .a, .b, .b, .a] b46 oc 0
theorem X46.l7.s (N n : Nat) (g2 : List (Nat × D) → List E → Option Bool) (a1 : List T58.den) (p16 : Int) (p21 : Int) : X46.l7.ce N [(0, g2)] (n + 1) (X46.l7.t a1 p16 p21) (X46.l7.h a1 p16 p21) =
    bif decide (p21 < p16) then
      (if (0 : Int) ≤ p16 then Option.bind (a1[p16.toNat]?) fun v22 =>
      (if (0 : Int) ≤ p21 then Option.bind (a1[p21.toNat]?) fun v23 =>
      bif v22.2.1.toList == v23.2.1.toList then
        some false
      else (if (0 : Int) ≤ p16 then Option.bind (a1[p16.toNat]?) fun v24 =>
      (if (0 : Int) ≤ p21 then Option.bind (a1[p21.toNat]?) fun v25 =>
      Option.bind (X77 N v24.2.2.1 v25.2.2.1) fun v26 =>
      bif v26 then
        some false
      else (if (0 : Int) ≤ p21 then Option.bind (a1[p21.toNat]?) fun v27 =>
      (if (0 : Int) ≤ p16 then Option.bind (a1[p16.toNat]?) fun v28 =>
      Option.bind (X77 N v27.2.2.1 v28.2.2.1) fun v29 =>
      bif v29 then
        some false
      else X46.l7.ce N [(0, g2)] n (X46.l7.t a1 p16 (IntKind.i64.wrap (p21 + 1))) (X46.l7.h a1 p16 (IntKind.i64.wrap (p21 + 1))) else none) else none) else none) else none) else none) else none)
    else g2 (X46.l2.t a1 (IntKind.i64.wrap (p16 + 1))) (X46.l2.h a1 (IntKind.i64.wrap (p16 + 1))) := by kernel_rfl
theorem X46.l7.e (N : Nat) (g2 : List (Nat × D) → List E → Option Bool) (a1 : List T58.den) (p16 : Int) : ∀ (n : Nat) (p21 : Int), X46.l7.ce N [(0, g2)] n (X46.l7.t a1 p16 p21) (X46.l7.h a1 p16 p21) = X46.l7 N a1 p16 (fun p16 => g2 (X46.l2.t a1 p16) (X46.l2.h a1 p16)) n p21
  | 0, _ => rfl
  | n + 1, p21 => by rw [X46.l7.s, X46.l7]; (try simp only [X46.l7.e N g2 a1 p16 n])
def X46.l2 (N : Nat) (a1 : List T58.den)  : Nat → Int → Option Bool
  | 0, _ => none
  | n + 1, p16 =>
    bif decide (p16 < (a1.length : Int)) then
      (if (0 : Int) ≤ p16 then Option.bind (a1[p16.toNat]?) fun v19 =>
      Option.bind (X76 N v19) fun v20 =>
      bif !v20 then
        some false
      else X46.l7 N a1 p16 (X46.l2 N a1 n) N 0 else none)
    else some (decide ((a1.length : Int) ≤ 4))
def X46.l2.ce (N : Nat) (oc : List (Nat × (List (Nat × D) → List E → Option Bool))) : Nat → List (Nat × D) → List E → Option Bool := loopAt (c46 N) h46 N (endK (c46 N) Tryz.f46 (mvRs rs46)) [.b, .a, .b, .a] b46 oc 0
theorem X46.l2.s (N n : Nat)  (a1 : List T58.den) (p16 : Int) : X46.l2.ce N [] (n + 1) (X46.l2.t a1 p16) (X46.l2.h a1 p16) =
    bif decide (p16 < (a1.length : Int)) then
      (if (0 : Int) ≤ p16 then Option.bind (a1[p16.toNat]?) fun v19 =>
      Option.bind (X76 N v19) fun v20 =>
      bif !v20 then
        some false
      else X46.l7.ce N [(0, X46.l2.ce N [] n)] N (X46.l7.t a1 p16 0) (X46.l7.h a1 p16 0) else none)
    else some (decide ((a1.length : Int) ≤ 4)) := by kernel_rfl
theorem X46.l2.e (N : Nat)  (a1 : List T58.den) : ∀ (n : Nat) (p16 : Int), X46.l2.ce N [] n (X46.l2.t a1 p16) (X46.l2.h a1 p16) = X46.l2 N a1 n p16
  | 0, _ => rfl
  | n + 1, p16 => by rw [X46.l2.s, X46.l2]; (try simp only [X46.l2.e N a1 n, X46.l7.e])
def X46 (N : Nat) (a1 : List T58.den) : Option Bool :=
  X46.l2 N a1 N 0
theorem X46.ev (N : Nat) (a1 : List T58.den) : evF (c46 N) h46 Tryz.f46 as46 rs46 N (a1, ()) = X46 N a1 :=
  (show evF (c46 N) h46 Tryz.f46 as46 rs46 N (a1, ()) =
    X46.l2.ce N [] N (X46.l2.t a1 0) (X46.l2.h a1 0) by kernel_rfl).trans (by simp only [X46.l2.e]; try rfl)
theorem X46.p (N : Nat) : PFun Tryz.prog gl 46 as46 rs46 (fun x => X46 N x.1) :=
  PFun.ev (c := c46 N) ⟨mixed, tiok, fun f k h => (by simp only [c46] at h; split at h <;> first | (cases h; done) | (cases h; first | exact X76.p N | exact X77.p N)), fun f k h => (by cases h), eqtok, fun t n f h => (by cases h)⟩ h46 (f := 46) (fn := Tryz.f46) (b := b46) (by kernel_rfl) (by kernel_rfl) (by kernel_rfl) (by kernel_rfl) (by decide) (fun x y h => ⟨N, (X46.ev N x.1).trans h⟩)
end Go.Eng.T
end
noncomputable section
namespace Go.Eng.T
open Go.RowKit
open Go.Proofs
set_option linter.unusedVariables false
/- spec.DeskWorldOk -/
abbrev as21 : List Sh := [.agg T43r]
abbrev rs21 : Rs := .one (.one .bool)
def h21 : Hint := {  }
def c21 (N : Nat) : Cfg := { ti := ti, gl := gl, eqt := eqt, meth := fun _ _ => none, con := fun | 45 => some ⟨as45, rs45, fun x => X45 N x.1⟩ | 46 => some ⟨as46, rs46, fun x => X46 N x.1⟩ | _ => none }
def b21 : Code := match Tryz.f21.body with | some b => b | none => .skip
def X21 (N : Nat) (a1 : T43.den) : Option Bool :=
  Option.bind (X45 N a1.1) fun v2 =>
  bif v2 then
    Option.bind (X46 N a1.2.1) fun v3 =>
    some v3
  else some false
theorem X21.ev (N : Nat) (a1 : T43.den) : evF (c21 N) h21 Tryz.f21 as21 rs21 N (a1, ()) = X21 N a1 := by kernel_rfl
theorem X21.p (N : Nat) : PFun Tryz.prog gl 21 as21 rs21 (fun x => X21 N x.1) :=
  PFun.ev (c := c21 N) ⟨mixed, tiok, fun f k h => (by simp only [c21] at h; split at h <;> first | (cases h; done) | (cases h; first | exact X45.p N | exact X46.p N)), fun f k h => (by cases h), eqtok, fun t n f h => (by cases h)⟩ h21 (f := 21) (fn := Tryz.f21) (b := b21) (by kernel_rfl) (by kernel_rfl) (by kernel_rfl) (by kernel_rfl) (by decide) (fun x y h => ⟨N, (X21.ev N x.1).trans h⟩)
end Go.Eng.T
end
noncomputable section
namespace Go.Eng.T
open Go.RowKit
open Go.Proofs
set_option linter.unusedVariables false
/- spec.DeskNew -/
abbrev as6 : List Sh := [.agg T25r, .one (.int .i64), .one (.sl false T58)]
abbrev rs6 : Rs := .one (.agg T43)
def h6 : Hint := {  }
def c6 (N : Nat) : Cfg := { ti := ti, gl := gl, eqt := eqt, meth := fun _ _ => none, con := fun | 20 => some ⟨as20, rs20, fun x => X20 N x.1 x.2.1⟩ | 21 => some ⟨as21, rs21, fun x => X21 N x.1⟩ | _ => none }
def b6 : Code := match Tryz.f6.body with | some b => b | none => .skip
def X6 (N : Nat) (a1 : T25.den) (a2 : Int) (a3 : List T58.den) : Option T43.den :=
  Option.bind (X20 N a1 a2) fun v4 =>
  (if (([] : List T58.den).length + a3.length) * 64 ≤ 140737488355328 then Option.bind (X21 N (v4, ([] : List T58.den) ++ a3, ())) fun v5 =>
  bif !v5 then
    some (((([] : List T77.den), ([] : List T83.den), ()), (([] : List T114.den), ([] : List T160.den), ([] : List T218.den), ()), 0, ([] : List T120.den), ()), ([] : List T58.den), ())
  else some (v4, ([] : List T58.den) ++ a3, ()) else none)
theorem X6.ev (N : Nat) (a1 : T25.den) (a2 : Int) (a3 : List T58.den) : evF (c6 N) h6 Tryz.f6 as6 rs6 N (a1, a2, a3, ()) = X6 N a1 a2 a3 := by kernel_rfl
theorem X6.p (N : Nat) : PFun Tryz.prog gl 6 as6 rs6 (fun x => X6 N x.1 x.2.1 x.2.2.1) :=
  PFun.ev (c := c6 N) ⟨mixed, tiok, fun f k h => (by simp only [c6] at h; split at h <;> first | (cases h; done) | (cases h; first | exact X20.p N | exact X21.p N)), fun f k h => (by cases h), eqtok, fun t n f h => (by cases h)⟩ h6 (f := 6) (fn := Tryz.f6) (b := b6) (by kernel_rfl) (by kernel_rfl) (by kernel_rfl) (by kernel_rfl) (by decide) (fun x y h => ⟨N, (X6.ev N x.1 x.2.1 x.2.2.1).trans h⟩)
end Go.Eng.T
end
noncomputable section
namespace Go.Eng.T
open Go.RowKit
open Go.Proofs
set_option linter.unusedVariables false
/- laws.toGateTeam -/
abbrev as47 : List Sh := [.agg T77]
abbrev rs47 : Rs := .one (.agg T77)
def h47 : Hint := {  }
def c47 (N : Nat) : Cfg := { ti := ti, gl := gl, eqt := eqt, meth := fun _ _ => none, con := fun _ => none }
def b47 : Code := match Tryz.f47.body with | some b => b | none => .skip
def X47 (N : Nat) (a1 : T77.den) : Option T77.den :=
  some a1
theorem X47.ev (N : Nat) (a1 : T77.den) : evF (c47 N) h47 Tryz.f47 as47 rs47 N (a1, ()) = X47 N a1 := by kernel_rfl
theorem X47.p (N : Nat) : PFun Tryz.prog gl 47 as47 rs47 (fun x => X47 N x.1) :=
  PFun.ev (c := c47 N) ⟨mixed, tiok, fun f k h => (by cases h), fun f k h => (by cases h), eqtok, fun t n f h => (by cases h)⟩ h47 (f := 47) (fn := Tryz.f47) (b := b47) (by kernel_rfl) (by kernel_rfl) (by kernel_rfl) (by kernel_rfl) (by decide) (fun x y h => ⟨N, (X47.ev N x.1).trans h⟩)
end Go.Eng.T
end
noncomputable section
namespace Go.Eng.T
open Go.RowKit
open Go.Proofs
set_option linter.unusedVariables false
/- laws.toGateTeamS -/
abbrev as22 : List Sh := [.one (.sl false T77)]
abbrev rs22 : Rs := .one (.one (.sl true T77))
def h22 : Hint := { keep := fun | 3 => [0, 3, 4] | _ => [] }
def c22 (N : Nat) : Cfg := { ti := ti, gl := gl, eqt := eqt, meth := fun _ _ => none, con := fun | 47 => some ⟨as47, rs47, fun x => X47 N x.1⟩ | _ => none }
def b22 : Code := match Tryz.f22.body with | some b => b | none => .skip
def X22.l3.t (a1 : List T77.den) (p2 : Int) (p3 : List T77.den) : List (Nat × D) := [(0, .val (.sl false T77) a1), (3, .ow 0), (4, .val (.int .i64) p2)]
def X22.l3.h (a1 : List T77.den) (p2 : Int) (p3 : List T77.den) : List E := [.arr T77 p3]
def X22.l3 (N : Nat) (a1 : List T77.den)  : Nat → Int → (List T77.den) → Option (List T77.den)
  | 0, _, _ => none
  | n + 1, p2, p3 =>
    bif decide (p2 < (a1.length : Int)) then
      (if (0 : Int) ≤ p2 then Option.bind (a1[p2.toNat]?) fun v4 =>
      Option.bind (X47 N v4) fun v5 =>
      (if (0 : Int) ≤ p2 then (if p2 < (p3.length : Int) then Option.bind (p3[p2.toNat]?) fun v6 =>
      X22.l3 N a1 n (IntKind.i64.wrap (p2 + 1)) (p3.set p2.toNat v5) else none) else none) else none)
    else some p3
def X22.l3.ce (N : Nat) (oc : List (Nat × (List (Nat × D) → List E → Option (List T77.den)))) : Nat → List (Nat × D) → List E → Option (List T77.den) := loopAt (c22 N) h22 N (endK (c22 N) Tryz.f22 (mvRs rs22)) [.b, .b, .a, .b, .a] b22 oc 1
theorem X22.l3.s (N n : Nat)  (a1 : List T77.den) (p2 : Int) (p3 : List T77.den) : X22.l3.ce N [] (n + 1) (X22.l3.t a1 p2 p3) (X22.l3.h a1 p2 p3) =
    bif decide (p2 < (a1.length : Int)) then
      (if (0 : Int) ≤ p2 then Option.bind (a1[p2.toNat]?) fun v4 =>
      Option.bind (X47 N v4) fun v5 =>
      (if (0 : Int) ≤ p2 then (if p2 < (p3.length : Int) then Option.bind (p3[p2.toNat]?) fun v6 =>
      X22.l3.ce N [] n (X22.l3.t a1 (IntKind.i64.wrap (p2 + 1)) (p3.set p2.toNat v5)) (X22.l3.h a1 (IntKind.i64.wrap (p2 + 1)) (p3.set p2.toNat v5)) else none) else none) else none)
    else some p3 := by kernel_rfl
theorem X22.l3.e (N : Nat)  (a1 : List T77.den) : ∀ (n : Nat) (p2 : Int) (p3 : List T77.den), X22.l3.ce N [] n (X22.l3.t a1 p2 p3) (X22.l3.h a1 p2 p3) = X22.l3 N a1 n p2 p3
  | 0, _, _ => rfl
  | n + 1, p2, p3 => by rw [X22.l3.s, X22.l3]; (try simp only [X22.l3.e N a1 n])
def X22 (N : Nat) (a1 : List T77.den) : Option (List T77.den) :=
  (if (0 : Int) ≤ (a1.length : Int) then (if (a1.length : Int) ≤ (a1.length : Int) then (if ((a1.length : Int) * 32) ≤ (140737488355328 : Int) then (if (a1.length : Int) ≤ (9223372036854775807 : Int) then X22.l3 N a1 N 0 (List.replicate (a1.length : Int).toNat ((⟨#[]⟩ : ByteArray), (⟨#[]⟩ : ByteArray), ())) else none) else none) else none) else none)
theorem X22.ev (N : Nat) (a1 : List T77.den) : evF (c22 N) h22 Tryz.f22 as22 rs22 N (a1, ()) = X22 N a1 :=
  (show evF (c22 N) h22 Tryz.f22 as22 rs22 N (a1, ()) =
    (if (0 : Int) ≤ (a1.length : Int) then (if (a1.length : Int) ≤ (a1.length : Int) then (if ((a1.length : Int) * 32) ≤ (140737488355328 : Int) then (if (a1.length : Int) ≤ (9223372036854775807 : Int) then X22.l3.ce N [] N (X22.l3.t a1 0 (List.replicate (a1.length : Int).toNat ((⟨#[]⟩ : ByteArray), (⟨#[]⟩ : ByteArray), ()))) (X22.l3.h a1 0 (List.replicate (a1.length : Int).toNat ((⟨#[]⟩ : ByteArray), (⟨#[]⟩ : ByteArray), ()))) else none) else none) else none) else none) by kernel_rfl).trans (by simp only [X22.l3.e]; try rfl)
theorem X22.p (N : Nat) : PFun Tryz.prog gl 22 as22 rs22 (fun x => X22 N x.1) :=
  PFun.ev (c := c22 N) ⟨mixed, tiok, fun f k h => (by simp only [c22] at h; split at h <;> first | (cases h; done) | (cases h; first | exact X47.p N)), fun f k h => (by cases h), eqtok, fun t n f h => (by cases h)⟩ h22 (f := 22) (fn := Tryz.f22) (b := b22) (by kernel_rfl) (by kernel_rfl) (by kernel_rfl) (by kernel_rfl) (by decide) (fun x y h => ⟨N, (X22.ev N x.1).trans h⟩)
end Go.Eng.T
end
noncomputable section
namespace Go.Eng.T
open Go.RowKit
open Go.Proofs
set_option linter.unusedVariables false
/- laws.toIntS -/
abbrev as118 : List Sh := [.one (.sl false (.int .i64))]
abbrev rs118 : Rs := .one (.one (.sl true (.int .i64)))
def h118 : Hint := { keep := fun | 3 => [0, 3, 4] | _ => [] }
def c118 (N : Nat) : Cfg := { ti := ti, gl := gl, eqt := eqt, meth := fun _ _ => none, con := fun _ => none }
def b118 : Code := match Tryz.f118.body with | some b => b | none => .skip
def X118.l3.t (a1 : List Int) (p2 : Int) (p3 : List Int) : List (Nat × D) := [(0, .val (.sl false (.int .i64)) a1), (3, .ow 0), (4, .val (.int .i64) p2)]
def X118.l3.h (a1 : List Int) (p2 : Int) (p3 : List Int) : List E := [.arr (.int .i64) p3]
def X118.l3 (N : Nat) (a1 : List Int)  : Nat → Int → (List Int) → Option (List Int)
  | 0, _, _ => none
  | n + 1, p2, p3 =>
    bif decide (p2 < (a1.length : Int)) then
      (if (0 : Int) ≤ p2 then Option.bind (a1[p2.toNat]?) fun v4 =>
      (if (0 : Int) ≤ p2 then (if p2 < (p3.length : Int) then Option.bind (p3[p2.toNat]?) fun v5 =>
      X118.l3 N a1 n (IntKind.i64.wrap (p2 + 1)) (p3.set p2.toNat v4) else none) else none) else none)
    else some p3
def X118.l3.ce (N : Nat) (oc : List (Nat × (List (Nat × D) → List E → Option (List Int)))) : Nat → List (Nat × D) → List E → Option (List Int) := loopAt (c118 N) h118 N (endK (c118 N) Tryz.f118 (mvRs rs118)) [.b, .b, .a, .b, .a] b118 oc 1
theorem X118.l3.s (N n : Nat)  (a1 : List Int) (p2 : Int) (p3 : List Int) : X118.l3.ce N [] (n + 1) (X118.l3.t a1 p2 p3) (X118.l3.h a1 p2 p3) =
    bif decide (p2 < (a1.length : Int)) then
      (if (0 : Int) ≤ p2 then Option.bind (a1[p2.toNat]?) fun v4 =>
      (if (0 : Int) ≤ p2 then (if p2 < (p3.length : Int) then Option.bind (p3[p2.toNat]?) fun v5 =>
      X118.l3.ce N [] n (X118.l3.t a1 (IntKind.i64.wrap (p2 + 1)) (p3.set p2.toNat v4)) (X118.l3.h a1 (IntKind.i64.wrap (p2 + 1)) (p3.set p2.toNat v4)) else none) else none) else none)
    else some p3 := by kernel_rfl
theorem X118.l3.e (N : Nat)  (a1 : List Int) : ∀ (n : Nat) (p2 : Int) (p3 : List Int), X118.l3.ce N [] n (X118.l3.t a1 p2 p3) (X118.l3.h a1 p2 p3) = X118.l3 N a1 n p2 p3
  | 0, _, _ => rfl
  | n + 1, p2, p3 => by rw [X118.l3.s, X118.l3]; (try simp only [X118.l3.e N a1 n])
def X118 (N : Nat) (a1 : List Int) : Option (List Int) :=
  (if (0 : Int) ≤ (a1.length : Int) then (if (a1.length : Int) ≤ (a1.length : Int) then (if ((a1.length : Int) * 8) ≤ (140737488355328 : Int) then (if (a1.length : Int) ≤ (9223372036854775807 : Int) then X118.l3 N a1 N 0 (List.replicate (a1.length : Int).toNat 0) else none) else none) else none) else none)
theorem X118.ev (N : Nat) (a1 : List Int) : evF (c118 N) h118 Tryz.f118 as118 rs118 N (a1, ()) = X118 N a1 :=
  (show evF (c118 N) h118 Tryz.f118 as118 rs118 N (a1, ()) =
    (if (0 : Int) ≤ (a1.length : Int) then (if (a1.length : Int) ≤ (a1.length : Int) then (if ((a1.length : Int) * 8) ≤ (140737488355328 : Int) then (if (a1.length : Int) ≤ (9223372036854775807 : Int) then X118.l3.ce N [] N (X118.l3.t a1 0 (List.replicate (a1.length : Int).toNat 0)) (X118.l3.h a1 0 (List.replicate (a1.length : Int).toNat 0)) else none) else none) else none) else none) by kernel_rfl).trans (by simp only [X118.l3.e]; try rfl)
theorem X118.p (N : Nat) : PFun Tryz.prog gl 118 as118 rs118 (fun x => X118 N x.1) :=
  PFun.ev (c := c118 N) ⟨mixed, tiok, fun f k h => (by cases h), fun f k h => (by cases h), eqtok, fun t n f h => (by cases h)⟩ h118 (f := 118) (fn := Tryz.f118) (b := b118) (by kernel_rfl) (by kernel_rfl) (by kernel_rfl) (by kernel_rfl) (by decide) (fun x y h => ⟨N, (X118.ev N x.1).trans h⟩)
end Go.Eng.T
end
noncomputable section
namespace Go.Eng.T
open Go.RowKit
open Go.Proofs
set_option linter.unusedVariables false
/- laws.toGateRule -/
abbrev as78 : List Sh := [.agg T81r]
abbrev rs78 : Rs := .one (.agg T81)
def h78 : Hint := {  }
def c78 (N : Nat) : Cfg := { ti := ti, gl := gl, eqt := eqt, meth := fun _ _ => none, con := fun | 118 => some ⟨as118, rs118, fun x => X118 N x.1⟩ | _ => none }
def b78 : Code := match Tryz.f78.body with | some b => b | none => .skip
def X78 (N : Nat) (a1 : T81.den) : Option T81.den :=
  Option.bind (X118 N a1.1) fun v2 =>
  some (v2, a1.2)
theorem X78.ev (N : Nat) (a1 : T81.den) : evF (c78 N) h78 Tryz.f78 as78 rs78 N (a1, ()) = X78 N a1 := by kernel_rfl
theorem X78.p (N : Nat) : PFun Tryz.prog gl 78 as78 rs78 (fun x => X78 N x.1) :=
  PFun.ev (c := c78 N) ⟨mixed, tiok, fun f k h => (by simp only [c78] at h; split at h <;> first | (cases h; done) | (cases h; first | exact X118.p N)), fun f k h => (by cases h), eqtok, fun t n f h => (by cases h)⟩ h78 (f := 78) (fn := Tryz.f78) (b := b78) (by kernel_rfl) (by kernel_rfl) (by kernel_rfl) (by kernel_rfl) (by decide) (fun x y h => ⟨N, (X78.ev N x.1).trans h⟩)
end Go.Eng.T
end
noncomputable section
namespace Go.Eng.T
open Go.RowKit
open Go.Proofs
set_option linter.unusedVariables false
/- laws.toGateGrant -/
abbrev as48 : List Sh := [.agg T83r]
abbrev rs48 : Rs := .one (.agg T83)
def h48 : Hint := {  }
def c48 (N : Nat) : Cfg := { ti := ti, gl := gl, eqt := eqt, meth := fun _ _ => none, con := fun | 78 => some ⟨as78, rs78, fun x => X78 N x.1⟩ | _ => none }
def b48 : Code := match Tryz.f48.body with | some b => b | none => .skip
def X48 (N : Nat) (a1 : T83.den) : Option T83.den :=
  Option.bind (X78 N a1.2.2.2.1) fun v2 =>
  some (a1.1, a1.2.1, a1.2.2.1, v2, ())
theorem X48.ev (N : Nat) (a1 : T83.den) : evF (c48 N) h48 Tryz.f48 as48 rs48 N (a1, ()) = X48 N a1 := by kernel_rfl
theorem X48.p (N : Nat) : PFun Tryz.prog gl 48 as48 rs48 (fun x => X48 N x.1) :=
  PFun.ev (c := c48 N) ⟨mixed, tiok, fun f k h => (by simp only [c48] at h; split at h <;> first | (cases h; done) | (cases h; first | exact X78.p N)), fun f k h => (by cases h), eqtok, fun t n f h => (by cases h)⟩ h48 (f := 48) (fn := Tryz.f48) (b := b48) (by kernel_rfl) (by kernel_rfl) (by kernel_rfl) (by kernel_rfl) (by decide) (fun x y h => ⟨N, (X48.ev N x.1).trans h⟩)
end Go.Eng.T
end
noncomputable section
namespace Go.Eng.T
open Go.RowKit
open Go.Proofs
set_option linter.unusedVariables false
/- laws.toGateGrantS -/
abbrev as23 : List Sh := [.one (.sl false T83r)]
abbrev rs23 : Rs := .one (.one (.sl true T83))
def h23 : Hint := { keep := fun | 3 => [0, 3, 4] | _ => [] }
def c23 (N : Nat) : Cfg := { ti := ti, gl := gl, eqt := eqt, meth := fun _ _ => none, con := fun | 48 => some ⟨as48, rs48, fun x => X48 N x.1⟩ | _ => none }
def b23 : Code := match Tryz.f23.body with | some b => b | none => .skip
def X23.l3.t (a1 : List T83.den) (p2 : Int) (p3 : List T83.den) : List (Nat × D) := [(0, .val (.sl false T83r) a1), (3, .ow 0), (4, .val (.int .i64) p2)]
def X23.l3.h (a1 : List T83.den) (p2 : Int) (p3 : List T83.den) : List E := [.arr T83 p3]
def X23.l3 (N : Nat) (a1 : List T83.den)  : Nat → Int → (List T83.den) → Option (List T83.den)
  | 0, _, _ => none
  | n + 1, p2, p3 =>
    bif decide (p2 < (a1.length : Int)) then
      (if (0 : Int) ≤ p2 then Option.bind (a1[p2.toNat]?) fun v4 =>
      Option.bind (X48 N v4) fun v5 =>
      (if (0 : Int) ≤ p2 then (if p2 < (p3.length : Int) then Option.bind (p3[p2.toNat]?) fun v6 =>
      X23.l3 N a1 n (IntKind.i64.wrap (p2 + 1)) (p3.set p2.toNat v5) else none) else none) else none)
    else some p3
def X23.l3.ce (N : Nat) (oc : List (Nat × (List (Nat × D) → List E → Option (List T83.den)))) : Nat → List (Nat × D) → List E → Option (List T83.den) := loopAt (c23 N) h23 N (endK (c23 N) Tryz.f23 (mvRs rs23)) [.b, .b, .a, .b, .a] b23 oc 1
theorem X23.l3.s (N n : Nat)  (a1 : List T83.den) (p2 : Int) (p3 : List T83.den) : X23.l3.ce N [] (n + 1) (X23.l3.t a1 p2 p3) (X23.l3.h a1 p2 p3) =
    bif decide (p2 < (a1.length : Int)) then
      (if (0 : Int) ≤ p2 then Option.bind (a1[p2.toNat]?) fun v4 =>
      Option.bind (X48 N v4) fun v5 =>
      (if (0 : Int) ≤ p2 then (if p2 < (p3.length : Int) then Option.bind (p3[p2.toNat]?) fun v6 =>
      X23.l3.ce N [] n (X23.l3.t a1 (IntKind.i64.wrap (p2 + 1)) (p3.set p2.toNat v5)) (X23.l3.h a1 (IntKind.i64.wrap (p2 + 1)) (p3.set p2.toNat v5)) else none) else none) else none)
    else some p3 := by kernel_rfl
theorem X23.l3.e (N : Nat)  (a1 : List T83.den) : ∀ (n : Nat) (p2 : Int) (p3 : List T83.den), X23.l3.ce N [] n (X23.l3.t a1 p2 p3) (X23.l3.h a1 p2 p3) = X23.l3 N a1 n p2 p3
  | 0, _, _ => rfl
  | n + 1, p2, p3 => by rw [X23.l3.s, X23.l3]; (try simp only [X23.l3.e N a1 n])
def X23 (N : Nat) (a1 : List T83.den) : Option (List T83.den) :=
  (if (0 : Int) ≤ (a1.length : Int) then (if (a1.length : Int) ≤ (a1.length : Int) then (if ((a1.length : Int) * 112) ≤ (140737488355328 : Int) then (if (a1.length : Int) ≤ (9223372036854775807 : Int) then X23.l3 N a1 N 0 (List.replicate (a1.length : Int).toNat (0, (⟨#[]⟩ : ByteArray), (⟨#[]⟩ : ByteArray), (([] : List Int), (⟨#[]⟩ : ByteArray), (⟨#[]⟩ : ByteArray), (⟨#[]⟩ : ByteArray), ()), ())) else none) else none) else none) else none)
theorem X23.ev (N : Nat) (a1 : List T83.den) : evF (c23 N) h23 Tryz.f23 as23 rs23 N (a1, ()) = X23 N a1 :=
  (show evF (c23 N) h23 Tryz.f23 as23 rs23 N (a1, ()) =
    (if (0 : Int) ≤ (a1.length : Int) then (if (a1.length : Int) ≤ (a1.length : Int) then (if ((a1.length : Int) * 112) ≤ (140737488355328 : Int) then (if (a1.length : Int) ≤ (9223372036854775807 : Int) then X23.l3.ce N [] N (X23.l3.t a1 0 (List.replicate (a1.length : Int).toNat (0, (⟨#[]⟩ : ByteArray), (⟨#[]⟩ : ByteArray), (([] : List Int), (⟨#[]⟩ : ByteArray), (⟨#[]⟩ : ByteArray), (⟨#[]⟩ : ByteArray), ()), ()))) (X23.l3.h a1 0 (List.replicate (a1.length : Int).toNat (0, (⟨#[]⟩ : ByteArray), (⟨#[]⟩ : ByteArray), (([] : List Int), (⟨#[]⟩ : ByteArray), (⟨#[]⟩ : ByteArray), (⟨#[]⟩ : ByteArray), ()), ()))) else none) else none) else none) else none) by kernel_rfl).trans (by simp only [X23.l3.e]; try rfl)
theorem X23.p (N : Nat) : PFun Tryz.prog gl 23 as23 rs23 (fun x => X23 N x.1) :=
  PFun.ev (c := c23 N) ⟨mixed, tiok, fun f k h => (by simp only [c23] at h; split at h <;> first | (cases h; done) | (cases h; first | exact X48.p N)), fun f k h => (by cases h), eqtok, fun t n f h => (by cases h)⟩ h23 (f := 23) (fn := Tryz.f23) (b := b23) (by kernel_rfl) (by kernel_rfl) (by kernel_rfl) (by kernel_rfl) (by decide) (fun x y h => ⟨N, (X23.ev N x.1).trans h⟩)
end Go.Eng.T
end
noncomputable section
namespace Go.Eng.T
open Go.RowKit
open Go.Proofs
set_option linter.unusedVariables false
/- laws.toHallHouse -/
abbrev as7 : List Sh := [.agg T25r]
abbrev rs7 : Rs := .one (.agg T25)
def h7 : Hint := {  }
def c7 (N : Nat) : Cfg := { ti := ti, gl := gl, eqt := eqt, meth := fun _ _ => none, con := fun | 22 => some ⟨as22, rs22, fun x => X22 N x.1⟩ | 23 => some ⟨as23, rs23, fun x => X23 N x.1⟩ | _ => none }
def b7 : Code := match Tryz.f7.body with | some b => b | none => .skip
def X7 (N : Nat) (a1 : T25.den) : Option T25.den :=
  Option.bind (X22 N a1.1) fun v2 =>
  Option.bind (X23 N a1.2.1) fun v3 =>
  some (v2, v3, ())
theorem X7.ev (N : Nat) (a1 : T25.den) : evF (c7 N) h7 Tryz.f7 as7 rs7 N (a1, ()) = X7 N a1 := by kernel_rfl
theorem X7.p (N : Nat) : PFun Tryz.prog gl 7 as7 rs7 (fun x => X7 N x.1) :=
  PFun.ev (c := c7 N) ⟨mixed, tiok, fun f k h => (by simp only [c7] at h; split at h <;> first | (cases h; done) | (cases h; first | exact X22.p N | exact X23.p N)), fun f k h => (by cases h), eqtok, fun t n f h => (by cases h)⟩ h7 (f := 7) (fn := Tryz.f7) (b := b7) (by kernel_rfl) (by kernel_rfl) (by kernel_rfl) (by kernel_rfl) (by decide) (fun x y h => ⟨N, (X7.ev N x.1).trans h⟩)
end Go.Eng.T
end
noncomputable section
namespace Go.Eng.T
open Go.RowKit
open Go.Proofs
set_option linter.unusedVariables false
/- laws.toDesk -/
abbrev as24 : List Sh := [.agg T58]
abbrev rs24 : Rs := .one (.agg T58)
def h24 : Hint := {  }
def c24 (N : Nat) : Cfg := { ti := ti, gl := gl, eqt := eqt, meth := fun _ _ => none, con := fun _ => none }
def b24 : Code := match Tryz.f24.body with | some b => b | none => .skip
def X24 (N : Nat) (a1 : T58.den) : Option T58.den :=
  some a1
theorem X24.ev (N : Nat) (a1 : T58.den) : evF (c24 N) h24 Tryz.f24 as24 rs24 N (a1, ()) = X24 N a1 := by kernel_rfl
theorem X24.p (N : Nat) : PFun Tryz.prog gl 24 as24 rs24 (fun x => X24 N x.1) :=
  PFun.ev (c := c24 N) ⟨mixed, tiok, fun f k h => (by cases h), fun f k h => (by cases h), eqtok, fun t n f h => (by cases h)⟩ h24 (f := 24) (fn := Tryz.f24) (b := b24) (by kernel_rfl) (by kernel_rfl) (by kernel_rfl) (by kernel_rfl) (by decide) (fun x y h => ⟨N, (X24.ev N x.1).trans h⟩)
end Go.Eng.T
end
