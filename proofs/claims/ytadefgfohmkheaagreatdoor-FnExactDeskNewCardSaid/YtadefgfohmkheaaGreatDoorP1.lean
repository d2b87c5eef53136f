/- Part of the proof: functions that the law reaches, each with the typed function that it computes. -/
import Derived.Test.YtadefgfohmkheaaGreatDoorE5
import Derived.Test.YtadefgfohmkheaaGreatDoorProg
noncomputable section
namespace Go.Eng.T
open Go.RowKit
open Go.Proofs
set_option linter.unusedVariables false
abbrev T77 : Ty := .pair .str (.pair .str .unit)
abbrev T81 : Ty := .pair (.sl true (.int .i64)) (.pair .str T77)
abbrev T81r : Ty := .pair (.sl false (.int .i64)) (.pair .str T77)
abbrev T83 : Ty := .pair (.int .i64) (.pair .str (.pair .str (.pair T81 .unit)))
abbrev T83r : Ty := .pair (.int .i64) (.pair .str (.pair .str (.pair T81r .unit)))
abbrev T25 : Ty := .pair (.sl true T77) (.pair (.sl true T83) .unit)
abbrev T25r : Ty := .pair (.sl false T77) (.pair (.sl false T83r) .unit)
abbrev T58 : Ty := .pair .str (.pair .str T77)
abbrev T218 : Ty := .pair (.int .i64) (.pair .str .unit)
abbrev T110 : Ty := .pair (.int .i64) (.pair (.int .i64) (.pair (.sl true T218) .unit))
abbrev T110r : Ty := .pair (.int .i64) (.pair (.int .i64) (.pair (.sl false T218) .unit))
abbrev T160 : Ty := .pair (.int .i64) (.pair (.int .i64) (.pair (.int .i64) (.pair (.int .i64) (.pair (.int .i64) (.pair (.int .i64) (.pair .str (.pair (.sl true T218) .unit)))))))
abbrev T160r : Ty := .pair (.int .i64) (.pair (.int .i64) (.pair (.int .i64) (.pair (.int .i64) (.pair (.int .i64) (.pair (.int .i64) (.pair .str (.pair (.sl false T218) .unit)))))))
abbrev T198 : Ty := .pair (.int .i64) (.pair (.sl true (.int .i64)) .unit)
abbrev T198r : Ty := .pair (.int .i64) (.pair (.sl false (.int .i64)) .unit)
abbrev T114 : Ty := .pair (.int .i64) (.pair (.int .i64) (.pair .bool (.pair T110 (.pair T110 (.pair (.sl true T160) (.pair (.sl true .str) (.pair .bool (.pair .bool (.pair (.int .i64) (.pair (.sl true (.int .i64)) (.pair (.sl true T218) (.pair (.sl true T198) (.pair (.int .i64) .unit)))))))))))))
abbrev T114r : Ty := .pair (.int .i64) (.pair (.int .i64) (.pair .bool (.pair T110r (.pair T110r (.pair (.sl false T160r) (.pair (.sl false .str) (.pair .bool (.pair .bool (.pair (.int .i64) (.pair (.sl false (.int .i64)) (.pair (.sl false T218) (.pair (.sl false T198r) (.pair (.int .i64) .unit)))))))))))))
abbrev T37 : Ty := .pair (.sl true T114) (.pair (.sl true T160) (.pair (.sl true T218) .unit))
abbrev T37r : Ty := .pair (.sl false T114r) (.pair (.sl false T160r) (.pair (.sl false T218) .unit))
abbrev T118 : Ty := .pair (.int .i64) (.pair (.int .i64) (.pair (.int .i64) .unit))
abbrev T120 : Ty := .pair .str (.pair (.int .i64) (.pair (.int .i64) (.pair T118 .unit)))
abbrev T40 : Ty := .pair T25 (.pair T37 (.pair (.int .i64) (.pair (.sl true T120) .unit)))
abbrev T40r : Ty := .pair T25r (.pair T37r (.pair (.int .i64) (.pair (.sl false T120) .unit)))
abbrev T122 : Ty := .pair .str (.pair (.int .i64) (.pair .str (.pair .str (.pair .str (.pair (.sl true .str) (.pair (.sl true .str) (.pair (.int .i64) (.pair .str (.pair .str (.pair T81 (.pair (.int .i64) .unit)))))))))))
abbrev T122r : Ty := .pair .str (.pair (.int .i64) (.pair .str (.pair .str (.pair .str (.pair (.sl false .str) (.pair (.sl false .str) (.pair (.int .i64) (.pair .str (.pair .str (.pair T81r (.pair (.int .i64) .unit)))))))))))
abbrev T193 : Ty := .pair .str (.pair .str (.pair (.int .i64) .unit))
abbrev T125 : Ty := .pair .str (.pair T122 (.pair (.int .i64) (.pair (.sl true T193) .unit)))
abbrev T125r : Ty := .pair .str (.pair T122r (.pair (.int .i64) (.pair (.sl false T193) .unit)))
abbrev T195 : Ty := .pair (.int .i64) (.pair (.int .i64) .unit)
abbrev T128 : Ty := .pair .str (.pair (.int .i64) (.pair (.int .i64) (.pair (.int .i64) (.pair (.int .i64) (.pair .bool (.pair (.sl true T195) (.pair .bool .unit)))))))
abbrev T128r : Ty := .pair .str (.pair (.int .i64) (.pair (.int .i64) (.pair (.int .i64) (.pair (.int .i64) (.pair .bool (.pair (.sl false T195) (.pair .bool .unit)))))))
abbrev T130 : Ty := .pair .str (.pair (.int .i64) (.pair .bool (.pair (.int .i64) (.pair (.int .i64) (.pair (.int .i64) (.pair (.int .i64) (.pair (.int .i64) (.pair (.int .i64) (.pair (.int .i64) T118)))))))))
abbrev T132 : Ty := .pair (.int .i64) (.pair T130 (.pair .str (.pair (.int .i64) (.pair .bool .unit))))
abbrev T134 : Ty := .pair (.int .i64) (.pair (.int .i64) (.pair .str (.pair .str (.pair .str (.pair (.int .i64) (.pair T125 (.pair T128 (.pair T132 .unit))))))))
abbrev T134r : Ty := .pair (.int .i64) (.pair (.int .i64) (.pair .str (.pair .str (.pair .str (.pair (.int .i64) (.pair T125r (.pair T128r (.pair T132 .unit))))))))
abbrev T43 : Ty := .pair T40 (.pair (.sl true T58) .unit)
abbrev T43r : Ty := .pair T40r (.pair (.sl false T58) .unit)
def ti : TypeId → Option TI
  | 3 => some ⟨.cell, 1, 8, [.int .i64 0], .int .i64⟩
  | 4 => some ⟨.cell, 1, 1, [.bool false], .bool⟩
  | 5 => some ⟨.cell, 1, 1, [.int .u8 0], .int .u8⟩
  | 9 => some ⟨.cell, 1, 16, [.string ⟨#[]⟩], .str⟩
  | 22 => some ⟨.slice 77, 1, 24, [.slice none 0 0], .sl true T77⟩
  | 23 => some ⟨.slice 83, 1, 24, [.slice none 0 0], .sl true T83⟩
  | 25 => some ⟨.struct [(0, 1, false), (1, 1, false)], 2, 48, [.slice none 0 0, .slice none 0 0], T25⟩
  | 26 => some ⟨.slice 58, 1, 24, [.slice none 0 0], .sl true T58⟩
  | 29 => some ⟨.slice 89, 1, 24, [.slice none 0 0], .sl true T77⟩
  | 30 => some ⟨.slice 93, 1, 24, [.slice none 0 0], .sl true T83⟩
  | 32 => some ⟨.struct [(0, 1, false), (1, 1, false)], 2, 48, [.slice none 0 0, .slice none 0 0], T25⟩
  | 33 => some ⟨.slice 114, 1, 24, [.slice none 0 0], .sl true T114⟩
  | 34 => some ⟨.slice 160, 1, 24, [.slice none 0 0], .sl true T160⟩
  | 35 => some ⟨.slice 162, 1, 24, [.slice none 0 0], .sl true T218⟩
  | 37 => some ⟨.struct [(0, 1, false), (1, 1, false), (2, 1, false)], 3, 72, [.slice none 0 0, .slice none 0 0, .slice none 0 0], T37⟩
  | 38 => some ⟨.slice 120, 1, 24, [.slice none 0 0], .sl true T120⟩
  | 40 => some ⟨.struct [(0, 2, true), (2, 3, true), (5, 1, false), (6, 1, false)], 7, 152, [.slice none 0 0, .slice none 0 0, .slice none 0 0, .slice none 0 0, .slice none 0 0, .int .i64 0, .slice none 0 0], T40⟩
  | 41 => some ⟨.slice 63, 1, 24, [.slice none 0 0], .sl true T58⟩
  | 43 => some ⟨.struct [(0, 7, true), (7, 1, false)], 8, 176, [.slice none 0 0, .slice none 0 0, .slice none 0 0, .slice none 0 0, .slice none 0 0, .int .i64 0, .slice none 0 0, .slice none 0 0], T43⟩
  | 58 => some ⟨.struct [(0, 1, false), (1, 1, false), (2, 1, false), (3, 1, false)], 4, 64, [.string ⟨#[]⟩, .string ⟨#[]⟩, .string ⟨#[]⟩, .string ⟨#[]⟩], T58⟩
  | 63 => some ⟨.struct [(0, 1, false), (1, 1, false), (2, 1, false), (3, 1, false)], 4, 64, [.string ⟨#[]⟩, .string ⟨#[]⟩, .string ⟨#[]⟩, .string ⟨#[]⟩], T58⟩
  | 77 => some ⟨.struct [(0, 1, false), (1, 1, false)], 2, 32, [.string ⟨#[]⟩, .string ⟨#[]⟩], T77⟩
  | 79 => some ⟨.slice 3, 1, 24, [.slice none 0 0], .sl true (.int .i64)⟩
  | 81 => some ⟨.struct [(0, 1, false), (1, 1, false), (2, 1, false), (3, 1, false)], 4, 72, [.slice none 0 0, .string ⟨#[]⟩, .string ⟨#[]⟩, .string ⟨#[]⟩], T81⟩
  | 83 => some ⟨.struct [(0, 1, false), (1, 1, false), (2, 1, false), (3, 4, true)], 7, 112, [.int .i64 0, .string ⟨#[]⟩, .string ⟨#[]⟩, .slice none 0 0, .string ⟨#[]⟩, .string ⟨#[]⟩, .string ⟨#[]⟩], T83⟩
  | 89 => some ⟨.struct [(0, 1, false), (1, 1, false)], 2, 32, [.string ⟨#[]⟩, .string ⟨#[]⟩], T77⟩
  | 91 => some ⟨.struct [(0, 1, false), (1, 1, false), (2, 1, false), (3, 1, false)], 4, 72, [.slice none 0 0, .string ⟨#[]⟩, .string ⟨#[]⟩, .string ⟨#[]⟩], T81⟩
  | 93 => some ⟨.struct [(0, 1, false), (1, 1, false), (2, 1, false), (3, 4, true)], 7, 112, [.int .i64 0, .string ⟨#[]⟩, .string ⟨#[]⟩, .slice none 0 0, .string ⟨#[]⟩, .string ⟨#[]⟩, .string ⟨#[]⟩], T83⟩
  | 103 => some ⟨.slice 5, 1, 24, [.slice none 0 0], .sl true (.int .u8)⟩
  | 108 => some ⟨.slice 218, 1, 24, [.slice none 0 0], .sl true T218⟩
  | 110 => some ⟨.struct [(0, 1, false), (1, 1, false), (2, 1, false)], 3, 40, [.int .i64 0, .int .i64 0, .slice none 0 0], T110⟩
  | 111 => some ⟨.slice 9, 1, 24, [.slice none 0 0], .sl true .str⟩
  | 112 => some ⟨.slice 198, 1, 24, [.slice none 0 0], .sl true T198⟩
  | 114 => some ⟨.struct [(0, 1, false), (1, 1, false), (2, 1, false), (3, 3, true), (6, 3, true), (9, 1, false), (10, 1, false), (11, 1, false), (12, 1, false), (13, 1, false), (14, 1, false), (15, 1, false), (16, 1, false), (17, 1, false)], 18, 248, [.int .i64 0, .int .i64 0, .bool false, .int .i64 0, .int .i64 0, .slice none 0 0, .int .i64 0, .int .i64 0, .slice none 0 0, .slice none 0 0, .slice none 0 0, .bool false, .bool false, .int .i64 0, .slice none 0 0, .slice none 0 0, .slice none 0 0, .int .i64 0], T114⟩
  | 118 => some ⟨.struct [(0, 1, false), (1, 1, false), (2, 1, false)], 3, 24, [.int .i64 0, .int .i64 0, .int .i64 0], T118⟩
  | 120 => some ⟨.struct [(0, 1, false), (1, 1, false), (2, 1, false), (3, 3, true)], 6, 56, [.string ⟨#[]⟩, .int .i64 0, .int .i64 0, .int .i64 0, .int .i64 0, .int .i64 0], T120⟩
  | 122 => some ⟨.struct [(0, 1, false), (1, 1, false), (2, 1, false), (3, 1, false), (4, 1, false), (5, 1, false), (6, 1, false), (7, 1, false), (8, 1, false), (9, 1, false), (10, 4, true), (14, 1, false)], 15, 240, [.string ⟨#[]⟩, .int .i64 0, .string ⟨#[]⟩, .string ⟨#[]⟩, .string ⟨#[]⟩, .slice none 0 0, .slice none 0 0, .int .i64 0, .string ⟨#[]⟩, .string ⟨#[]⟩, .slice none 0 0, .string ⟨#[]⟩, .string ⟨#[]⟩, .string ⟨#[]⟩, .int .i64 0], T122⟩
  | 123 => some ⟨.slice 193, 1, 24, [.slice none 0 0], .sl true T193⟩
  | 125 => some ⟨.struct [(0, 1, false), (1, 15, true), (16, 1, false), (17, 1, false)], 18, 288, [.string ⟨#[]⟩, .string ⟨#[]⟩, .int .i64 0, .string ⟨#[]⟩, .string ⟨#[]⟩, .string ⟨#[]⟩, .slice none 0 0, .slice none 0 0, .int .i64 0, .string ⟨#[]⟩, .string ⟨#[]⟩, .slice none 0 0, .string ⟨#[]⟩, .string ⟨#[]⟩, .string ⟨#[]⟩, .int .i64 0, .int .i64 0, .slice none 0 0], T125⟩
  | 126 => some ⟨.slice 195, 1, 24, [.slice none 0 0], .sl true T195⟩
  | 128 => some ⟨.struct [(0, 1, false), (1, 1, false), (2, 1, false), (3, 1, false), (4, 1, false), (5, 1, false), (6, 1, false), (7, 1, false)], 8, 88, [.string ⟨#[]⟩, .int .i64 0, .int .i64 0, .int .i64 0, .int .i64 0, .bool false, .slice none 0 0, .bool false], T128⟩
  | 130 => some ⟨.struct [(0, 1, false), (1, 1, false), (2, 1, false), (3, 1, false), (4, 1, false), (5, 1, false), (6, 1, false), (7, 1, false), (8, 1, false), (9, 1, false), (10, 1, false), (11, 1, false), (12, 1, false)], 13, 112, [.string ⟨#[]⟩, .int .i64 0, .bool false, .int .i64 0, .int .i64 0, .int .i64 0, .int .i64 0, .int .i64 0, .int .i64 0, .int .i64 0, .int .i64 0, .int .i64 0, .int .i64 0], T130⟩
  | 132 => some ⟨.struct [(0, 1, false), (1, 13, true), (14, 1, false), (15, 1, false), (16, 1, false)], 17, 152, [.int .i64 0, .string ⟨#[]⟩, .int .i64 0, .bool false, .int .i64 0, .int .i64 0, .int .i64 0, .int .i64 0, .int .i64 0, .int .i64 0, .int .i64 0, .int .i64 0, .int .i64 0, .int .i64 0, .string ⟨#[]⟩, .int .i64 0, .bool false], T132⟩
  | 134 => some ⟨.struct [(0, 1, false), (1, 1, false), (2, 1, false), (3, 1, false), (4, 1, false), (5, 1, false), (6, 18, true), (24, 8, true), (32, 17, true)], 49, 600, [.int .i64 0, .int .i64 0, .string ⟨#[]⟩, .string ⟨#[]⟩, .string ⟨#[]⟩, .int .i64 0, .string ⟨#[]⟩, .string ⟨#[]⟩, .int .i64 0, .string ⟨#[]⟩, .string ⟨#[]⟩, .string ⟨#[]⟩, .slice none 0 0, .slice none 0 0, .int .i64 0, .string ⟨#[]⟩, .string ⟨#[]⟩, .slice none 0 0, .string ⟨#[]⟩, .string ⟨#[]⟩, .string ⟨#[]⟩, .int .i64 0, .int .i64 0, .slice none 0 0, .string ⟨#[]⟩, .int .i64 0, .int .i64 0, .int .i64 0, .int .i64 0, .bool false, .slice none 0 0, .bool false, .int .i64 0, .string ⟨#[]⟩, .int .i64 0, .bool false, .int .i64 0, .int .i64 0, .int .i64 0, .int .i64 0, .int .i64 0, .int .i64 0, .int .i64 0, .int .i64 0, .int .i64 0, .int .i64 0, .string ⟨#[]⟩, .int .i64 0, .bool false], T134⟩
  | 160 => some ⟨.struct [(0, 1, false), (1, 1, false), (2, 1, false), (3, 1, false), (4, 1, false), (5, 1, false), (6, 1, false), (7, 1, false)], 8, 88, [.int .i64 0, .int .i64 0, .int .i64 0, .int .i64 0, .int .i64 0, .int .i64 0, .string ⟨#[]⟩, .slice none 0 0], T160⟩
  | 162 => some ⟨.struct [(0, 1, false), (1, 1, false)], 2, 24, [.int .i64 0, .string ⟨#[]⟩], T218⟩
  | 193 => some ⟨.struct [(0, 1, false), (1, 1, false), (2, 1, false)], 3, 40, [.string ⟨#[]⟩, .string ⟨#[]⟩, .int .i64 0], T193⟩
  | 195 => some ⟨.struct [(0, 1, false), (1, 1, false)], 2, 16, [.int .i64 0, .int .i64 0], T195⟩
  | 198 => some ⟨.struct [(0, 1, false), (1, 1, false)], 2, 32, [.int .i64 0, .slice none 0 0], T198⟩
  | 218 => some ⟨.struct [(0, 1, false), (1, 1, false)], 2, 24, [.int .i64 0, .string ⟨#[]⟩], T218⟩
  | _ => none
theorem mixed : Tryz.prog.follows .mixedOrders = true := by kernel_rfl
def gl : Nat → Option (List D) := fun _ => none
theorem tiok (t : TypeId) (i : TI) (h : ti t = some i) : TIok Tryz.prog t i := by
  simp only [ti] at h
  split at h
  all_goals first | (cases h; done) | (cases h; exact .of (by kernel_rfl) (by kernel_rfl) rfl)
def eqt : TypeId → Option (List CK)
  | 132 => some [.int .i64, .str, .int .i64, .bool, .int .i64, .int .i64, .int .i64, .int .i64, .int .i64, .int .i64, .int .i64, .int .i64, .int .i64, .int .i64, .str, .int .i64, .bool]
  | 193 => some [.str, .str, .int .i64]
  | 195 => some [.int .i64, .int .i64]
  | _ => none
theorem eqtok (t : TypeId) (ks : List CK) (h : eqt t = some ks) : eqKinds Tryz.prog 64 t = some ks ∧ (∃ fs, Tryz.prog.underlying t = some (.struct fs)) ∧ Tryz.prog.eqGuardType Tryz.prog.depth t = false := by
  simp only [eqt] at h
  split at h
  all_goals first | (cases h; done) | (cases h; exact eqt_of (by kernel_rfl) (by kernel_rfl) (by kernel_rfl))

end Go.Eng.T
end
noncomputable section
namespace Go.Eng.T
open Go.RowKit
open Go.Proofs
set_option linter.unusedVariables false
/- laws.szGateTeam -/
abbrev as39 : List Sh := [.agg T77, .one (.int .i64)]
abbrev rs39 : Rs := .one (.one (.int .i64))
def h39 : Hint := {  }
def c39 (N : Nat) : Cfg := { ti := ti, gl := gl, eqt := eqt, meth := fun _ _ => none, con := fun _ => none }
def b39 : Code := match Tryz.f39.body with | some b => b | none => .skip
def X39 (N : Nat) (a1 : T77.den) (a2 : Int) : Option Int :=
  bif decide ((IntKind.i64.wrap (a2 - (a1.1.size : Int))) < 0) then
    some (-1)
  else bif decide ((IntKind.i64.wrap ((IntKind.i64.wrap (a2 - (a1.1.size : Int))) - (a1.2.1.size : Int))) < 0) then
    some (-1)
  else some (IntKind.i64.wrap ((IntKind.i64.wrap (a2 - (a1.1.size : Int))) - (a1.2.1.size : Int)))
theorem X39.ev (N : Nat) (a1 : T77.den) (a2 : Int) : evF (c39 N) h39 Tryz.f39 as39 rs39 N (a1, a2, ()) = X39 N a1 a2 := by kernel_rfl
theorem X39.p (N : Nat) : PFun Tryz.prog gl 39 as39 rs39 (fun x => X39 N x.1 x.2.1) :=
  PFun.ev (c := c39 N) ⟨mixed, tiok, fun f k h => (by cases h), fun f k h => (by cases h), eqtok, fun t n f h => (by cases h)⟩ h39 (f := 39) (fn := Tryz.f39) (b := b39) (by kernel_rfl) (by kernel_rfl) (by kernel_rfl) (by kernel_rfl) (by decide) (fun x y h => ⟨N, (X39.ev N x.1 x.2.1).trans h⟩)
end Go.Eng.T
end
noncomputable section
namespace Go.Eng.T
open Go.RowKit
open Go.Proofs
set_option linter.unusedVariables false
/- laws.szGateTeamS -/
abbrev as17 : List Sh := [.one (.sl false T77), .one (.int .i64)]
abbrev rs17 : Rs := .one (.one (.int .i64))
def h17 : Hint := { keep := fun | 5 => [0, 1, 5] | _ => [] }
def c17 (N : Nat) : Cfg := { ti := ti, gl := gl, eqt := eqt, meth := fun _ _ => none, con := fun | 39 => some ⟨as39, rs39, fun x => X39 N x.1 x.2.1⟩ | _ => none }
def b17 : Code := match Tryz.f17.body with | some b => b | none => .skip
def X17.l5.t (a1 : List T77.den) (p3 : Int) (p4 : Int) : List (Nat × D) := [(0, .val (.sl false T77) a1), (1, .val (.int .i64) p3), (5, .val (.int .i64) p4)]
def X17.l5.h (a1 : List T77.den) (p3 : Int) (p4 : Int) : List E := []
def X17.l5 (N : Nat) (a1 : List T77.den)  : Nat → Int → Int → Option Int
  | 0, _, _ => none
  | n + 1, p3, p4 =>
    bif decide (p4 < (a1.length : Int)) then
      (if (0 : Int) ≤ p4 then Option.bind (a1[p4.toNat]?) fun v5 =>
      Option.bind (X39 N v5 p3) fun v6 =>
      bif decide (v6 < 0) then
        some (-1)
      else X17.l5 N a1 n v6 (IntKind.i64.wrap (p4 + 1)) else none)
    else some p3
def X17.l5.ce (N : Nat) (oc : List (Nat × (List (Nat × D) → List E → Option Int))) : Nat → List (Nat × D) → List E → Option Int := loopAt (c17 N) h17 N (endK (c17 N) Tryz.f17 (mvRs rs17)) [.b, .b, .b, .a, .b, .a] b17 oc 0
theorem X17.l5.s (N n : Nat)  (a1 : List T77.den) (p3 : Int) (p4 : Int) : X17.l5.ce N [] (n + 1) (X17.l5.t a1 p3 p4) (X17.l5.h a1 p3 p4) =
    bif decide (p4 < (a1.length : Int)) then
      (if (0 : Int) ≤ p4 then Option.bind (a1[p4.toNat]?) fun v5 =>
      Option.bind (X39 N v5 p3) fun v6 =>
      bif decide (v6 < 0) then
        some (-1)
      else X17.l5.ce N [] n (X17.l5.t a1 v6 (IntKind.i64.wrap (p4 + 1))) (X17.l5.h a1 v6 (IntKind.i64.wrap (p4 + 1))) else none)
    else some p3 := by kernel_rfl
theorem X17.l5.e (N : Nat)  (a1 : List T77.den) : ∀ (n : Nat) (p3 : Int) (p4 : Int), X17.l5.ce N [] n (X17.l5.t a1 p3 p4) (X17.l5.h a1 p3 p4) = X17.l5 N a1 n p3 p4
  | 0, _, _ => rfl
  | n + 1, p3, p4 => by rw [X17.l5.s, X17.l5]; (try simp only [X17.l5.e N a1 n])
def X17 (N : Nat) (a1 : List T77.den) (a2 : Int) : Option Int :=
  bif decide ((IntKind.i64.wrap (a2 - (a1.length : Int))) < 0) then
    some (-1)
  else X17.l5 N a1 N (IntKind.i64.wrap (a2 - (a1.length : Int))) 0
theorem X17.ev (N : Nat) (a1 : List T77.den) (a2 : Int) : evF (c17 N) h17 Tryz.f17 as17 rs17 N (a1, a2, ()) = X17 N a1 a2 :=
  (show evF (c17 N) h17 Tryz.f17 as17 rs17 N (a1, a2, ()) =
    bif decide ((IntKind.i64.wrap (a2 - (a1.length : Int))) < 0) then
      some (-1)
    else X17.l5.ce N [] N (X17.l5.t a1 (IntKind.i64.wrap (a2 - (a1.length : Int))) 0) (X17.l5.h a1 (IntKind.i64.wrap (a2 - (a1.length : Int))) 0) by kernel_rfl).trans (by simp only [X17.l5.e]; try rfl)
theorem X17.p (N : Nat) : PFun Tryz.prog gl 17 as17 rs17 (fun x => X17 N x.1 x.2.1) :=
  PFun.ev (c := c17 N) ⟨mixed, tiok, fun f k h => (by simp only [c17] at h; split at h <;> first | (cases h; done) | (cases h; first | exact X39.p N)), fun f k h => (by cases h), eqtok, fun t n f h => (by cases h)⟩ h17 (f := 17) (fn := Tryz.f17) (b := b17) (by kernel_rfl) (by kernel_rfl) (by kernel_rfl) (by kernel_rfl) (by decide) (fun x y h => ⟨N, (X17.ev N x.1 x.2.1).trans h⟩)
end Go.Eng.T
end
noncomputable section
namespace Go.Eng.T
open Go.RowKit
open Go.Proofs
set_option linter.unusedVariables false
/- laws.szIntS -/
abbrev as105 : List Sh := [.one (.sl false (.int .i64)), .one (.int .i64)]
abbrev rs105 : Rs := .one (.one (.int .i64))
def h105 : Hint := {  }
def c105 (N : Nat) : Cfg := { ti := ti, gl := gl, eqt := eqt, meth := fun _ _ => none, con := fun _ => none }
def b105 : Code := match Tryz.f105.body with | some b => b | none => .skip
def X105 (N : Nat) (a1 : List Int) (a2 : Int) : Option Int :=
  bif decide ((IntKind.i64.wrap (a2 - (a1.length : Int))) < 0) then
    some (-1)
  else some (IntKind.i64.wrap (a2 - (a1.length : Int)))
theorem X105.ev (N : Nat) (a1 : List Int) (a2 : Int) : evF (c105 N) h105 Tryz.f105 as105 rs105 N (a1, a2, ()) = X105 N a1 a2 := by kernel_rfl
theorem X105.p (N : Nat) : PFun Tryz.prog gl 105 as105 rs105 (fun x => X105 N x.1 x.2.1) :=
  PFun.ev (c := c105 N) ⟨mixed, tiok, fun f k h => (by cases h), fun f k h => (by cases h), eqtok, fun t n f h => (by cases h)⟩ h105 (f := 105) (fn := Tryz.f105) (b := b105) (by kernel_rfl) (by kernel_rfl) (by kernel_rfl) (by kernel_rfl) (by decide) (fun x y h => ⟨N, (X105.ev N x.1 x.2.1).trans h⟩)
end Go.Eng.T
end
noncomputable section
namespace Go.Eng.T
open Go.RowKit
open Go.Proofs
set_option linter.unusedVariables false
/- laws.szGateRule -/
abbrev as66 : List Sh := [.agg T81r, .one (.int .i64)]
abbrev rs66 : Rs := .one (.one (.int .i64))
def h66 : Hint := {  }
def c66 (N : Nat) : Cfg := { ti := ti, gl := gl, eqt := eqt, meth := fun _ _ => none, con := fun | 105 => some ⟨as105, rs105, fun x => X105 N x.1 x.2.1⟩ | _ => none }
def b66 : Code := match Tryz.f66.body with | some b => b | none => .skip
def X66 (N : Nat) (a1 : T81.den) (a2 : Int) : Option Int :=
  Option.bind (X105 N a1.1 a2) fun v3 =>
  bif decide (v3 < 0) then
    some (-1)
  else bif decide ((IntKind.i64.wrap (v3 - (a1.2.1.size : Int))) < 0) then
    some (-1)
  else bif decide ((IntKind.i64.wrap ((IntKind.i64.wrap (v3 - (a1.2.1.size : Int))) - (a1.2.2.1.size : Int))) < 0) then
    some (-1)
  else bif decide ((IntKind.i64.wrap ((IntKind.i64.wrap ((IntKind.i64.wrap (v3 - (a1.2.1.size : Int))) - (a1.2.2.1.size : Int))) - (a1.2.2.2.1.size : Int))) < 0) then
    some (-1)
  else some (IntKind.i64.wrap ((IntKind.i64.wrap ((IntKind.i64.wrap (v3 - (a1.2.1.size : Int))) - (a1.2.2.1.size : Int))) - (a1.2.2.2.1.size : Int)))
theorem X66.ev (N : Nat) (a1 : T81.den) (a2 : Int) : evF (c66 N) h66 Tryz.f66 as66 rs66 N (a1, a2, ()) = X66 N a1 a2 := by kernel_rfl
theorem X66.p (N : Nat) : PFun Tryz.prog gl 66 as66 rs66 (fun x => X66 N x.1 x.2.1) :=
  PFun.ev (c := c66 N) ⟨mixed, tiok, fun f k h => (by simp only [c66] at h; split at h <;> first | (cases h; done) | (cases h; first | exact X105.p N)), fun f k h => (by cases h), eqtok, fun t n f h => (by cases h)⟩ h66 (f := 66) (fn := Tryz.f66) (b := b66) (by kernel_rfl) (by kernel_rfl) (by kernel_rfl) (by kernel_rfl) (by decide) (fun x y h => ⟨N, (X66.ev N x.1 x.2.1).trans h⟩)
end Go.Eng.T
end
noncomputable section
namespace Go.Eng.T
open Go.RowKit
open Go.Proofs
set_option linter.unusedVariables false
/- laws.szGateGrant -/
abbrev as40 : List Sh := [.agg T83r, .one (.int .i64)]
abbrev rs40 : Rs := .one (.one (.int .i64))
def h40 : Hint := {  }
def c40 (N : Nat) : Cfg := { ti := ti, gl := gl, eqt := eqt, meth := fun _ _ => none, con := fun | 66 => some ⟨as66, rs66, fun x => X66 N x.1 x.2.1⟩ | _ => none }
def b40 : Code := match Tryz.f40.body with | some b => b | none => .skip
def X40 (N : Nat) (a1 : T83.den) (a2 : Int) : Option Int :=
  bif decide ((IntKind.i64.wrap (a2 - (a1.2.1.size : Int))) < 0) then
    some (-1)
  else bif decide ((IntKind.i64.wrap ((IntKind.i64.wrap (a2 - (a1.2.1.size : Int))) - (a1.2.2.1.size : Int))) < 0) then
    some (-1)
  else Option.bind (X66 N a1.2.2.2.1 (IntKind.i64.wrap ((IntKind.i64.wrap (a2 - (a1.2.1.size : Int))) - (a1.2.2.1.size : Int)))) fun v3 =>
  bif decide (v3 < 0) then
    some (-1)
  else some v3
theorem X40.ev (N : Nat) (a1 : T83.den) (a2 : Int) : evF (c40 N) h40 Tryz.f40 as40 rs40 N (a1, a2, ()) = X40 N a1 a2 := by kernel_rfl
theorem X40.p (N : Nat) : PFun Tryz.prog gl 40 as40 rs40 (fun x => X40 N x.1 x.2.1) :=
  PFun.ev (c := c40 N) ⟨mixed, tiok, fun f k h => (by simp only [c40] at h; split at h <;> first | (cases h; done) | (cases h; first | exact X66.p N)), fun f k h => (by cases h), eqtok, fun t n f h => (by cases h)⟩ h40 (f := 40) (fn := Tryz.f40) (b := b40) (by kernel_rfl) (by kernel_rfl) (by kernel_rfl) (by kernel_rfl) (by decide) (fun x y h => ⟨N, (X40.ev N x.1 x.2.1).trans h⟩)
end Go.Eng.T
end
noncomputable section
namespace Go.Eng.T
open Go.RowKit
open Go.Proofs
set_option linter.unusedVariables false
/- laws.szGateGrantS -/
abbrev as18 : List Sh := [.one (.sl false T83r), .one (.int .i64)]
abbrev rs18 : Rs := .one (.one (.int .i64))
def h18 : Hint := { keep := fun | 5 => [0, 1, 5] | _ => [] }
def c18 (N : Nat) : Cfg := { ti := ti, gl := gl, eqt := eqt, meth := fun _ _ => none, con := fun | 40 => some ⟨as40, rs40, fun x => X40 N x.1 x.2.1⟩ | _ => none }
def b18 : Code := match Tryz.f18.body with | some b => b | none => .skip
def X18.l5.t (a1 : List T83.den) (p3 : Int) (p4 : Int) : List (Nat × D) := [(0, .val (.sl false T83r) a1), (1, .val (.int .i64) p3), (5, .val (.int .i64) p4)]
def X18.l5.h (a1 : List T83.den) (p3 : Int) (p4 : Int) : List E := []
def X18.l5 (N : Nat) (a1 : List T83.den)  : Nat → Int → Int → Option Int
  | 0, _, _ => none
  | n + 1, p3, p4 =>
    bif decide (p4 < (a1.length : Int)) then
      (if (0 : Int) ≤ p4 then Option.bind (a1[p4.toNat]?) fun v5 =>
      Option.bind (X40 N v5 p3) fun v6 =>
      bif decide (v6 < 0) then
        some (-1)
      else X18.l5 N a1 n v6 (IntKind.i64.wrap (p4 + 1)) else none)
    else some p3
def X18.l5.ce (N : Nat) (oc : List (Nat × (List (Nat × D) → List E → Option Int))) : Nat → List (Nat × D) → List E → Option Int := loopAt (c18 N) h18 N (endK (c18 N) Tryz.f18 (mvRs rs18)) [.b, .b, .b, .a, .b, .a] b18 oc 0
theorem X18.l5.s (N n : Nat)  (a1 : List T83.den) (p3 : Int) (p4 : Int) : X18.l5.ce N [] (n + 1) (X18.l5.t a1 p3 p4) (X18.l5.h a1 p3 p4) =
    bif decide (p4 < (a1.length : Int)) then
      (if (0 : Int) ≤ p4 then Option.bind (a1[p4.toNat]?) fun v5 =>
      Option.bind (X40 N v5 p3) fun v6 =>
      bif decide (v6 < 0) then
        some (-1)
      else X18.l5.ce N [] n (X18.l5.t a1 v6 (IntKind.i64.wrap (p4 + 1))) (X18.l5.h a1 v6 (IntKind.i64.wrap (p4 + 1))) else none)
    else some p3 := by kernel_rfl
theorem X18.l5.e (N : Nat)  (a1 : List T83.den) : ∀ (n : Nat) (p3 : Int) (p4 : Int), X18.l5.ce N [] n (X18.l5.t a1 p3 p4) (X18.l5.h a1 p3 p4) = X18.l5 N a1 n p3 p4
  | 0, _, _ => rfl
  | n + 1, p3, p4 => by rw [X18.l5.s, X18.l5]; (try simp only [X18.l5.e N a1 n])
def X18 (N : Nat) (a1 : List T83.den) (a2 : Int) : Option Int :=
  bif decide ((IntKind.i64.wrap (a2 - (a1.length : Int))) < 0) then
    some (-1)
  else X18.l5 N a1 N (IntKind.i64.wrap (a2 - (a1.length : Int))) 0
theorem X18.ev (N : Nat) (a1 : List T83.den) (a2 : Int) : evF (c18 N) h18 Tryz.f18 as18 rs18 N (a1, a2, ()) = X18 N a1 a2 :=
  (show evF (c18 N) h18 Tryz.f18 as18 rs18 N (a1, a2, ()) =
    bif decide ((IntKind.i64.wrap (a2 - (a1.length : Int))) < 0) then
      some (-1)
    else X18.l5.ce N [] N (X18.l5.t a1 (IntKind.i64.wrap (a2 - (a1.length : Int))) 0) (X18.l5.h a1 (IntKind.i64.wrap (a2 - (a1.length : Int))) 0) by kernel_rfl).trans (by simp only [X18.l5.e]; try rfl)
theorem X18.p (N : Nat) : PFun Tryz.prog gl 18 as18 rs18 (fun x => X18 N x.1 x.2.1) :=
  PFun.ev (c := c18 N) ⟨mixed, tiok, fun f k h => (by simp only [c18] at h; split at h <;> first | (cases h; done) | (cases h; first | exact X40.p N)), fun f k h => (by cases h), eqtok, fun t n f h => (by cases h)⟩ h18 (f := 18) (fn := Tryz.f18) (b := b18) (by kernel_rfl) (by kernel_rfl) (by kernel_rfl) (by kernel_rfl) (by decide) (fun x y h => ⟨N, (X18.ev N x.1 x.2.1).trans h⟩)
end Go.Eng.T
end
noncomputable section
namespace Go.Eng.T
open Go.RowKit
open Go.Proofs
set_option linter.unusedVariables false
/- laws.szHallHouse -/
abbrev as4 : List Sh := [.agg T25r, .one (.int .i64)]
abbrev rs4 : Rs := .one (.one (.int .i64))
def h4 : Hint := {  }
def c4 (N : Nat) : Cfg := { ti := ti, gl := gl, eqt := eqt, meth := fun _ _ => none, con := fun | 17 => some ⟨as17, rs17, fun x => X17 N x.1 x.2.1⟩ | 18 => some ⟨as18, rs18, fun x => X18 N x.1 x.2.1⟩ | _ => none }
def b4 : Code := match Tryz.f4.body with | some b => b | none => .skip
def X4 (N : Nat) (a1 : T25.den) (a2 : Int) : Option Int :=
  Option.bind (X17 N a1.1 a2) fun v3 =>
  bif decide (v3 < 0) then
    some (-1)
  else Option.bind (X18 N a1.2.1 v3) fun v4 =>
  bif decide (v4 < 0) then
    some (-1)
  else some v4
theorem X4.ev (N : Nat) (a1 : T25.den) (a2 : Int) : evF (c4 N) h4 Tryz.f4 as4 rs4 N (a1, a2, ()) = X4 N a1 a2 := by kernel_rfl
theorem X4.p (N : Nat) : PFun Tryz.prog gl 4 as4 rs4 (fun x => X4 N x.1 x.2.1) :=
  PFun.ev (c := c4 N) ⟨mixed, tiok, fun f k h => (by simp only [c4] at h; split at h <;> first | (cases h; done) | (cases h; first | exact X17.p N | exact X18.p N)), fun f k h => (by cases h), eqtok, fun t n f h => (by cases h)⟩ h4 (f := 4) (fn := Tryz.f4) (b := b4) (by kernel_rfl) (by kernel_rfl) (by kernel_rfl) (by kernel_rfl) (by decide) (fun x y h => ⟨N, (X4.ev N x.1 x.2.1).trans h⟩)
end Go.Eng.T
end
noncomputable section
namespace Go.Eng.T
open Go.RowKit
open Go.Proofs
set_option linter.unusedVariables false
/- laws.szDesk -/
abbrev as19 : List Sh := [.agg T58, .one (.int .i64)]
abbrev rs19 : Rs := .one (.one (.int .i64))
def h19 : Hint := {  }
def c19 (N : Nat) : Cfg := { ti := ti, gl := gl, eqt := eqt, meth := fun _ _ => none, con := fun _ => none }
def b19 : Code := match Tryz.f19.body with | some b => b | none => .skip
def X19 (N : Nat) (a1 : T58.den) (a2 : Int) : Option Int :=
  bif decide ((IntKind.i64.wrap (a2 - (a1.1.size : Int))) < 0) then
    some (-1)
  else bif decide ((IntKind.i64.wrap ((IntKind.i64.wrap (a2 - (a1.1.size : Int))) - (a1.2.1.size : Int))) < 0) then
    some (-1)
  else bif decide ((IntKind.i64.wrap ((IntKind.i64.wrap ((IntKind.i64.wrap (a2 - (a1.1.size : Int))) - (a1.2.1.size : Int))) - (a1.2.2.1.size : Int))) < 0) then
    some (-1)
  else bif decide ((IntKind.i64.wrap ((IntKind.i64.wrap ((IntKind.i64.wrap ((IntKind.i64.wrap (a2 - (a1.1.size : Int))) - (a1.2.1.size : Int))) - (a1.2.2.1.size : Int))) - (a1.2.2.2.1.size : Int))) < 0) then
    some (-1)
  else some (IntKind.i64.wrap ((IntKind.i64.wrap ((IntKind.i64.wrap ((IntKind.i64.wrap (a2 - (a1.1.size : Int))) - (a1.2.1.size : Int))) - (a1.2.2.1.size : Int))) - (a1.2.2.2.1.size : Int)))
theorem X19.ev (N : Nat) (a1 : T58.den) (a2 : Int) : evF (c19 N) h19 Tryz.f19 as19 rs19 N (a1, a2, ()) = X19 N a1 a2 := by kernel_rfl
theorem X19.p (N : Nat) : PFun Tryz.prog gl 19 as19 rs19 (fun x => X19 N x.1 x.2.1) :=
  PFun.ev (c := c19 N) ⟨mixed, tiok, fun f k h => (by cases h), fun f k h => (by cases h), eqtok, fun t n f h => (by cases h)⟩ h19 (f := 19) (fn := Tryz.f19) (b := b19) (by kernel_rfl) (by kernel_rfl) (by kernel_rfl) (by kernel_rfl) (by decide) (fun x y h => ⟨N, (X19.ev N x.1 x.2.1).trans h⟩)
end Go.Eng.T
end
noncomputable section
namespace Go.Eng.T
open Go.RowKit
open Go.Proofs
set_option linter.unusedVariables false
/- laws.szDeskS -/
abbrev as5 : List Sh := [.one (.sl false T58), .one (.int .i64)]
abbrev rs5 : Rs := .one (.one (.int .i64))
def h5 : Hint := { keep := fun | 5 => [0, 1, 5] | _ => [] }
def c5 (N : Nat) : Cfg := { ti := ti, gl := gl, eqt := eqt, meth := fun _ _ => none, con := fun | 19 => some ⟨as19, rs19, fun x => X19 N x.1 x.2.1⟩ | _ => none }
def b5 : Code := match Tryz.f5.body with | some b => b | none => .skip
def X5.l5.t (a1 : List T58.den) (p3 : Int) (p4 : Int) : List (Nat × D) := [(0, .val (.sl false T58) a1), (1, .val (.int .i64) p3), (5, .val (.int .i64) p4)]
def X5.l5.h (a1 : List T58.den) (p3 : Int) (p4 : Int) : List E := []
def X5.l5 (N : Nat) (a1 : List T58.den)  : Nat → Int → Int → Option Int
  | 0, _, _ => none
  | n + 1, p3, p4 =>
    bif decide (p4 < (a1.length : Int)) then
      (if (0 : Int) ≤ p4 then Option.bind (a1[p4.toNat]?) fun v5 =>
      Option.bind (X19 N v5 p3) fun v6 =>
      bif decide (v6 < 0) then
        some (-1)
      else X5.l5 N a1 n v6 (IntKind.i64.wrap (p4 + 1)) else none)
    else some p3
def X5.l5.ce (N : Nat) (oc : List (Nat × (List (Nat × D) → List E → Option Int))) : Nat → List (Nat × D) → List E → Option Int := loopAt (c5 N) h5 N (endK (c5 N) Tryz.f5 (mvRs rs5)) [.b, .b, .b, .a, .b, .a] b5 oc 0
theorem X5.l5.s (N n : Nat)  (a1 : List T58.den) (p3 : Int) (p4 : Int) : X5.l5.ce N [] (n + 1) (X5.l5.t a1 p3 p4) (X5.l5.h a1 p3 p4) =
    bif decide (p4 < (a1.length : Int)) then
      (if (0 : Int) ≤ p4 then Option.bind (a1[p4.toNat]?) fun v5 =>
      Option.bind (X19 N v5 p3) fun v6 =>
      bif decide (v6 < 0) then
        some (-1)
      else X5.l5.ce N [] n (X5.l5.t a1 v6 (IntKind.i64.wrap (p4 + 1))) (X5.l5.h a1 v6 (IntKind.i64.wrap (p4 + 1))) else none)
    else some p3 := by kernel_rfl
theorem X5.l5.e (N : Nat)  (a1 : List T58.den) : ∀ (n : Nat) (p3 : Int) (p4 : Int), X5.l5.ce N [] n (X5.l5.t a1 p3 p4) (X5.l5.h a1 p3 p4) = X5.l5 N a1 n p3 p4
  | 0, _, _ => rfl
  | n + 1, p3, p4 => by rw [X5.l5.s, X5.l5]; (try simp only [X5.l5.e N a1 n])
def X5 (N : Nat) (a1 : List T58.den) (a2 : Int) : Option Int :=
  bif decide ((IntKind.i64.wrap (a2 - (a1.length : Int))) < 0) then
    some (-1)
  else X5.l5 N a1 N (IntKind.i64.wrap (a2 - (a1.length : Int))) 0
theorem X5.ev (N : Nat) (a1 : List T58.den) (a2 : Int) : evF (c5 N) h5 Tryz.f5 as5 rs5 N (a1, a2, ()) = X5 N a1 a2 :=
  (show evF (c5 N) h5 Tryz.f5 as5 rs5 N (a1, a2, ()) =
    bif decide ((IntKind.i64.wrap (a2 - (a1.length : Int))) < 0) then
      some (-1)
    else X5.l5.ce N [] N (X5.l5.t a1 (IntKind.i64.wrap (a2 - (a1.length : Int))) 0) (X5.l5.h a1 (IntKind.i64.wrap (a2 - (a1.length : Int))) 0) by kernel_rfl).trans (by simp only [X5.l5.e]; try rfl)
theorem X5.p (N : Nat) : PFun Tryz.prog gl 5 as5 rs5 (fun x => X5 N x.1 x.2.1) :=
  PFun.ev (c := c5 N) ⟨mixed, tiok, fun f k h => (by simp only [c5] at h; split at h <;> first | (cases h; done) | (cases h; first | exact X19.p N)), fun f k h => (by cases h), eqtok, fun t n f h => (by cases h)⟩ h5 (f := 5) (fn := Tryz.f5) (b := b5) (by kernel_rfl) (by kernel_rfl) (by kernel_rfl) (by kernel_rfl) (by decide) (fun x y h => ⟨N, (X5.ev N x.1 x.2.1).trans h⟩)
end Go.Eng.T
end
noncomputable section
namespace Go.Eng.T
open Go.RowKit
open Go.Proofs
set_option linter.unusedVariables false
/- spec.l1In -/
abbrev as42 : List Sh := [.one (.int .i64), .one (.int .i64), .one (.int .i64)]
abbrev rs42 : Rs := .one (.one .bool)
def h42 : Hint := {  }
def c42 (N : Nat) : Cfg := { ti := ti, gl := gl, eqt := eqt, meth := fun _ _ => none, con := fun _ => none }
def b42 : Code := match Tryz.f42.body with | some b => b | none => .skip
def X42 (N : Nat) (a1 : Int) (a2 : Int) (a3 : Int) : Option Bool :=
  bif decide (a1 ≥ a2) then
    some (decide (a1 ≤ a3))
  else some false
theorem X42.ev (N : Nat) (a1 : Int) (a2 : Int) (a3 : Int) : evF (c42 N) h42 Tryz.f42 as42 rs42 N (a1, a2, a3, ()) = X42 N a1 a2 a3 := by kernel_rfl
theorem X42.p (N : Nat) : PFun Tryz.prog gl 42 as42 rs42 (fun x => X42 N x.1 x.2.1 x.2.2.1) :=
  PFun.ev (c := c42 N) ⟨mixed, tiok, fun f k h => (by cases h), fun f k h => (by cases h), eqtok, fun t n f h => (by cases h)⟩ h42 (f := 42) (fn := Tryz.f42) (b := b42) (by kernel_rfl) (by kernel_rfl) (by kernel_rfl) (by kernel_rfl) (by decide) (fun x y h => ⟨N, (X42.ev N x.1 x.2.1 x.2.2.1).trans h⟩)
end Go.Eng.T
end
noncomputable section
namespace Go.Eng.T
open Go.RowKit
open Go.Proofs
set_option linter.unusedVariables false
/- spec.l1Byte -/
abbrev as108 : List Sh := [.one (.int .u8)]
abbrev rs108 : Rs := .one (.one .bool)
def h108 : Hint := {  }
def c108 (N : Nat) : Cfg := { ti := ti, gl := gl, eqt := eqt, meth := fun _ _ => none, con := fun _ => none }
def b108 : Code := match Tryz.f108.body with | some b => b | none => .skip
def X108 (N : Nat) (a1 : Int) : Option Bool :=
  bif decide (a1 ≥ 97) then
    bif decide (a1 ≤ 122) then
      some true
    else bif decide (a1 ≥ 48) then
      bif decide (a1 ≤ 57) then
        some true
      else some (a1 == 45)
    else some (a1 == 45)
  else bif decide (a1 ≥ 48) then
    bif decide (a1 ≤ 57) then
      some true
    else some (a1 == 45)
  else some (a1 == 45)
theorem X108.ev (N : Nat) (a1 : Int) : evF (c108 N) h108 Tryz.f108 as108 rs108 N (a1, ()) = X108 N a1 := by kernel_rfl
theorem X108.p (N : Nat) : PFun Tryz.prog gl 108 as108 rs108 (fun x => X108 N x.1) :=
  PFun.ev (c := c108 N) ⟨mixed, tiok, fun f k h => (by cases h), fun f k h => (by cases h), eqtok, fun t n f h => (by cases h)⟩ h108 (f := 108) (fn := Tryz.f108) (b := b108) (by kernel_rfl) (by kernel_rfl) (by kernel_rfl) (by kernel_rfl) (by decide) (fun x y h => ⟨N, (X108.ev N x.1).trans h⟩)
end Go.Eng.T
end
noncomputable section
namespace Go.Eng.T
open Go.RowKit
open Go.Proofs
set_option linter.unusedVariables false
/- spec.l1NameOk -/
abbrev as68 : List Sh := [.one .str]
abbrev rs68 : Rs := .one (.one .bool)
def h68 : Hint := { keep := fun | 4 => [0, 3] | _ => [] }
def c68 (N : Nat) : Cfg := { ti := ti, gl := gl, eqt := eqt, meth := fun _ _ => none, con := fun | 42 => some ⟨as42, rs42, fun x => X42 N x.1 x.2.1 x.2.2.1⟩ | 108 => some ⟨as108, rs108, fun x => X108 N x.1⟩ | _ => none }
def b68 : Code := match Tryz.f68.body with | some b => b | none => .skip
def X68.l4.t (a1 : ByteArray) (p4 : Int) : List (Nat × D) := [(0, .val .str a1), (3, .val (.int .i64) p4)]
def X68.l4.h (a1 : ByteArray) (p4 : Int) : List E := []
def X68.l4 (N : Nat) (a1 : ByteArray)  : Nat → Int → Option Bool
  | 0, _ => none
  | n + 1, p4 =>
    bif decide (p4 < (a1.size : Int)) then
      (if (0 : Int) ≤ p4 then Option.bind (a1[p4.toNat]?) fun b5 =>
      Option.bind (X108 N (b5.toNat : Int)) fun v6 =>
      bif !v6 then
        some false
      else X68.l4 N a1 n (IntKind.i64.wrap (p4 + 1)) else none)
    else some true
def X68.l4.ce (N : Nat) (oc : List (Nat × (List (Nat × D) → List E → Option Bool))) : Nat → List (Nat × D) → List E → Option Bool := loopAt (c68 N) h68 N (endK (c68 N) Tryz.f68 (mvRs rs68)) [.b, .b, .a, .b, .a] b68 oc 0
theorem X68.l4.s (N n : Nat)  (a1 : ByteArray) (p4 : Int) : X68.l4.ce N [] (n + 1) (X68.l4.t a1 p4) (X68.l4.h a1 p4) =
    bif decide (p4 < (a1.size : Int)) then
      (if (0 : Int) ≤ p4 then Option.bind (a1[p4.toNat]?) fun b5 =>
      Option.bind (X108 N (b5.toNat : Int)) fun v6 =>
      bif !v6 then
        some false
      else X68.l4.ce N [] n (X68.l4.t a1 (IntKind.i64.wrap (p4 + 1))) (X68.l4.h a1 (IntKind.i64.wrap (p4 + 1))) else none)
    else some true := by kernel_rfl
theorem X68.l4.e (N : Nat)  (a1 : ByteArray) : ∀ (n : Nat) (p4 : Int), X68.l4.ce N [] n (X68.l4.t a1 p4) (X68.l4.h a1 p4) = X68.l4 N a1 n p4
  | 0, _ => rfl
  | n + 1, p4 => by rw [X68.l4.s, X68.l4]; (try simp only [X68.l4.e N a1 n])
def X68 (N : Nat) (a1 : ByteArray) : Option Bool :=
  Option.bind (X42 N (a1.size : Int) 1 16) fun v3 =>
  bif !v3 then
    some false
  else X68.l4 N a1 N 0
theorem X68.ev (N : Nat) (a1 : ByteArray) : evF (c68 N) h68 Tryz.f68 as68 rs68 N (a1, ()) = X68 N a1 :=
  (show evF (c68 N) h68 Tryz.f68 as68 rs68 N (a1, ()) =
    Option.bind (X42 N (a1.size : Int) 1 16) fun v3 =>
    bif !v3 then
      some false
    else X68.l4.ce N [] N (X68.l4.t a1 0) (X68.l4.h a1 0) by kernel_rfl).trans (by simp only [X68.l4.e]; try rfl)
theorem X68.p (N : Nat) : PFun Tryz.prog gl 68 as68 rs68 (fun x => X68 N x.1) :=
  PFun.ev (c := c68 N) ⟨mixed, tiok, fun f k h => (by simp only [c68] at h; split at h <;> first | (cases h; done) | (cases h; first | exact X42.p N | exact X108.p N)), fun f k h => (by cases h), eqtok, fun t n f h => (by cases h)⟩ h68 (f := 68) (fn := Tryz.f68) (b := b68) (by kernel_rfl) (by kernel_rfl) (by kernel_rfl) (by kernel_rfl) (by decide) (fun x y h => ⟨N, (X68.ev N x.1).trans h⟩)
end Go.Eng.T
end
noncomputable section
namespace Go.Eng.T
open Go.RowKit
open Go.Proofs
set_option linter.unusedVariables false
/- spec.l4Team -/
abbrev as106 : List Sh := [.one (.sl false T77), .one .str]
abbrev rs106 : Rs := .one (.one .bool)
def h106 : Hint := { keep := fun | 2 => [0, 1, 5] | _ => [] }
def c106 (N : Nat) : Cfg := { ti := ti, gl := gl, eqt := eqt, meth := fun _ _ => none, con := fun _ => none }
def b106 : Code := match Tryz.f106.body with | some b => b | none => .skip
def X106.l2.t (a1 : List T77.den) (a2 : ByteArray) (p3 : Int) : List (Nat × D) := [(0, .val (.sl false T77) a1), (1, .val .str a2), (5, .val (.int .i64) p3)]
def X106.l2.h (a1 : List T77.den) (a2 : ByteArray) (p3 : Int) : List E := []
def X106.l2 (N : Nat) (a1 : List T77.den) (a2 : ByteArray)  : Nat → Int → Option Bool
  | 0, _ => none
  | n + 1, p3 =>
    bif decide (p3 < (a1.length : Int)) then
      (if (0 : Int) ≤ p3 then Option.bind (a1[p3.toNat]?) fun v4 =>
      bif v4.1.toList == a2.toList then
        some true
      else X106.l2 N a1 a2 n (IntKind.i64.wrap (p3 + 1)) else none)
    else some false
def X106.l2.ce (N : Nat) (oc : List (Nat × (List (Nat × D) → List E → Option Bool))) : Nat → List (Nat × D) → List E → Option Bool := loopAt (c106 N) h106 N (endK (c106 N) Tryz.f106 (mvRs rs106)) [.b, .a, .b, .a] b106 oc 0
theorem X106.l2.s (N n : Nat)  (a1 : List T77.den) (a2 : ByteArray) (p3 : Int) : X106.l2.ce N [] (n + 1) (X106.l2.t a1 a2 p3) (X106.l2.h a1 a2 p3) =
    bif decide (p3 < (a1.length : Int)) then
      (if (0 : Int) ≤ p3 then Option.bind (a1[p3.toNat]?) fun v4 =>
      bif v4.1.toList == a2.toList then
        some true
      else X106.l2.ce N [] n (X106.l2.t a1 a2 (IntKind.i64.wrap (p3 + 1))) (X106.l2.h a1 a2 (IntKind.i64.wrap (p3 + 1))) else none)
    else some false := by kernel_rfl
theorem X106.l2.e (N : Nat)  (a1 : List T77.den) (a2 : ByteArray) : ∀ (n : Nat) (p3 : Int), X106.l2.ce N [] n (X106.l2.t a1 a2 p3) (X106.l2.h a1 a2 p3) = X106.l2 N a1 a2 n p3
  | 0, _ => rfl
  | n + 1, p3 => by rw [X106.l2.s, X106.l2]; (try simp only [X106.l2.e N a1 a2 n])
def X106 (N : Nat) (a1 : List T77.den) (a2 : ByteArray) : Option Bool :=
  X106.l2 N a1 a2 N 0
theorem X106.ev (N : Nat) (a1 : List T77.den) (a2 : ByteArray) : evF (c106 N) h106 Tryz.f106 as106 rs106 N (a1, a2, ()) = X106 N a1 a2 :=
  (show evF (c106 N) h106 Tryz.f106 as106 rs106 N (a1, a2, ()) =
    X106.l2.ce N [] N (X106.l2.t a1 a2 0) (X106.l2.h a1 a2 0) by kernel_rfl).trans (by simp only [X106.l2.e]; try rfl)
theorem X106.p (N : Nat) : PFun Tryz.prog gl 106 as106 rs106 (fun x => X106 N x.1 x.2.1) :=
  PFun.ev (c := c106 N) ⟨mixed, tiok, fun f k h => (by cases h), fun f k h => (by cases h), eqtok, fun t n f h => (by cases h)⟩ h106 (f := 106) (fn := Tryz.f106) (b := b106) (by kernel_rfl) (by kernel_rfl) (by kernel_rfl) (by kernel_rfl) (by decide) (fun x y h => ⟨N, (X106.ev N x.1 x.2.1).trans h⟩)
end Go.Eng.T
end
noncomputable section
namespace Go.Eng.T
open Go.RowKit
open Go.Proofs
set_option linter.unusedVariables false
/- spec.l4Over -/
abbrev as107 : List Sh := [.one (.sl false T77), .one .str]
abbrev rs107 : Rs := .one (.one .str)
def h107 : Hint := { keep := fun | 2 => [0, 1, 5] | _ => [] }
def c107 (N : Nat) : Cfg := { ti := ti, gl := gl, eqt := eqt, meth := fun _ _ => none, con := fun _ => none }
def b107 : Code := match Tryz.f107.body with | some b => b | none => .skip
def X107.l2.t (a1 : List T77.den) (a2 : ByteArray) (p3 : Int) : List (Nat × D) := [(0, .val (.sl false T77) a1), (1, .val .str a2), (5, .val (.int .i64) p3)]
def X107.l2.h (a1 : List T77.den) (a2 : ByteArray) (p3 : Int) : List E := []
def X107.l2 (N : Nat) (a1 : List T77.den) (a2 : ByteArray)  : Nat → Int → Option ByteArray
  | 0, _ => none
  | n + 1, p3 =>
    bif decide (p3 < (a1.length : Int)) then
      (if (0 : Int) ≤ p3 then Option.bind (a1[p3.toNat]?) fun v4 =>
      bif v4.1.toList == a2.toList then
        (if (0 : Int) ≤ p3 then Option.bind (a1[p3.toNat]?) fun v5 =>
        some v5.2.1 else none)
      else X107.l2 N a1 a2 n (IntKind.i64.wrap (p3 + 1)) else none)
    else some (⟨#[]⟩ : ByteArray)
def X107.l2.ce (N : Nat) (oc : List (Nat × (List (Nat × D) → List E → Option ByteArray))) : Nat → List (Nat × D) → List E → Option ByteArray := loopAt (c107 N) h107 N (endK (c107 N) Tryz.f107 (mvRs rs107)) [.b, .a, .b, .a] b107 oc 0
theorem X107.l2.s (N n : Nat)  (a1 : List T77.den) (a2 : ByteArray) (p3 : Int) : X107.l2.ce N [] (n + 1) (X107.l2.t a1 a2 p3) (X107.l2.h a1 a2 p3) =
    bif decide (p3 < (a1.length : Int)) then
      (if (0 : Int) ≤ p3 then Option.bind (a1[p3.toNat]?) fun v4 =>
      bif v4.1.toList == a2.toList then
        (if (0 : Int) ≤ p3 then Option.bind (a1[p3.toNat]?) fun v5 =>
        some v5.2.1 else none)
      else X107.l2.ce N [] n (X107.l2.t a1 a2 (IntKind.i64.wrap (p3 + 1))) (X107.l2.h a1 a2 (IntKind.i64.wrap (p3 + 1))) else none)
    else some (⟨#[]⟩ : ByteArray) := by kernel_rfl
theorem X107.l2.e (N : Nat)  (a1 : List T77.den) (a2 : ByteArray) : ∀ (n : Nat) (p3 : Int), X107.l2.ce N [] n (X107.l2.t a1 a2 p3) (X107.l2.h a1 a2 p3) = X107.l2 N a1 a2 n p3
  | 0, _ => rfl
  | n + 1, p3 => by rw [X107.l2.s, X107.l2]; (try simp only [X107.l2.e N a1 a2 n])
def X107 (N : Nat) (a1 : List T77.den) (a2 : ByteArray) : Option ByteArray :=
  X107.l2 N a1 a2 N 0
theorem X107.ev (N : Nat) (a1 : List T77.den) (a2 : ByteArray) : evF (c107 N) h107 Tryz.f107 as107 rs107 N (a1, a2, ()) = X107 N a1 a2 :=
  (show evF (c107 N) h107 Tryz.f107 as107 rs107 N (a1, a2, ()) =
    X107.l2.ce N [] N (X107.l2.t a1 a2 0) (X107.l2.h a1 a2 0) by kernel_rfl).trans (by simp only [X107.l2.e]; try rfl)
theorem X107.p (N : Nat) : PFun Tryz.prog gl 107 as107 rs107 (fun x => X107 N x.1 x.2.1) :=
  PFun.ev (c := c107 N) ⟨mixed, tiok, fun f k h => (by cases h), fun f k h => (by cases h), eqtok, fun t n f h => (by cases h)⟩ h107 (f := 107) (fn := Tryz.f107) (b := b107) (by kernel_rfl) (by kernel_rfl) (by kernel_rfl) (by kernel_rfl) (by decide) (fun x y h => ⟨N, (X107.ev N x.1 x.2.1).trans h⟩)
end Go.Eng.T
end
noncomputable section
namespace Go.Eng.T
open Go.RowKit
open Go.Proofs
set_option linter.unusedVariables false
/- spec.GateTeamsOk -/
abbrev as67 : List Sh := [.one (.sl false T77)]
abbrev rs67 : Rs := .one (.one .bool)
def h67 : Hint := { keep := fun | 4 => [0, 3] | 11 => [0, 3, 5, 6] | _ => [], join := fun | 9 => some ([0, 3, 4], 1) | _ => none }
def c67 (N : Nat) : Cfg := { ti := ti, gl := gl, eqt := eqt, meth := fun _ _ => none, con := fun | 68 => some ⟨as68, rs68, fun x => X68 N x.1⟩ | 106 => some ⟨as106, rs106, fun x => X106 N x.1 x.2.1⟩ | 107 => some ⟨as107, rs107, fun x => X107 N x.1 x.2.1⟩ | _ => none }
def b67 : Code := match Tryz.f67.body with | some b => b | none => .skip
def X67.l11.t (a1 : List T77.den) (p2 : Int) (v3 : T77.den) (p13 : ByteArray) (p14 : Int) : List (Nat × D) := [(0, .val (.sl false T77) a1), (3, .val (.int .i64) p2), (5, .val .str p13), (6, .val (.int .i64) p14)]
def X67.l11.h (a1 : List T77.den) (p2 : Int) (v3 : T77.den) (p13 : ByteArray) (p14 : Int) : List E := [.box [.val .str v3.1, .val .str v3.2.1]]
def X67.j9.t (a1 : List T77.den) (p2 : Int) (v3 : T77.den) : List (Nat × D) := [(0, .val (.sl false T77) a1), (3, .val (.int .i64) p2), (4, .bp 0 0)]
def X67.j9.h (a1 : List T77.den) (p2 : Int) (v3 : T77.den) : List E := [.box [.val .str v3.1, .val .str v3.2.1]]
def X67.l4.t (a1 : List T77.den) (p2 : Int) : List (Nat × D) := [(0, .val (.sl false T77) a1), (3, .val (.int .i64) p2)]
def X67.l4.h (a1 : List T77.den) (p2 : Int) : List E := []
def X67.l11 (N : Nat) (a1 : List T77.den) (p2 : Int) (v3 : T77.den) (k4 : Int → Option Bool) : Nat → ByteArray → Int → Option Bool
  | 0, _, _ => none
  | n + 1, p13, p14 =>
    bif decide (p14 ≤ 4) then
      bif !(p13.toList == (⟨#[]⟩ : ByteArray).toList) then
        Option.bind (X107 N a1 p13) fun v15 =>
        X67.l11 N a1 p2 v3 k4 n v15 (IntKind.i64.wrap (p14 + 1))
      else bif !(p13.toList == (⟨#[]⟩ : ByteArray).toList) then
        some false
      else k4 (IntKind.i64.wrap (p2 + 1))
    else bif !(p13.toList == (⟨#[]⟩ : ByteArray).toList) then
      some false
    else k4 (IntKind.i64.wrap (p2 + 1))
def X67.l11.ce (N : Nat) (oc : List (Nat × (List (Nat × D) → List E → Option Bool))) : Nat → List (Nat × D) → List E → Option Bool := loopAt (c67 N) h67 N (endK (c67 N) Tryz.f67 (mvRs rs67)) [.b, .b, .a, .b, .a, .a, .b, .a, .a, .b, .b, .b, .a, .b, .a] b67 oc 1
theorem X67.l11.s (N n : Nat) (g4 : List (Nat × D) → List E → Option Bool) (a1 : List T77.den) (p2 : Int) (v3 : T77.den) (p13 : ByteArray) (p14 : Int) : X67.l11.ce N [(0, g4)] (n + 1) (X67.l11.t a1 p2 v3 p13 p14) (X67.l11.h a1 p2 v3 p13 p14) =
    bif decide (p14 ≤ 4) then
      bif !(p13.toList == (⟨#[]⟩ : ByteArray).toList) then
        Option.bind (X107 N a1 p13) fun v15 =>
        X67.l11.ce N [(0, g4)] n (X67.l11.t a1 p2 v3 v15 (IntKind.i64.wrap (p14 + 1))) (X67.l11.h a1 p2 v3 v15 (IntKind.i64.wrap (p14 + 1)))
      else bif !(p13.toList == (⟨#[]⟩ : ByteArray).toList) then
        some false
      else g4 (X67.l4.t a1 (IntKind.i64.wrap (p2 + 1))) (X67.l4.h a1 (IntKind.i64.wrap (p2 + 1)))
    else bif !(p13.toList == (⟨#[]⟩ : ByteArray).toList) then
      some false
    else g4 (X67.l4.t a1 (IntKind.i64.wrap (p2 + 1))) (X67.l4.h a1 (IntKind.i64.wrap (p2 + 1))) := by kernel_rfl
theorem X67.l11.e (N : Nat) (g4 : List (Nat × D) → List E → Option Bool) (a1 : List T77.den) (p2 : Int) (v3 : T77.den) : ∀ (n : Nat) (p13 : ByteArray) (p14 : Int), X67.l11.ce N [(0, g4)] n (X67.l11.t a1 p2 v3 p13 p14) (X67.l11.h a1 p2 v3 p13 p14) = X67.l11 N a1 p2 v3 (fun p2 => g4 (X67.l4.t a1 p2) (X67.l4.h a1 p2)) n p13 p14
  | 0, _, _ => rfl
  | n + 1, p13, p14 => by rw [X67.l11.s, X67.l11]; (try simp only [X67.l11.e N g4 a1 p2 v3 n])
def X67.j9 (N : Nat) (a1 : List T77.den) (p2 : Int) (v3 : T77.den) (k4 : Int → Option Bool)  : Option Bool :=
    pass N <|
    X67.l11 N a1 p2 v3 k4 N v3.1 0
def X67.j9.ce (N : Nat) (oc : List (Nat × (List (Nat × D) → List E → Option Bool))) : List (Nat × D) → List E → Option Bool := joinAt (c67 N) h67 N (endK (c67 N) Tryz.f67 (mvRs rs67)) [.b, .b, .a, .b, .a, .a, .b, .a, .a, .b, .b] b67 oc
theorem X67.j9.e (N : Nat) (g4 : List (Nat × D) → List E → Option Bool) (a1 : List T77.den) (p2 : Int) (v3 : T77.den) : X67.j9.ce N [(0, g4)] (X67.j9.t a1 p2 v3) (X67.j9.h a1 p2 v3) = X67.j9 N a1 p2 v3 (fun p2 => g4 (X67.l4.t a1 p2) (X67.l4.h a1 p2)) :=
  (joinAt_eq (show partAt (c67 N) h67 N (endK (c67 N) Tryz.f67 (mvRs rs67)) [.b, .b, .a, .b, .a, .a, .b, .a, .a, .b, .b] b67 [(0, g4)] (X67.j9.t a1 p2 v3) (X67.j9.h a1 p2 v3) =
    X67.l11.ce N [(0, g4)] N (X67.l11.t a1 p2 v3 v3.1 0) (X67.l11.h a1 p2 v3 v3.1 0) by kernel_rfl)).trans (by rw [X67.j9]; simp only [X67.l11.e])
def X67.l4 (N : Nat) (a1 : List T77.den)  : Nat → Int → Option Bool
  | 0, _ => none
  | n + 1, p2 =>
    bif decide (p2 < (a1.length : Int)) then
      (if (0 : Int) ≤ p2 then Option.bind (a1[p2.toNat]?) fun v3 =>
      Option.bind (X68 N v3.1) fun v16 =>
      bif !v16 then
        some false
      else bif decide (p2 > 0) then
        (if (0 : Int) ≤ (IntKind.i64.wrap (p2 - 1)) then Option.bind (a1[(IntKind.i64.wrap (p2 - 1)).toNat]?) fun v17 =>
        bif !(Op.bytesLess v17.1.toList v3.1.toList) then
          some false
        else bif !(v3.2.1.toList == (⟨#[]⟩ : ByteArray).toList) then
          Option.bind (X106 N a1 v3.2.1) fun v18 =>
          bif !v18 then
            some false
          else X67.j9 N a1 p2 v3 (X67.l4 N a1 n)
        else X67.j9 N a1 p2 v3 (X67.l4 N a1 n) else none)
      else bif !(v3.2.1.toList == (⟨#[]⟩ : ByteArray).toList) then
        Option.bind (X106 N a1 v3.2.1) fun v19 =>
        bif !v19 then
          some false
        else X67.j9 N a1 p2 v3 (X67.l4 N a1 n)
      else X67.j9 N a1 p2 v3 (X67.l4 N a1 n) else none)
    else some true
def X67.l4.ce (N : Nat) (oc : List (Nat × (List (Nat × D) → List E → Option Bool))) : Nat → List (Nat × D) → List E → Option Bool := loopAt (c67 N) h67 N (endK (c67 N) Tryz.f67 (mvRs rs67)) [.b, .b, .a, .b, .a] b67 oc 0
theorem X67.l4.s (N n : Nat)  (a1 : List T77.den) (p2 : Int) : X67.l4.ce N [] (n + 1) (X67.l4.t a1 p2) (X67.l4.h a1 p2) =
    bif decide (p2 < (a1.length : Int)) then
      (if (0 : Int) ≤ p2 then Option.bind (a1[p2.toNat]?) fun v3 =>
      Option.bind (X68 N v3.1) fun v16 =>
      bif !v16 then
        some false
      else bif decide (p2 > 0) then
        (if (0 : Int) ≤ (IntKind.i64.wrap (p2 - 1)) then Option.bind (a1[(IntKind.i64.wrap (p2 - 1)).toNat]?) fun v17 =>
        bif !(Op.bytesLess v17.1.toList v3.1.toList) then
          some false
        else bif !(v3.2.1.toList == (⟨#[]⟩ : ByteArray).toList) then
          Option.bind (X106 N a1 v3.2.1) fun v18 =>
          bif !v18 then
            some false
          else X67.j9.ce N [(0, X67.l4.ce N [] n)] (X67.j9.t a1 p2 v3) (X67.j9.h a1 p2 v3)
        else X67.j9.ce N [(0, X67.l4.ce N [] n)] (X67.j9.t a1 p2 v3) (X67.j9.h a1 p2 v3) else none)
      else bif !(v3.2.1.toList == (⟨#[]⟩ : ByteArray).toList) then
        Option.bind (X106 N a1 v3.2.1) fun v19 =>
        bif !v19 then
          some false
        else X67.j9.ce N [(0, X67.l4.ce N [] n)] (X67.j9.t a1 p2 v3) (X67.j9.h a1 p2 v3)
      else X67.j9.ce N [(0, X67.l4.ce N [] n)] (X67.j9.t a1 p2 v3) (X67.j9.h a1 p2 v3) else none)
    else some true := by kernel_rfl
theorem X67.l4.e (N : Nat)  (a1 : List T77.den) : ∀ (n : Nat) (p2 : Int), X67.l4.ce N [] n (X67.l4.t a1 p2) (X67.l4.h a1 p2) = X67.l4 N a1 n p2
  | 0, _ => rfl
  | n + 1, p2 => by rw [X67.l4.s, X67.l4]; (try simp only [X67.l4.e N a1 n, X67.j9.e, X67.j9.e, X67.j9.e, X67.j9.e])
def X67 (N : Nat) (a1 : List T77.den) : Option Bool :=
  bif decide ((a1.length : Int) > 12) then
    some false
  else X67.l4 N a1 N 0
theorem X67.ev (N : Nat) (a1 : List T77.den) : evF (c67 N) h67 Tryz.f67 as67 rs67 N (a1, ()) = X67 N a1 :=
  (show evF (c67 N) h67 Tryz.f67 as67 rs67 N (a1, ()) =
    bif decide ((a1.length : Int) > 12) then
      some false
    else X67.l4.ce N [] N (X67.l4.t a1 0) (X67.l4.h a1 0) by kernel_rfl).trans (by simp only [X67.l4.e]; try rfl)
theorem X67.p (N : Nat) : PFun Tryz.prog gl 67 as67 rs67 (fun x => X67 N x.1) :=
  PFun.ev (c := c67 N) ⟨mixed, tiok, fun f k h => (by simp only [c67] at h; split at h <;> first | (cases h; done) | (cases h; first | exact X68.p N | exact X106.p N | exact X107.p N)), fun f k h => (by cases h), eqtok, fun t n f h => (by cases h)⟩ h67 (f := 67) (fn := Tryz.f67) (b := b67) (by kernel_rfl) (by kernel_rfl) (by kernel_rfl) (by kernel_rfl) (by decide) (fun x y h => ⟨N, (X67.ev N x.1).trans h⟩)
end Go.Eng.T
end
