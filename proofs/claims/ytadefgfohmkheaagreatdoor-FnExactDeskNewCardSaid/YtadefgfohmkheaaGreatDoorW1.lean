/- Part of the proof: the law FnExactDeskNew returns yes and leaves its arguments and the listed variables as they were, in every world of the row. -/
import Derived.Test.YtadefgfohmkheaaGreatDoorE5
import Derived.Test.YtadefgfohmkheaaGreatDoorP11
import Derived.Test.YtadefgfohmkheaaGreatDoorU1
import Derived.Test.YtadefgfohmkheaaGreatDoorFg
import Derived.Test.YtadefgfohmkheaaGreatDoorFc
import Derived.Test.YtadefgfohmkheaaGreatDoorFd
import Derived.Test.YtadefgfohmkheaaGreatDoorFe
import Derived.Test.YtadefgfohmkheaaGreatDoorFf
import Derived.Test.YtadefgfohmkheaaGreatDoorFh
import Derived.Test.YtadefgfohmkheaaGreatDoorRows
import Derived.WalkKit
import Derived.ProofKit
import Derived.Lay
import Derived.LaidOnce
import Derived.SevenTiedAt
namespace Go.Proofs.YtadefgfohmkheaaGreatDoor
open Go Go.RowKit Go.ChangeShapes Go.WideShapes Go.Eng Go.Eng.T
theorem own : ownKnob Tryz.prog.godebug = none := by kernel_rfl
theorem shapes : shsP Tryz.prog 8 Tryz.f3.params.toList = some as3 := by kernel_rfl
theorem readable : (Tryz.f3.params.toList.all fun t => Tryz.prog.readableRec t && decide (t < Tryz.prog.types.size)) = true := by kernel_rfl
/-- A listed variable's type is readable. -/
def varB (P : Program) (n : String) : Bool := match P.globalNamed n with
  | some g => match (P.globals[g]?).map (·.type) with
    | some t => P.readableRec t && decide (t < P.types.size)
    | none => true
  | none => true
theorem varsB : (Rows.fnExactDeskNewSpec.vars.all (varB Tryz.prog)) = true := by kernel_rfl
set_option maxRecDepth 100000 in
theorem lifted (os : Os) (started : os.Started) (H : Type) (enc : TypeId × Value → H) :
    ReturnsInHanded {} Tryz.checked os 3 .any (fun w args => (Rows.fnExactDeskNewSpec.pre enc Tryz.prog Tryz.f3 [] false w args ∧ laidMetH Tryz.prog Rows.fnExactDeskNewRow.laid w) ∧ sizedMet enc Tryz.prog Tryz.f3 (OpenSpec.ofChange Rows.fnExactDeskNewSpec) false w args)
      (Rows.fnExactDeskNewSpec.post enc Tryz.prog Tryz.f3 false true false false) := by
  refine returnsInHanded_of_change_and (C := Tryz.checked) (X := fun w _ => laidMetH Tryz.prog Rows.fnExactDeskNewRow.laid w) (fun _ _ _ hh h => h.of_heap hh) own started (by kernel_rfl) Tryz.func3
    (ChangeSpec.witness_shaped (enc := enc) (C := Tryz.checked) (os := os) (X := fun w _ => laidMetH Tryz.prog Rows.fnExactDeskNewRow.laid w) false (World.laidAll Tryz.prog os Rows.fnExactDeskNewRow.laid) #[.agg #[.slice none 0 0, .slice none 0 0], .int .i64 0, .slice none 0 0] 8 (World.laidAll_os _ _ _)
      (World.shaped_of_ZipB (by kernel_rfl) (by kernel_rfl)) (by kernel_rfl) (by kernel_rfl) (by kernel_rfl)
      (by rw [MakeChecks.laidMetH_plain _ _ _ (by kernel_rfl)]; exact laidMet_laidAll _ (by kernel_rfl) (by kernel_rfl))) ?_
  intro W base args ds gs before hval0 hW _ _ hL _
  have hval : ∀ (j : Nat) t v, Tryz.f3.params[j]? = some t → args[j]? = some v → Value.okWide Tryz.prog W .any base t v := hval0
  have hW' : DataW.Whole enc Tryz.prog Tryz.f3.params.toList Rows.fnExactDeskNewSpec.vars false W args.toList ds gs before := hW
  refine law_frame (ss := as3) (X := fun N x => X3 N x.1 x.2.1 x.2.2.1) (n := 8) X3.p pure3 (fun w S g cs h => by cases h) laid3 shapes (fun t ht => ?_) (fun n hn g t h1 h2 => ?_) (tb := 4) (by kernel_rfl) Tryz.underlying4 hval hW' ?_
  · have := List.all_eq_true.1 readable t ht
    simpa using this
  · have := List.all_eq_true.1 varsB n hn
    unfold varB at this
    rw [h1] at this
    simp only [h2] at this
    simpa using this
  · obtain ⟨p, q, hA, hV, _⟩ := hW'
    have lenA : ∀ {ts : List TypeId} {vs : List Value} {ds : List (DataW H)} {p : List MemPlace}, DataW.TrodAll enc Tryz.prog W 0 (fun _ => true) true ts vs ds p → ds.length = ts.length := by
      intro ts
      induction ts with
      | nil => intro vs ds p h; cases vs <;> cases ds <;> first | rfl | exact h.elim
      | cons t ts ih =>
        intro vs ds p h
        cases vs with
        | nil => exact h.elim
        | cons v vs =>
          cases ds with
          | nil => exact h.elim
          | cons d ds => obtain ⟨_, _, _, h2, _⟩ := h; simp [ih h2]
    have lenV : ∀ {ns : List String} {gs : List (DataW H)} {p : List MemPlace}, DataW.TrodVars enc Tryz.prog W (fun _ => true) ns gs p → gs.length = ns.length := by
      intro ns
      induction ns with
      | nil => intro gs p h; cases gs <;> first | rfl | exact h.elim
      | cons n ns ih =>
        intro gs p h
        cases gs with
        | nil => exact h.elim
        | cons d gs => obtain ⟨_, _, _, _, _, _, _, _, _, _, h2, _⟩ := h; simp [ih h2]
    have l1 := lenA hA
    have l2 := lenV hV
    rw [show Tryz.f3.params.toList.length = 3 from by kernel_rfl] at l1
    rw [show Rows.fnExactDeskNewSpec.vars.length = 3 from rfl] at l2
    match ds, gs, l1, l2 with
    | [d1, d2, d3], [g1, g2, g3], _, _ => rfl
end Go.Proofs.YtadefgfohmkheaaGreatDoor
