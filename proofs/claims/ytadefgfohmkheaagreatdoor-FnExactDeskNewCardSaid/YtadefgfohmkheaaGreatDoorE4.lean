/- Part of the proof: the evaluator of typed functions, and that its answers are the contracts of the calls. -/
import Derived.Test.YtadefgfohmkheaaGreatDoorE3
import Derived.LoopN
/- Values moved out by shapes; the call of a function that writes into its arguments. -/
namespace Go.Eng
open Go.RowKit
open Classical
set_option linter.unusedVariables false
set_option linter.unusedSimpArgs false
set_option linter.unusedSectionVars false
section
variable {P : Program} {c : Cfg} {h : Hint} {S0 : Nat → Prop} {base : Nat → Prop} {w w' : World} {L : Nat → Nat} {β : Nat → Real} {H H2 : List E} {a : Act} {T T2 : List (Nat × D)} {o : Oper} {R : Type} {r : R}
theorem RT_okm {S : Nat → Prop} {t : Ty} {ok ok' : Nat → Prop} {cs : List Value} {x : t.den} (h : RT w S true t ok cs x) (hk : ∀ k, ok k → ok' k) : RT w S true t ok' cs x := RT_mono t h (fun k h => ⟨h, rfl⟩) (fun k h => ⟨hk k h, rfl⟩)
theorem RSh_okm {S : Nat → Prop} {s : Sh} {ok ok' : Nat → Prop} {v : Value} {x : s.ty.den} (h : RSh w S true s ok v x) (hk : ∀ k, ok k → ok' k) : RSh w S true s ok' v x := by
  cases s with
  | one t => exact ⟨h.1, RT_okm h.2 hk⟩
  | agg t => obtain ⟨arr, e, h⟩ := h; exact ⟨arr, e, RT_okm h hk⟩
theorem RTup_okm {S : Nat → Prop} : ∀ (ss : List Sh) {ok ok' : Nat → Prop} {vs : List Value} {x : Shs.den ss}, RTup w S ss ok vs x → (∀ k, ok k → ok' k) → RTup w S ss ok' vs x
  | [], _, _, _, _, h, _ => h
  | s :: r, _, _, _, _, h, hk => by
    obtain ⟨p, v, vr, e, h1, h2⟩ := h
    exact ⟨p, v, vr, e, RSh_okm h1 (fun k h => ⟨hk k h.1, h.2⟩), RTup_okm r h2 (fun k h => ⟨hk k h.1, h.2⟩)⟩
theorem mvShs_len : ∀ (ss : List Sh) {ds : List D} {H H2 : List E} {x : Shs.den ss}, mvShs ss ds H = some (x, H2) → ss.length = ds.length
  | [], [], _, _, _, _ => rfl
  | [], _ :: _, _, _, _, h => by cases h
  | _ :: _, [], _, _, _, h => by cases h
  | s :: ss, d :: ds, _, _, _, h => by
    simp only [mvShs, Option.bind_eq_some_iff] at h
    obtain ⟨x1, h1, x2, h2, h3⟩ := h
    simp [mvShs_len ss h2]
theorem mvSh_sound (hr : Rel S0 base w L β H) {s : Sh} {d : D} {v : Value} {x : s.ty.den} (hd : RD w (stab S0 base w L) β v d) (h : mvSh s d H = some (x, H2)) :
    ∃ L2 ok, Rel S0 base w L2 β H2 ∧ Mv L L2 H2 ok ∧ Dd H H2 ∧ RSh w (stab S0 base w L2) true s ok v x := by
  cases s with
  | agg t =>
    cases d with
    | agg ds =>
      simp only [mvSh] at h
      cases hb : Nat.beq ds.length t.width with
      | false => rw [hb] at h; cases h
      | true =>
        rw [hb, cond_true, Option.bind_eq_some_iff] at h
        have hb := Nat.eq_of_beq_eq_true hb
        obtain ⟨⟨y, rest, H3⟩, h1, h2⟩ := h
        simp only [Option.some.injEq, Prod.mk.injEq] at h2
        obtain ⟨rfl, rfl⟩ := h2
        obtain ⟨arr, rfl, e1, e2, e3⟩ := RD_agg hd
        have hC : CR w (stab S0 base w L) β arr.toList ds := ⟨by simpa using e1, fun u hu => by
          obtain ⟨i, hi⟩ := List.getElem?_of_mem hu
          exact e2 i u (by simpa using hi), fun i u d hu hd => e3 i u d (by simpa using hu) hd⟩
        obtain ⟨L2, okm, q1, q2, q3, q4, q5, q6⟩ := mvCells_sound t 0 hr (RT_zero t (ok := fun _ => False)) hC (.inr rfl) h1 (fun k hk => hk.elim) (fun id _ => by omega)
        rw [ov_full _ _ (by rw [hC.1, hb, zeros_len])] at q6
        exact ⟨L2, okm, q1, q2, q3, arr, rfl, RT_stab q6 (fun k h => h) (fun k hk => hk.elim (fun h => h.elim) id)⟩
    | _ => cases h
  | one t =>
    simp only [mvSh] at h
    cases hb : (Nat.beq t.width 1 && single d) with
    | false => rw [hb] at h; cases h
    | true =>
      rw [hb, cond_true, Option.bind_eq_some_iff] at h
      simp only [Bool.and_eq_true] at hb
      obtain ⟨⟨y, rest, H3⟩, h1, h2⟩ := h
      simp only [Option.some.injEq, Prod.mk.injEq] at h2
      obtain ⟨rfl, rfl⟩ := h2
      have hw := Nat.eq_of_beq_eq_true hb.1
      have ho : one v = true := RD_one hd (fun ds e => by rw [e] at hb; cases hb.2) (fun ds e => by rw [e] at hb; cases hb.2) (fun e => by rw [e] at hb; cases hb.2)
      have hC : CR w (stab S0 base w L) β [v] [d] := ⟨rfl, fun u hu => by simp at hu; subst hu; exact ho, fun i u e hu he => by
        cases i with
        | zero => simp at hu he; subst hu; subst he; exact hd
        | succ i => simp at hu⟩
      obtain ⟨L2, okm, q1, q2, q3, q4, q5, q6⟩ := mvCells_sound t 0 hr (RT_zero t (ok := fun _ => False)) hC (.inr rfl) h1 (fun k hk => hk.elim) (fun id _ => by omega)
      rw [ov_full _ _ (by rw [zeros_len, hw]; rfl)] at q6
      exact ⟨L2, okm, q1, q2, q3, hw, RT_stab q6 (fun k h => h) (fun k hk => hk.elim (fun h => h.elim) id)⟩
theorem mvShs_sound : ∀ (ss : List Sh) {L : Nat → Nat} {H H2 : List E} {ds : List D} {vs : List Value} {x : Shs.den ss}, Rel S0 base w L β H → vs.length = ds.length → (∀ (i : Nat) v d, vs[i]? = some v → ds[i]? = some d → RD w (stab S0 base w L) β v d) → mvShs ss ds H = some (x, H2) →
    ∃ L2 ok, Rel S0 base w L2 β H2 ∧ Mv L L2 H2 ok ∧ Dd H H2 ∧ RTup w (stab S0 base w L2) ss ok vs x
  | [], L, H, H2, [], vs, x, hr, hl, hd, h => by
    cases h
    exact ⟨L, _, hr, Mv.refl L H, Dd.refl H, List.eq_nil_of_length_eq_zero hl⟩
  | [], L, H, H2, _ :: _, vs, x, hr, hl, hd, h => by cases h
  | _ :: _, L, H, H2, [], vs, x, hr, hl, hd, h => by cases h
  | s :: ss, L, H, H2, d :: ds, [], x, hr, hl, hd, h => by simp at hl
  | s :: ss, L, H, H2, d :: ds, v :: vs, x, hr, hl, hd, h => by
    simp only [mvShs, Option.bind_eq_some_iff] at h
    obtain ⟨⟨x1, H3⟩, h1, ⟨x2, H4⟩, h2, h3⟩ := h
    simp only [Option.some.injEq, Prod.mk.injEq] at h3
    obtain ⟨rfl, rfl⟩ := h3
    obtain ⟨L2, ok1, q1, q2, q3, q4⟩ := mvSh_sound hr (hd 0 v d rfl rfl) h1
    obtain ⟨L3, ok2, r1, r2, r3, r4⟩ := mvShs_sound ss (vs := vs) q1 (by simpa using hl) (fun i v d hv hd2 => RD_grow (hd (i + 1) v d (by simpa using hv) (by simpa using hd2)) (stab_mv q2.zero) (fun _ _ => rfl)) h2
    refine ⟨L3, fun k => ok1 k ∨ ok2 k, r1, q2.trans r2 r3, q3.trans r3, ok1, v, vs, rfl, ?_, ?_⟩
    · have := RSh_stab (L2 := L3) q4 r2.zero
      exact RSh_okm this (fun k hk => ⟨.inl hk, hk⟩)
    · refine RTup_okm ss r4 (fun k hk => ⟨.inr hk, fun h1 => ?_⟩)
      have h2 := (q2.got k h1).1
      obtain ⟨_, id, h3, _⟩ := r2.got k hk
      omega
theorem mvCell_arr {t : Ty} {d : D} {y : t.den} (h : mvCell t d H = some (y, H2)) : (∀ (i : Nat) (s : Ty) (l : List s.den), H2[i]? = some (.arr s l) → H[i]? = some (.arr s l)) ∧ ∀ (id : Nat) (s : Ty), t = .sl true s → d = .ow id → ∃ l, H[id]? = some (.arr s l) := by
  have hset : ∀ (id i : Nat) (e : E), (∀ s l, e ≠ .arr s l) → ∀ (s : Ty) (l : List s.den), (H.set id e)[i]? = some (.arr s l) → H[i]? = some (.arr s l) := fun id i e he s l hi => by
    rw [List.getElem?_set] at hi
    split at hi
    · split at hi
      · cases hi; exact absurd rfl (he _ _)
      · cases hi
    · exact hi
  unfold mvCell at h
  split at h
  · cases h; exact ⟨fun _ _ _ h => h, fun id s _ e => by cases e⟩
  · rename_i t2 id
    split at h
    · rename_i t3 l hH
      split at h
      · rename_i e
        subst e
        cases h
        exact ⟨fun i s l h => hset _ _ _ (fun _ _ e => by cases e) s l h, fun id2 s e1 e2 => by cases e1; cases e2; exact ⟨l, hH⟩⟩
      · cases h
    · cases h
  · cases h
  · rename_i t2 id
    split at h
    · rename_i t3 l hH
      split at h
      · cases h
        exact ⟨fun i s l h => hset _ _ _ (fun _ _ e => by cases e) s l h, fun id2 s e1 => by cases e1⟩
      · cases h
    · rename_i t3 l hH
      split at h
      · cases h
        exact ⟨fun _ _ _ h => h, fun id2 s e1 => by cases e1⟩
      · cases h
    · cases h
  · cases h; exact ⟨fun _ _ _ h => h, fun id2 s e1 => by cases e1⟩
  · split at h
    · cases h
      exact ⟨fun _ _ _ h => h, fun id2 s e1 e2 => by cases e2⟩
    · cases h
  · cases h
theorem mvCells_arr : ∀ (t : Ty) {H H2 : List E} {x y : t.den} {ds rest : List D}, mvCells t x 0 ds H = some (y, rest, H2) →
    (∀ (i : Nat) (s : Ty) (l : List s.den), H2[i]? = some (.arr s l) → H[i]? = some (.arr s l)) ∧ rest = ds.drop t.width ∧ ∀ (i id : Nat) (s : Ty), (tys t)[i]? = some (.sl true s) → ds[i]? = some (.ow id) → ∃ l, H[id]? = some (.arr s l)
  | .unit, H, H2, x, y, ds, rest, h => by
    simp only [mvCells, Option.some.injEq, Prod.mk.injEq] at h
    obtain ⟨_, rfl, rfl⟩ := h
    exact ⟨fun _ _ _ h => h, rfl, fun i id s h => by simp [tys] at h⟩
  | .int k, H, H2, x, y, [], rest, h => by
    simp only [mvCells, Option.some.injEq, Prod.mk.injEq] at h
    obtain ⟨_, rfl, rfl⟩ := h
    exact ⟨fun _ _ _ h => h, rfl, fun i id s _ h => by simp at h⟩
  | .bool, H, H2, x, y, [], rest, h => by
    simp only [mvCells, Option.some.injEq, Prod.mk.injEq] at h
    obtain ⟨_, rfl, rfl⟩ := h
    exact ⟨fun _ _ _ h => h, rfl, fun i id s _ h => by simp at h⟩
  | .str, H, H2, x, y, [], rest, h => by
    simp only [mvCells, Option.some.injEq, Prod.mk.injEq] at h
    obtain ⟨_, rfl, rfl⟩ := h
    exact ⟨fun _ _ _ h => h, rfl, fun i id s _ h => by simp at h⟩
  | .sl o t, H, H2, x, y, [], rest, h => by
    simp only [mvCells, Option.some.injEq, Prod.mk.injEq] at h
    obtain ⟨_, rfl, rfl⟩ := h
    exact ⟨fun _ _ _ h => h, rfl, fun i id s _ h => by simp at h⟩
  | .int k, H, H2, x, y, d :: ds, rest, h => by
    simp only [mvCells, Option.bind_eq_some_iff, Option.some.injEq, Prod.mk.injEq] at h
    obtain ⟨⟨y2, H3⟩, h1, _, rfl, rfl⟩ := h
    exact ⟨(mvCell_arr h1).1, rfl, fun i id s h1 => by cases i with | zero => simp [tys] at h1 | succ i => simp [tys] at h1⟩
  | .bool, H, H2, x, y, d :: ds, rest, h => by
    simp only [mvCells, Option.bind_eq_some_iff, Option.some.injEq, Prod.mk.injEq] at h
    obtain ⟨⟨y2, H3⟩, h1, _, rfl, rfl⟩ := h
    exact ⟨(mvCell_arr h1).1, rfl, fun i id s h1 => by cases i with | zero => simp [tys] at h1 | succ i => simp [tys] at h1⟩
  | .str, H, H2, x, y, d :: ds, rest, h => by
    simp only [mvCells, Option.bind_eq_some_iff, Option.some.injEq, Prod.mk.injEq] at h
    obtain ⟨⟨y2, H3⟩, h1, _, rfl, rfl⟩ := h
    exact ⟨(mvCell_arr h1).1, rfl, fun i id s h1 => by cases i with | zero => simp [tys] at h1 | succ i => simp [tys] at h1⟩
  | .sl o t, H, H2, x, y, d :: ds, rest, h => by
    simp only [mvCells, Option.bind_eq_some_iff, Option.some.injEq, Prod.mk.injEq] at h
    obtain ⟨⟨y2, H3⟩, h1, _, rfl, rfl⟩ := h
    refine ⟨(mvCell_arr h1).1, rfl, fun i id s h2 h3 => ?_⟩
    cases i with
    | zero =>
      simp only [tys, List.getElem?_cons_zero, Option.some.injEq] at h2 h3
      exact (mvCell_arr h1).2 id s h2 h3
    | succ i => simp [tys] at h2
  | .pair a b, H, H2, x, y, ds, rest, h => by
    simp only [mvCells] at h
    have key : ∀ {H3 : List E} {y2 : b.den} {rest2 : List D}, mvCells b x.2 0 (ds.drop a.width) H3 = some (y2, rest2, H2) → rest2 = rest → (∀ (i : Nat) (s : Ty) (l : List s.den), H3[i]? = some (.arr s l) → H[i]? = some (.arr s l)) → (∀ (i id : Nat) (s : Ty), (tys a)[i]? = some (.sl true s) → ds[i]? = some (.ow id) → ∃ l, H[id]? = some (.arr s l)) →
        (∀ (i : Nat) (s : Ty) (l : List s.den), H2[i]? = some (.arr s l) → H[i]? = some (.arr s l)) ∧ rest = ds.drop (Ty.pair a b).width ∧ ∀ (i id : Nat) (s : Ty), (tys (Ty.pair a b))[i]? = some (.sl true s) → ds[i]? = some (.ow id) → ∃ l, H[id]? = some (.arr s l) := by
      intro H3 y2 rest2 h1 h2 h3 h4
      obtain ⟨r1, r2, r3⟩ := mvCells_arr b h1
      refine ⟨fun i s l h => h3 i s l (r1 i s l h), by rw [← h2, r2, List.drop_drop]; rfl, fun i id s h5 h6 => ?_⟩
      simp only [tys] at h5
      rcases Nat.lt_or_ge i a.width with hlt | hge
      · rw [List.getElem?_append_left (by rw [tys_width]; exact hlt)] at h5
        exact h4 i id s h5 h6
      · rw [List.getElem?_append_right (by rw [tys_width]; exact hge), tys_width] at h5
        obtain ⟨l, hl⟩ := r3 (i - a.width) id s h5 (by rw [List.getElem?_drop, show a.width + (i - a.width) = i by omega]; exact h6)
        exact ⟨l, h3 _ _ _ hl⟩
    cases hb : Nat.ble a.width 0 with
    | true =>
      have hw0 : a.width = 0 := by have := Nat.le_of_ble_eq_true hb; omega
      rw [hb, cond_true, Option.bind_eq_some_iff] at h
      obtain ⟨⟨y2, rest2, H3⟩, h3, h4⟩ := h
      cases h4
      exact key (H3 := H) (by rw [hw0] at h3 ⊢; exact h3) rfl (fun _ _ _ h => h) (fun i id s h5 => by
        have : i < (tys a).length := (List.getElem?_eq_some_iff.1 h5).1
        rw [tys_width] at this; omega)
    | false =>
      rw [hb, cond_false, Option.bind_eq_some_iff] at h
      obtain ⟨⟨y1, rest1, H3⟩, h3, h⟩ := h
      rw [Option.bind_eq_some_iff] at h
      obtain ⟨⟨y2, rest2, H4⟩, h4, h5⟩ := h
      cases h5
      obtain ⟨r1, r2, r3⟩ := mvCells_arr a h3
      simp only at h4
      rw [r2] at h4
      exact key h4 rfl r1 r3
/-- Own slices among the arguments come from entries of their types. -/
def OwOk (H : List E) : List Sh → List D → Prop
  | s :: ss, d :: ds => (∀ (i id : Nat) (t : Ty), (tys s.ty)[i]? = some (.sl true t) → (dL d)[i]? = some (.ow id) → ∃ l, H[id]? = some (.arr t l)) ∧ OwOk H ss ds
  | _, _ => True
theorem OwOk.of {H3 : List E} (hH : ∀ (i : Nat) (s : Ty) (l : List s.den), H3[i]? = some (.arr s l) → H[i]? = some (.arr s l)) : ∀ {ss : List Sh} {ds : List D}, OwOk H3 ss ds → OwOk H ss ds
  | [], _, _ => trivial
  | _ :: _, [], _ => trivial
  | s :: ss, d :: ds, h => ⟨fun i id t h1 h2 => by obtain ⟨l, hl⟩ := h.1 i id t h1 h2; exact ⟨l, hH _ _ _ hl⟩, OwOk.of hH h.2⟩
theorem mvSh_ow {s : Sh} {d : D} {x : s.ty.den} (h : mvSh s d H = some (x, H2)) : (∀ (i : Nat) (s : Ty) (l : List s.den), H2[i]? = some (.arr s l) → H[i]? = some (.arr s l)) ∧ ∀ (i id : Nat) (t : Ty), (tys s.ty)[i]? = some (.sl true t) → (dL d)[i]? = some (.ow id) → ∃ l, H[id]? = some (.arr t l) := by
  cases s with
  | agg t =>
    cases d with
    | agg ds =>
      simp only [mvSh] at h
      cases hb : Nat.beq ds.length t.width with
      | false => rw [hb] at h; cases h
      | true =>
        rw [hb, cond_true, Option.bind_eq_some_iff] at h
        obtain ⟨⟨y, rest, H3⟩, h1, h2⟩ := h
        simp only [Option.some.injEq, Prod.mk.injEq] at h2
        obtain ⟨rfl, rfl⟩ := h2
        exact ⟨(mvCells_arr t h1).1, (mvCells_arr t h1).2.2⟩
    | _ => cases h
  | one t =>
    simp only [mvSh] at h
    cases hb : (Nat.beq t.width 1 && single d) with
    | false => rw [hb] at h; cases h
    | true =>
      rw [hb, cond_true, Option.bind_eq_some_iff] at h
      simp only [Bool.and_eq_true] at hb
      obtain ⟨⟨y, rest, H3⟩, h1, h2⟩ := h
      simp only [Option.some.injEq, Prod.mk.injEq] at h2
      obtain ⟨rfl, rfl⟩ := h2
      refine ⟨(mvCells_arr t h1).1, fun i id t2 h3 h4 => (mvCells_arr t h1).2.2 i id t2 h3 ?_⟩
      cases d <;> first | exact h4 | (cases hb.2)
theorem mvShs_ow : ∀ (ss : List Sh) {H H2 : List E} {ds : List D} {x : Shs.den ss}, mvShs ss ds H = some (x, H2) → OwOk H ss ds
  | [], _, _, _, _, _ => trivial
  | _ :: _, _, _, [], _, _ => trivial
  | s :: ss, H, H2, d :: ds, x, h => by
    simp only [mvShs, Option.bind_eq_some_iff] at h
    obtain ⟨⟨x1, H3⟩, h1, ⟨x2, H4⟩, h2, h3⟩ := h
    exact ⟨(mvSh_ow h1).2, (mvShs_ow ss h2).of (mvSh_ow h1).1⟩
def vL (v : Value) : List Value := match v with | .agg arr => arr.toList | v => [v]
theorem RSh_CO {S : Nat → Prop} {s : Sh} {ok : Nat → Prop} {v : Value} {x : s.ty.den} (h : RSh w S true s ok v x) : CO w S ok (vL v) (cells s.ty x) := by
  cases s with
  | one t =>
    have h1 : vL v = [v] := by
      have := RT_one t h.2 v (by simp)
      cases v <;> first | rfl | (cases this)
    rw [h1]
    exact CO_of_RT t h.2
  | agg t =>
    obtain ⟨arr, rfl, h⟩ := h
    exact CO_of_RT t h
theorem RD_dL {S : Nat → Prop} {v : Value} {d : D} (h : RD w S β v d) {i id : Nat} (hi : (dL d)[i]? = some (.ow id)) : ∃ u, (vL v)[i]? = some u ∧ RD w S β u (.ow id) := by
  cases d with
  | agg ds =>
    obtain ⟨arr, rfl, e1, e2, e3⟩ := RD_agg h
    have hl : i < arr.size := by rw [e1]; exact (List.getElem?_eq_some_iff.1 hi).1
    exact ⟨arr[i], by show arr.toList[i]? = _; simp [hl], e3 i _ _ (Array.getElem?_eq_getElem hl) hi⟩
  | ow id2 =>
    cases i with
    | zero =>
      simp only [dL, List.getElem?_cons_zero, Option.some.injEq] at hi
      cases hi
      obtain ⟨A, n, cap, wd, e1, e2⟩ := RD_ow h
      exact ⟨v, by rw [e2]; rfl, h⟩
    | succ i => simp [dL] at hi
  | _ =>
    cases i with
    | zero => simp [dL] at hi
    | succ i => simp [dL] at hi
/-- Where the own slices of arguments lie. -/
def PreS (β : Nat → Real) : List Sh → List Value → List D → Prop
  | s :: ss, v :: vs, d :: ds => (∀ (i id : Nat) (t : Ty), (tys s.ty)[i]? = some (.sl true t) → (dL d)[i]? = some (.ow id) → ∃ A n cap, (vL v)[i]? = some (.slice A n cap) ∧ β id = .arr A n cap t.width) ∧ PreS β ss vs ds
  | _, _, _ => True
theorem PreS.of (hr : Rel S0 base w L β H) : ∀ {ss : List Sh} {vs : List Value} {ds : List D}, (∀ (i : Nat) v d, vs[i]? = some v → ds[i]? = some d → RD w (stab S0 base w L) β v d) → OwOk H ss ds → PreS β ss vs ds
  | [], _, _, _, _ => trivial
  | _ :: _, [], _, _, _ => trivial
  | _ :: _, _ :: _, [], _, _ => trivial
  | s :: ss, v :: vs, d :: ds, hd, ho => by
    refine ⟨fun i id t h1 h2 => ?_, PreS.of hr (fun i v d h1 h2 => hd (i + 1) v d (by simpa using h1) (by simpa using h2)) ho.2⟩
    obtain ⟨l, hl⟩ := ho.1 i id t h1 h2
    obtain ⟨A, cap, e1, _⟩ := hr.ent id _ hl
    obtain ⟨u, e2, e3⟩ := RD_dL (hd 0 v d rfl rfl) h2
    obtain ⟨A2, n, cap2, wd, e4, e5⟩ := RD_ow e3
    rw [e1] at e4
    cases e4
    exact ⟨A, _, cap, by rw [e2, e5], e1⟩
theorem PreS.grow {β' : Nat → Real} (hβ : ∀ id, β id ≠ .non → β' id = β id) : ∀ {ss : List Sh} {vs : List Value} {ds : List D}, PreS β ss vs ds → PreS β' ss vs ds
  | [], _, _, _ => trivial
  | _ :: _, [], _, _ => trivial
  | _ :: _, _ :: _, [], _ => trivial
  | s :: ss, v :: vs, d :: ds, h => ⟨fun i id t h1 h2 => by
      obtain ⟨A, n, cap, e1, e2⟩ := h.1 i id t h1 h2
      exact ⟨A, n, cap, e1, (hβ id (by rw [e2]; simp)).trans e2⟩, PreS.grow hβ h.2⟩
theorem backShs_sound : ∀ (ss : List Sh) {L : Nat → Nat} {H : List E} {ok : Nat → Prop} {vs : List Value} {x : Shs.den ss} {ds : List D}, RTup w (stab S0 base w L) ss ok vs x → (∀ k, ok k → L k = 1) → Rel S0 base w L β H → PreS β ss vs ds →
    ∃ L2, Rel S0 base w L2 β (backShs ss x ds H) ∧ (∀ k, L k = 0 → L2 k = 0)
  | [], L, H, ok, vs, x, ds, ht, hok, hr, hp => ⟨L, hr, fun _ h => h⟩
  | s :: ss, L, H, ok, vs, x, [], ht, hok, hr, hp => ⟨L, hr, fun _ h => h⟩
  | s :: ss, L, H, ok, vs, x, d :: ds, ht, hok, hr, hp => by
    obtain ⟨p, v, vr, rfl, h1, h2⟩ := ht
    obtain ⟨L1, q1, q2, q3⟩ := backC_sound (cells s.ty x.1) (us := vL v) (ds := dL d) (RSh_CO h1) (fun k hk => hok k hk.1) hr (fun i t l id h3 h4 => by
      obtain ⟨t2, y, h5, h6⟩ := cells_tys s.ty x.1 i _ h3
      cases h5
      exact hp.1 i id t h6 h4)
    obtain ⟨L2, r1, r2⟩ := backShs_sound ss (RTup_stab ss h2 q2) (fun k hk => by rw [q3 k (fun h => hk.2 h.2)]; exact hok k hk.1) q1 hp.2
    exact ⟨L2, r1, fun k hk => r2 k (q2 k hk)⟩
/-- The world goes on; only blocks of ok0 (nobody's till now) have turned, and there are new ones; those of okn are nobody's from now on, the others may be read. -/
theorem Rel.turn (hr : Rel S0 base w L β H) {ok0 okn : Nat → Prop} (h0 : ∀ k, ok0 k → L k = 1) (hb : Bel (fun k => k < w.heap.size ∧ ¬ ok0 k) w w') (hn : ∀ k, okn k → k < w'.heap.size ∧ (k < w.heap.size → ok0 k)) :
    Rel S0 base w' (fun k => if okn k then 1 else if ok0 k then 0 else L k) β H ∧ (∀ k, stab S0 base w L k → stab S0 base w' (fun k => if okn k then 1 else if ok0 k then 0 else L k) k ∧ w'.heap[k]? = w.heap[k]?) ∧ Bel base w w' ∧
      ∀ k, k < w'.heap.size → (k < w.heap.size → ok0 k) → ¬ okn k → stab S0 base w' (fun k => if okn k then 1 else if ok0 k then 0 else L k) k := by
  have hlow : ∀ k, base k → ¬ ok0 k ∧ ¬ okn k := fun k hk => by
    have h1 := hr.low k hk
    have h2 : ¬ ok0 k := fun h => by have := h0 k h; omega
    exact ⟨h2, fun h => h2 ((hn k h).2 (hr.base_le k hk))⟩
  have hst : ∀ k, stab S0 base w L k → stab S0 base w' (fun k => if okn k then 1 else if ok0 k then 0 else L k) k ∧ w'.heap[k]? = w.heap[k]? := fun k hk => by
    have h2 : ¬ ok0 k := fun h => by have := h0 k h; have := hk.2.2; omega
    have h3 : ¬ okn k := fun h => h2 ((hn k h).2 hk.2.1)
    refine ⟨⟨hk.1, Nat.lt_of_lt_of_le hk.2.1 hb.size, ?_⟩, hb.block k ⟨hk.2.1, h2⟩⟩
    show (if okn k then 1 else if ok0 k then 0 else L k) = 0
    rw [if_neg h3, if_neg h2]; exact hk.2.2
  refine ⟨⟨fun k hk => Nat.lt_of_lt_of_le (hr.base_le k hk) hb.size, fun k hk => ?_, fun k hk => ?_, fun k => ?_, hr.non, fun id e he => RE_grow (hr.ent id e he) hst (fun k hk => ?_) (fun _ _ => rfl)⟩, hst, ⟨hb.os, hb.tape, hb.output, hb.size, fun k hk => hb.block k ⟨hr.base_le k hk, (hlow k hk).1⟩⟩, fun k h1 h2 h3 => ?_⟩
  · show (if okn k then 1 else if ok0 k then 0 else L k) = 0
    rw [if_neg (hlow k hk).2, if_neg (hlow k hk).1]
    exact hr.low k hk
  · show (if okn k then 1 else if ok0 k then 0 else L k) = 0
    rw [if_neg (fun h => by have := (hn k h).1; omega)]
    split
    · rfl
    · exact hr.hi k (Nat.le_trans hb.size hk)
  · show (if okn k then 1 else if ok0 k then 0 else L k) < _
    have := hr.top k
    split
    · omega
    · split <;> omega
  · have hk : L k = id + 2 := hk
    have h2 : ¬ ok0 k := fun h => by have := h0 k h; omega
    have hlt : k < w.heap.size := by
      rcases Nat.lt_or_ge k w.heap.size with h | h
      · exact h
      · have := hr.hi k h; omega
    have h3 : ¬ okn k := fun h => h2 ((hn k h).2 hlt)
    refine ⟨?_, hb.block k ⟨hlt, h2⟩⟩
    show (if okn k then 1 else if ok0 k then 0 else L k) = id + 2
    rw [if_neg h3, if_neg h2]; exact hk
  · refine ⟨fun h => ?_, h1, ?_⟩
    · exact absurd (h2 (hr.base_le k h)) (hlow k h).1
    · show (if okn k then 1 else if ok0 k then 0 else L k) = 0
      rw [if_neg h3]
      split
      · rfl
      · rename_i h4
        rcases Nat.lt_or_ge k w.heap.size with h | h
        · exact absurd (h2 h) h4
        · exact hr.hi k h
variable (hc : CfgOk P c) (hr : Rel S0 base w L β H) (hT : RTm w (stab S0 base w L) β a.tmps T) (hg : GlOk c.gl w (stab S0 base w L))
include hc hr hT hg
/-- A call of a function that writes into what its arguments own. -/
theorem k_callM {f : FuncId} {args : Array Value} {ds : List D} {Kc : List E → D → Option R} (hl : args.toList.length = ds.length) (hd : ∀ (i : Nat) v d, args.toList[i]? = some v → ds[i]? = some d → RD w (stab S0 base w L) β v d) (h : callM c H f ds Kc = some r) :
    ∃ H2 d, Kc H2 d = some r ∧ (∃ fn, P.funcs[f]? = some fn ∧ fn.body.isNone = false ∧ (fn.name == "runtime.NumGoroutine") = false) ∧
      Calls P f args w fun e w' => ∃ v L' β', e = .returned v ∧ Post c.nfix S0 base w L β H a.tmps w' L' β' T H2 v d := by
  unfold callM at h
  split at h
  · rename_i k hk
    obtain ⟨as, rs, X⟩ := k
    have hP := hc.mu f _ hk
    simp only at h hP
    split at h
    · rename_i x H1 hmv
      rw [Option.bind_eq_some_iff] at h
      obtain ⟨y, hy, h⟩ := h
      obtain ⟨y, x'⟩ := y
      obtain ⟨L1, ok0, q1, q2, q3, q4⟩ := mvShs_sound as hr hl hd hmv
      have hpre : PreS β as args.toList ds := PreS.of hr hd (mvShs_ow as hmv)
      have hok0 : ∀ k, ok0 k → L1 k = 1 := fun k hk => (q2.got k hk).1
      have hcall := hP.call w (stab S0 base w L1) ok0 args x y x' (fun k hk => ⟨hk.2.1, fun h => by have := hok0 k h; have := hk.2.2; omega⟩) (fun k hk => by
        rcases Nat.lt_or_ge k w.heap.size with h1 | h1
        · exact h1
        · have := q1.hi k h1; have := hok0 k hk; omega) (fun g cs hg0 β => RD_grow (hg g cs hg0 β) (stab_mv q2.zero) (fun _ _ => rfl)) q4 hy
      have post : ∀ (w' : World) (ok1 ok2 : Nat → Prop) (v : Value) (d : D) (H2 : List E), Bel (fun k => k < w.heap.size ∧ ¬ ok0 k) w w' → (∀ k, ok1 k ∨ ok2 k → k < w'.heap.size ∧ (k < w.heap.size → ok0 k)) → (∀ k, ok1 k → ¬ ok2 k) →
          (∀ L3 : Nat → Nat, Rel S0 base w' L3 β H1 → (∀ k, ok2 k → L3 k = 1) → (∀ k, stab S0 base w L1 k ∨ (k < w'.heap.size ∧ (k < w.heap.size → ok0 k) ∧ ¬ ok1 k ∧ ¬ ok2 k) → stab S0 base w' L3 k) → ∃ (L4 : Nat → Nat) (β4 : Nat → Real), Rel S0 base w' L4 β4 H2 ∧ (∀ k, L3 k = 0 → L4 k = 0) ∧ (∀ k, L4 k = L3 k ∨ (ok2 k ∧ 2 ≤ L4 k)) ∧ (∀ id, β id ≠ .non → β4 id = β id) ∧ RD w' (stab S0 base w' L4) β4 v d) →
          RTup w' (fun k => stab S0 base w L1 k ∨ (k < w'.heap.size ∧ (k < w.heap.size → ok0 k) ∧ ¬ ok1 k ∧ ¬ ok2 k)) as ok1 args.toList x' →
          ∃ L' β', Post c.nfix S0 base w L β H a.tmps w' L' β' T (attAll (backShs as x' ds H2).length (backShs as x' ds H2)) v d := by
        intro w' ok1 ok2 v d H2 hb hn hdis hin hargs
        obtain ⟨okn, hokn⟩ : ∃ q : Nat → Prop, ∀ k, q k ↔ ok1 k ∨ ok2 k := ⟨fun k => ok1 k ∨ ok2 k, fun k => Iff.rfl⟩
        obtain ⟨t1, t2, t3, t4⟩ := q1.turn (okn := okn) hok0 hb (fun k hk => hn k ((hokn k).1 hk))
        have hS' : ∀ k, stab S0 base w L1 k ∨ (k < w'.heap.size ∧ (k < w.heap.size → ok0 k) ∧ ¬ ok1 k ∧ ¬ ok2 k) → stab S0 base w' (fun k => if okn k then 1 else if ok0 k then 0 else L1 k) k := fun k hk => hk.elim (fun h => (t2 k h).1) (fun h => t4 k h.1 h.2.1 (fun h5 => ((hokn k).1 h5).elim h.2.2.1 h.2.2.2))
        obtain ⟨L4, β4, r1, r2, r3, r4, r5⟩ := hin _ t1 (fun k hk => by show (if okn k then 1 else if ok0 k then 0 else L1 k) = 1; rw [if_pos ((hokn k).2 (.inr hk))]) hS'
        obtain ⟨L5, s1, s2⟩ := backShs_sound as (ds := ds) (RTup_upS (fun k hk => (stab_mv r2 k (hS' k hk)).1) as hargs) (fun k hk => by
          rw [(r3 k).resolve_right (fun h => hdis k hk h.1)]
          show (if okn k then 1 else if ok0 k then 0 else L1 k) = 1
          rw [if_pos ((hokn k).2 (.inl hk))]) r1 (hpre.grow r4)
        obtain ⟨L6, u1, u2⟩ := attAll_sound (backShs as x' ds H2).length s1
        have hst : ∀ k, stab S0 base w L k → stab S0 base w' L6 k ∧ w'.heap[k]? = w.heap[k]? := fun k hk => by
          have h1 := t2 k (stab_mv q2.zero k hk).1
          exact ⟨(stab_mv u2 k (stab_mv s2 k (stab_mv r2 k h1.1).1).1).1, h1.2⟩
        exact ⟨L6, β4, u1, hT.mono fun v d h => RD_grow h hst r4, RD_grow r5 (fun k hk => ⟨(stab_mv u2 k (stab_mv s2 k hk).1).1, rfl⟩) (fun _ _ => rfl), hst, t3, fun id _ hne => r4 id hne⟩
      cases rs with
      | one s =>
        simp only at h
        split at h
        · rename_i d H2 hin
          refine ⟨_, _, h, hP.func, hcall.mono ?_⟩
          rintro e w' ⟨v, ok1, ok2, rfl, hb, hn, hdis, hres, hargs⟩
          obtain ⟨L', β', hp⟩ := post w' ok1 ok2 v d H2 hb hn hdis (fun L3 g1 g2 g3 => by
            obtain ⟨L4, β4, r1, r2, r3, r4, r5⟩ := inSh_sound g1 g2 (RSh_upS hres g3) hin
            exact ⟨L4, β4, r1, r2, r3, r4, r5⟩) hargs
          exact ⟨v, L', β', rfl, hp⟩
        · cases h
      | tup ss =>
        simp only at h
        split at h
        · rename_i es H2 hin
          refine ⟨_, _, h, hP.func, hcall.mono ?_⟩
          rintro e w' ⟨v, ok1, ok2, rfl, hb, hn, hdis, ⟨_, arr, rfl, hres⟩, hargs⟩
          obtain ⟨L', β', hp⟩ := post w' ok1 ok2 (.tuple arr) (.tup es) H2 hb hn hdis (fun L3 g1 g2 g3 => by
            obtain ⟨L4, β4, r1, r2, r3, r4, r5, r6⟩ := inShs_sound ss g1 g2 (RTup_upS g3 ss hres) hin
            exact ⟨L4, β4, r1, r2, r3, r4, .tup (by simpa using r5) (fun i x d hx hd => r6 i x d (by simpa using hx) hd)⟩) hargs
          exact ⟨_, L', β', rfl, hp⟩
        · cases h
    · cases h
  · cases h
end
end Go.Eng
/- Makes, literals, calls: the evaluator's word holds; every operation. -/
namespace Go.Eng
open Go.RowKit
open Classical
set_option linter.unusedVariables false
set_option linter.unusedSimpArgs false
set_option linter.unusedSectionVars false
theorem rowsOf_lens {t : Ty} : ∀ {rs : List (List D)} {H H2 : List E} {l : List t.den}, rowsOf t rs H = some (l, H2) → ∀ r ∈ rs, r.length = t.width
  | [], H, H2, l, _, r, hr => by cases hr
  | r :: rs, H, H2, l, h, q, hq => by
    simp only [rowsOf] at h
    split at h
    · rename_i x H3 hmv
      cases hb : Nat.beq r.length t.width with
      | false => rw [hb] at h; cases h
      | true =>
        rw [hb, cond_true] at h
        split at h
        · rename_i l2 H4 hrest
          rcases List.mem_cons.1 hq with e | e
          · rw [e]; exact Nat.eq_of_beq_eq_true hb
          · exact rowsOf_lens hrest q e
        · cases h
    · cases h
theorem list_of {Q : Nat → Value → Prop} {n : Nat} (h : ∀ m, m < n → ∃ u, Q m u) : ∃ us : List Value, us.length = n ∧ ∀ (m : Nat) u, us[m]? = some u → Q m u := by
  induction n generalizing Q with
  | zero => exact ⟨[], rfl, fun m u hu => by simp at hu⟩
  | succ n ih =>
    obtain ⟨u, hu⟩ := h 0 (by omega)
    obtain ⟨us, h1, h2⟩ := ih (Q := fun m => Q (m + 1)) (fun m hm => h (m + 1) (by omega))
    refine ⟨u :: us, by simp [h1], fun m v hv => ?_⟩
    cases m with
    | zero => simp at hv; subst hv; exact hu
    | succ m => exact h2 m v (by simpa using hv)
section
variable {P : Program} {c : Cfg} {h : Hint} {S0 : Nat → Prop} {base : Nat → Prop} {w w' : World} {L : Nat → Nat} {β : Nat → Real} {H : List E} {a : Act} {T : List (Nat × D)} {o : Oper} {R : Type} {r : R} {K : List (Nat × D) → List E → D → Option R}
/-- Entries whose values are handed out are only read from then on. -/
theorem Rel.freeze : ∀ (ids : List Nat) {L : Nat → Nat} {H : List E}, Rel S0 base w L β H → noBox H ids = true →
    ∃ L2, Rel S0 base w L2 β (fzAll H ids) ∧ (∀ k, L k = 0 → L2 k = 0) ∧ (∀ id ∈ ids, ∀ k, L k = id + 2 → L2 k = 0)
  | [], L, H, hr, _ => ⟨L, hr, fun _ h => h, fun _ h => by cases h⟩
  | i :: ids, L, H, hr, hn => by
    simp only [noBox, Bool.and_eq_true] at hn
    obtain ⟨hn1, hn2⟩ := hn
    have h0 : ∀ k, L k = 0 → (if L k = i + 2 then 0 else L k) = 0 := fun k hk => by rw [if_neg (by omega)]; exact hk
    have hin : ∀ k, L k = i + 2 → stab S0 base w (fun k => if L k = i + 2 then 0 else L k) k := fun k hk => by
      refine ⟨fun hlt => ?_, ?_, ?_⟩
      · have := hr.low k hlt; omega
      · rcases Nat.lt_or_ge k w.heap.size with h3 | h3
        · exact h3
        · have := hr.hi k h3; omega
      · show (if L k = i + 2 then 0 else L k) = 0
        rw [if_pos hk]
    have fin : ∀ (H1 : List E), Rel S0 base w (fun k => if L k = i + 2 then 0 else L k) β H1 → noBox H1 ids = true → ∃ L2, Rel S0 base w L2 β (fzAll H1 ids) ∧ (∀ k, L k = 0 → L2 k = 0) ∧ (∀ id ∈ i :: ids, ∀ k, L k = id + 2 → L2 k = 0) := fun H1 hr1 hb1 => by
      obtain ⟨L2, q1, q2, q3⟩ := Rel.freeze ids hr1 hb1
      refine ⟨L2, q1, fun k hk => q2 k (h0 k hk), fun id hid k hk => ?_⟩
      by_cases hii : L k = i + 2
      · refine q2 k ?_
        show (if L k = i + 2 then 0 else L k) = 0
        rw [if_pos hii]
      · rcases List.mem_cons.1 hid with e | e
        · exact absurd (by rw [← e]; exact hk) hii
        · refine q3 id e k ?_
          show (if L k = i + 2 then 0 else L k) = id + 2
          rw [if_neg hii]
          exact hk
    have hbox : ∀ (e : E), (∀ cs, e ≠ .box cs) → (∀ t l j x hs, e ≠ .det t l j x hs) → (∀ t l n, e ≠ .mix t l n) → ∀ (ids : List Nat), noBox H ids = true → noBox (H.set i e) ids = true := fun e he he2 he3 ids => by
      induction ids with
      | nil => intro _; rfl
      | cons j r ih =>
        intro hb
        simp only [noBox, Bool.and_eq_true] at hb ⊢
        refine ⟨?_, ih hb.2⟩
        rw [List.getElem?_set]
        split
        · rename_i h1
          split at h1
          · split at h1
            · cases h1; exact absurd rfl (he _)
            · cases h1
          · have := hb.1; rw [h1] at this; cases this
        · rename_i h1
          split at h1
          · split at h1
            · cases h1; exact absurd rfl (he2 _ _ _ _ _)
            · cases h1
          · have := hb.1; rw [h1] at this; cases this
        · rename_i h1
          split at h1
          · split at h1
            · cases h1; exact absurd rfl (he3 _ _ _)
            · cases h1
          · have := hb.1; rw [h1] at this; cases this
        · rfl
    simp only [fzAll]
    cases hHi : H[i]? with
    | none =>
      have hge : H.length ≤ i := by
        rcases Nat.lt_or_ge i H.length with h1 | h1
        · rw [List.getElem?_eq_getElem h1] at hHi; cases hHi
        · exact h1
      have hd := hr.drop (id := i) (e := .dead) 0 (by omega) trivial
      rw [List.set_eq_of_length_le hge] at hd
      exact fin H hd hn2
    | some e =>
      have hset : H.set i e = H := by
        apply List.ext_getElem?
        intro j
        rw [List.getElem?_set]
        split
        · rename_i h1
          subst h1
          split
          · exact hHi.symm
          · rename_i h2
            exact (List.getElem?_eq_none (by omega)).symm
        · rfl
      cases e with
      | box cs => rw [hHi] at hn1; cases hn1
      | det _ _ _ _ _ => rw [hHi] at hn1; cases hn1
      | mix _ _ _ => rw [hHi] at hn1; cases hn1
      | dead =>
        have hd := hr.drop (id := i) (e := .dead) 0 (by omega) trivial
        rw [hset] at hd
        exact fin H hd hn2
      | fz t l =>
        obtain ⟨A, cap, e1, e2⟩ := hr.ent i _ hHi
        have hd := hr.drop (id := i) (e := .fz t l) 0 (by omega) ⟨A, cap, e1, RT_stab e2 h0 (fun k hk => hk)⟩
        rw [hset] at hd
        exact fin H hd hn2
      | arr t l =>
        obtain ⟨A, cap, e1, e2⟩ := hr.ent i _ hHi
        have hd := hr.drop (id := i) (e := .fz t l) 0 (by omega) ⟨A, cap, e1, RT_read _ e2 (fun k hk => (stab_mv h0 k hk).1) (fun k hk => hin k hk)⟩
        exact fin _ hd (hbox _ (by simp) (by simp) (by simp) ids hn2)
theorem RSh_own {S S' : Nat → Prop} {s : Sh} {ok : Nat → Prop} {v : Value} {x : s.ty.den} (ha : s.ty.allOwn = true) (h : RSh w S true s ok v x) : RSh w S' true s ok v x := by
  cases s with
  | one t => exact ⟨h.1, RT_own t ha h.2⟩
  | agg t => obtain ⟨arr, e, h⟩ := h; exact ⟨arr, e, RT_own t ha h⟩
theorem RTup_own {S S' : Nat → Prop} : ∀ (ss : List Sh) {ok : Nat → Prop} {vs : List Value} {x : Shs.den ss}, Shs.allOwn ss = true → RTup w S ss ok vs x → RTup w S' ss ok vs x
  | [], _, _, _, _, h => h
  | s :: r, _, _, _, ha, h => by
    simp only [Shs.allOwn, Bool.and_eq_true] at ha
    obtain ⟨p, v, vr, e, h1, h2⟩ := h
    exact ⟨p, v, vr, e, RSh_own ha.1 h1, RTup_own r ha.2 h2⟩
variable (hc : CfgOk P c) (hr : Rel S0 base w L β H) (hT : RTm w (stab S0 base w L) β a.tmps T) (hg : GlOk c.gl w (stab S0 base w L))
include hc hr hT hg
/-- A call whose result may own memory. -/
theorem k_callK {f : FuncId} {args : Array Value} {ds : List D} {Kc : List E → D → Option R} (hl : args.toList.length = ds.length) (hd : ∀ (i : Nat) v d, args.toList[i]? = some v → ds[i]? = some d → RD w (stab S0 base w L) β v d) (h : callK c H f ds Kc = some r) :
    ∃ H2 d, Kc H2 d = some r ∧ (∃ fn, P.funcs[f]? = some fn ∧ fn.body.isNone = false ∧ (fn.name == "runtime.NumGoroutine") = false) ∧
      Calls P f args w fun e w' => ∃ v L' β', e = .returned v ∧ Post c.nfix S0 base w L β H a.tmps w' L' β' T H2 v d := by
  unfold callK at h
  split at h
  · rename_i k hk
    obtain ⟨as, rs, X⟩ := k
    have hP := hc.con f _ hk
    simp only at h hP
    split at h
    · rename_i x hx
      rw [Option.bind_eq_some_iff] at h
      obtain ⟨y, hy, h⟩ := h
      have hbound : ∀ k, (base k → S0 k) ∧ k < w.heap.size → k < w.heap.size := fun k hk => hk.2
      have hlab : ∀ k, L k ≠ 0 → (base k → S0 k) ∧ k < w.heap.size := fun k hk => by
        have h1 : ¬ base k := fun h2 => hk (hr.low k h2)
        have h2 : k < w.heap.size := by
          rcases Nat.lt_or_ge k w.heap.size with h3 | h3
          · exact h3
          · exact absurd (hr.hi k h3) hk
        exact ⟨fun h3 => absurd h3 h1, h2⟩
      have hall : RArgs w (fun k => (base k → S0 k) ∧ k < w.heap.size) as args.toList x := rdShs_sound hr (fun k hk => ⟨hk.1, hk.2.1⟩) as hl hd (fun id _ k hk => hlab k (by omega)) hx
      have hgall : GlOk c.gl w (fun k => (base k → S0 k) ∧ k < w.heap.size) := fun g cs hg0 β => RD_grow (hg g cs hg0 β) (fun k hk => ⟨⟨hk.1, hk.2.1⟩, rfl⟩) (fun _ _ => rfl)
      -- the state behind the call, out of L2 (entries' labels as the call goes out) and H1
      have post : ∀ (L2 : Nat → Nat) (H1 H2 : List E) (w' : World) (ok : Nat → Prop) (v : Value) (d : D), Rel S0 base w L2 β H1 → (∀ k, L k = 0 → L2 k = 0) → Below w.heap.size w w' → (∀ k, ok k → w.heap.size ≤ k ∧ k < w'.heap.size) →
          (∀ L3 : Nat → Nat, Rel S0 base w' L3 β H1 → (∀ k, ok k → L3 k = 1) → (∀ k, stab S0 base w L2 k → stab S0 base w' L3 k) → (∀ k, w.heap.size ≤ k → k < w'.heap.size → ¬ ok k → stab S0 base w' L3 k) → ∃ (L4 : Nat → Nat) (β4 : Nat → Real), Rel S0 base w' L4 β4 H2 ∧ (∀ k, L3 k = 0 → L4 k = 0) ∧ (∀ id, β id ≠ .non → β4 id = β id) ∧ RD w' (stab S0 base w' L4) β4 v d) →
          ∃ L' β', Post c.nfix S0 base w L β H a.tmps w' L' β' T H2 v d := by
        intro L2 H1 H2 w' ok v d hr2 h0 hb hok hin
        obtain ⟨q1, q2⟩ := hr2.mark hb hok
        obtain ⟨L4, β4, r1, r2, r3, r4⟩ := hin _ q1 (fun k hk => by show (if ok k then 1 else L2 k) = 1; rw [if_pos hk]) (fun k hk => (q2 k hk).1) (fun k h1 h2 h3 => ⟨fun hlt => by have := hr.base_le k hlt; omega, h2, by show (if ok k then 1 else L2 k) = 0; rw [if_neg h3]; exact hr2.hi k h1⟩)
        have hst : ∀ k, stab S0 base w L k → stab S0 base w' L4 k ∧ w'.heap[k]? = w.heap[k]? := fun k hk => by
          have h1 := q2 k (stab_mv h0 k hk).1
          exact ⟨(stab_mv r2 k h1.1).1, h1.2⟩
        exact ⟨L4, β4, r1, hT.mono fun v d h => RD_grow h hst r3, r4, hst, hb.bel hr.base_le, fun id _ hne => r3 id hne⟩
      cases rs with
      | one s =>
        simp only at h
        cases hb : (s.ty.allOwn || noBox H (idsL ds)) with
        | false => rw [hb] at h; cases h
        | true =>
          rw [hb, cond_true] at h
          split at h
          · rename_i d H2 hin
            refine ⟨H2, d, h, hP.func, ?_⟩
            cases ha : s.ty.allOwn with
            | true =>
              rw [ha, cond_true] at hin
              refine (hP.call w _ args x y hbound hgall hall hy).mono ?_
              rintro e w' ⟨v, ok, rfl, hb1, hok, hres⟩
              obtain ⟨L', β', hp⟩ := post L H H2 w' ok v d hr (fun _ h => h) hb1 hok (fun L3 g1 g2 g3 g4 => by
                obtain ⟨L4, β4, r1, r2, _, r4, r5⟩ := inSh_sound g1 g2 (RSh_own ha hres) hin
                exact ⟨L4, β4, r1, r2, r4, r5⟩)
              exact ⟨v, L', β', rfl, hp⟩
            | false =>
              rw [ha, Bool.false_or] at hb
              rw [ha, cond_false] at hin
              obtain ⟨L2, f1, f2, f3⟩ := Rel.freeze (idsL ds) hr hb
              refine (hP.call w (stab S0 base w L2) args x y (fun k hk => hk.2.1) (fun g cs hg0 β => RD_grow (hg g cs hg0 β) (stab_mv f2) (fun _ _ => rfl)) (rdShs_sound hr (fun k hk => (stab_mv f2 k hk).1) as hl hd (fun id hid k hk => ⟨(hlab k (by omega)).1, (hlab k (by omega)).2, f3 id hid k hk⟩) hx) hy).mono ?_
              rintro e w' ⟨v, ok, rfl, hb1, hok, hres⟩
              obtain ⟨L', β', hp⟩ := post L2 _ H2 w' ok v d f1 f2 hb1 hok (fun L3 g1 g2 g3 g4 => by
                obtain ⟨L4, β4, r1, r2, _, r4, r5⟩ := inSh_sound g1 g2 (RSh_upS hres (fun k hk => hk.elim (g3 k) (fun h => g4 k h.1 h.2.1 h.2.2))) hin
                exact ⟨L4, β4, r1, r2, r4, r5⟩)
              exact ⟨v, L', β', rfl, hp⟩
          · cases h
      | tup ss =>
        simp only at h
        cases hb : (Shs.allOwn ss || noBox H (idsL ds)) with
        | false => rw [hb] at h; cases h
        | true =>
          rw [hb, cond_true] at h
          split at h
          · rename_i es H2 hin
            refine ⟨H2, _, h, hP.func, ?_⟩
            cases ha : Shs.allOwn ss with
            | true =>
              rw [ha, cond_true] at hin
              refine (hP.call w _ args x y hbound hgall hall hy).mono ?_
              rintro e w' ⟨v, ok, rfl, hb1, hok, _, arr, rfl, hres⟩
              obtain ⟨L', β', hp⟩ := post L H H2 w' ok (.tuple arr) (.tup es) hr (fun _ h => h) hb1 hok (fun L3 g1 g2 g3 g4 => by
                obtain ⟨L4, β4, r1, r2, _, r4, r5, r6⟩ := inShs_sound ss g1 g2 (RTup_own ss ha hres) hin
                exact ⟨L4, β4, r1, r2, r4, .tup (by simpa using r5) (fun i x d hx hd => r6 i x d (by simpa using hx) hd)⟩)
              exact ⟨_, L', β', rfl, hp⟩
            | false =>
              rw [ha, Bool.false_or] at hb
              rw [ha, cond_false] at hin
              obtain ⟨L2, f1, f2, f3⟩ := Rel.freeze (idsL ds) hr hb
              refine (hP.call w (stab S0 base w L2) args x y (fun k hk => hk.2.1) (fun g cs hg0 β => RD_grow (hg g cs hg0 β) (stab_mv f2) (fun _ _ => rfl)) (rdShs_sound hr (fun k hk => (stab_mv f2 k hk).1) as hl hd (fun id hid k hk => ⟨(hlab k (by omega)).1, (hlab k (by omega)).2, f3 id hid k hk⟩) hx) hy).mono ?_
              rintro e w' ⟨v, ok, rfl, hb1, hok, _, arr, rfl, hres⟩
              obtain ⟨L', β', hp⟩ := post L2 _ H2 w' ok (.tuple arr) (.tup es) f1 f2 hb1 hok (fun L3 g1 g2 g3 g4 => by
                obtain ⟨L4, β4, r1, r2, _, r4, r5, r6⟩ := inShs_sound ss g1 g2 (RTup_upS (fun k hk => hk.elim (g3 k) (fun h => g4 k h.1 h.2.1 h.2.2)) ss hres) hin
                exact ⟨L4, β4, r1, r2, r4, .tup (by simpa using r5) (fun i x d hx hd => r6 i x d (by simpa using hx) hd)⟩)
              exact ⟨_, L', β', rfl, hp⟩
          · cases h
    · cases h
  · exact k_callM hc hr hT hg hl hd h
theorem k_enter {f : FuncId} {args : Array Value} {H2 : List E} {d : D} (hrun : (execOp a.eval o).run P w = .ok (.enter f args) w) (h : Calls P f args w fun e w' => ∃ v L' β', e = .returned v ∧ Post c.nfix S0 base w L β H a.tmps w' L' β' T H2 v d) : KOk P c.nfix S0 base L β H o a w T H2 d := by
  intro next Q hn
  unfold Oper.wp
  rw [hrun, Oper.upon_enter]
  refine h.mono ?_
  rintro e w' ⟨v, L', β', rfl, hp⟩
  exact hn w' L' β' v hp
theorem k_makeSlice {t : TypeId} {x y : Operand} (ho : o.op = .makeSlice t x y) (h0 : opK c h o T H K = some r) : ∃ T2 H2 d, K T2 H2 d = some r ∧ KOk P c.nfix S0 base L β H o a w T2 H2 d := by
  unfold opK at h0
  simp only [ho] at h0
  split at h0
  · rename_i i n m hi hn hm
    split at h0
    · rename_i e hk
      split at h0
      · rename_i ie hie
        generalize (Option.getD _ ie.ty : Ty) = ty at h0
        cases hb : decide (ty.strip = ie.ty.strip) with
        | false => rw [hb] at h0; cases h0
        | true =>
          rw [hb, cond_true] at h0
          have hb := of_decide_eq_true hb
          split at h0
          · rename_i c1
            split at h0
            · rename_i c2
              split at h0
              · rename_i c3
                split at h0
                · rename_i c4
                  refine ⟨_, _, _, h0, ?_⟩
                  have hti := hc.ti e ie hie
                  obtain ⟨j, hj, hjb, hjs, zv, hz1, hz2⟩ := hti.bytes_of
                  have hinfo : P.info? e = some j := by
                    have := hj w
                    cases hq2 : P.info? e with
                    | none => simp [typeInfo, hq2, program, Sem.run, stuck] at this
                    | some j2 => simp [typeInfo, hq2, program, Sem.run] at this; rw [this]
                  have hzt : zeros ty = ie.zero := by rw [← hti.zeros, ← zeros_strip ty, hb, zeros_strip]
                  have hw : ty.width = ie.size := by rw [← zeros_len, hzt, hti.zero]
                  have hzsz : zv.cells.size = ie.size := by rw [← hti.zero, ← hz2]; simp
                  have c5 : (j.bytes : Int) * m ≤ 281474976710656 := by
                    rw [hjb, Int.mul_comm]
                    exact Int.le_trans c3 (by decide)
                  have hrun := run_make (P := P) w t e j zv ((hc.ti t i hi).slice_of hk) hinfo hz1 .i64 .i64 n m c1 c2 c5 c4
                  refine KOk.of_run (v := .slice (some ⟨w.heap.size, 0, none⟩) n.toNat m.toNat) ?_ (post_new hr hT (ob := .cells (madeCells zv.cells (m.toNat * j.size)) e) (q := .arr (some ⟨w.heap.size, 0, none⟩) n.toNat m.toNat ty.width) ⟨some ⟨w.heap.size, 0, none⟩, m.toNat, by simp, ?_⟩ (fun S β' hb => .ow hb))
                  · unfold execOp
                    simp only [ho, RD_int (opd_RD hT hg hn), RD_int (opd_RD hT hg hm)]
                    exact run_v hrun
                  · have hnm : n.toNat ≤ m.toNat := Int.toNat_le_toNat c2
                    rw [RT]
                    refine ⟨some ⟨w.heap.size, 0, none⟩, m.toNat, by simp, by simpa using hnm, ?_⟩
                    rw [if_pos (show (true && true) = true from rfl)]
                    refine .inr ⟨w.heap.size, 0, _, e, fun _ => 0, rfl, rfl, alloc_at _ _, by rw [size_madeCells, hjs, hw]; omega, fun j2 x2 hx => ?_⟩
                    rw [List.getElem?_replicate] at hx
                    split at hx
                    · rename_i hj2
                      cases hx
                      refine ⟨zeros ty, zeros_len ty, fun i2 u hu => ?_, RT_zero ty⟩
                      have hi2 : i2 < ty.width := by rw [← zeros_len ty]; exact (List.getElem?_eq_some_iff.1 hu).1
                      have hlt : 0 + (j2 * ty.width + i2) < m.toNat * j.size := by
                        rw [hjs, ← hw]
                        have : (j2 + 1) * ty.width ≤ m.toNat * ty.width := Nat.mul_le_mul_right _ (by omega)
                        rw [Nat.add_mul, Nat.one_mul] at this
                        omega
                      rw [Array.getElem?_eq_getElem (by rw [size_madeCells]; exact hlt)]
                      simp only [madeCells, Array.getElem_map, Array.getElem_range]
                      rw [hzsz, ← hw, Nat.zero_add, Nat.mul_comm, Nat.mul_add_mod, Nat.mod_eq_of_lt hi2]
                      rw [hzt, ← hz2] at hu
                      rw [Array.getElem?_toList] at hu
                      rw [getElem!_def, hu]
                    · cases hx
                · cases h0
              · cases h0
            · cases h0
          · cases h0
      · cases h0
    · cases h0
  · cases h0
theorem k_buildSlice {t : TypeId} {n : Nat} {parts : Array (Nat × Operand)} (ho : o.op = .buildSlice t n parts) (h0 : opK c h o T H K = some r) : ∃ T2 H2 d, K T2 H2 d = some r ∧ KOk P c.nfix S0 base L β H o a w T2 H2 d := by
  unfold opK at h0
  simp only [ho] at h0
  split at h0
  · rename_i i hi
    split at h0
    · rename_i e hk
      split at h0
      · rename_i ie ds hie hds
        cases hb : (partsOk 0 parts.toList && Nat.beq parts.size n && Nat.ble (n * ie.size) 16777216) with
        | false => rw [hb] at h0; cases h0
        | true =>
          rw [hb, cond_true] at h0
          simp only [Bool.and_eq_true] at hb
          obtain ⟨⟨hb1, hb2⟩, hb3⟩ := hb
          have hb2 := Nat.eq_of_beq_eq_true hb2
          have hb3 := Nat.le_of_ble_eq_true hb3
          generalize (Option.getD _ ie.ty : Ty) = ty at h0
          cases hw : Nat.beq ty.width ie.size && Nat.ble 1 ie.size with
          | false => rw [hw] at h0; cases h0
          | true =>
            rw [hw, cond_true] at h0
            simp only [Bool.and_eq_true] at hw
            obtain ⟨hw, hw1⟩ := hw
            have hw := Nat.eq_of_beq_eq_true hw
            have hw1 := Nat.le_of_ble_eq_true hw1
            split at h0
            · rename_i l H2 hrows
              refine ⟨_, _, _, h0, ?_⟩
              obtain ⟨hl, hq⟩ := opds_RD hc hr hT hg hds
              have hl2 : parts.toList.length = ds.length := by simpa using hl
              -- each part's cells
              have hrl := rowsOf_lens hrows
              have hCs : ∀ (j : Nat) us r, ((parts.toList.map fun p => (a.eval p.2).cells.toList))[j]? = some us → (ds.map dCells)[j]? = some r → CR w (stab S0 base w L) β us r := fun j us r hu hrr => by
                rw [List.getElem?_map, Option.map_eq_some_iff] at hu hrr
                obtain ⟨p, hp, rfl⟩ := hu
                obtain ⟨d, hd, rfl⟩ := hrr
                have hlen : (dCells d).length = ty.width := hrl (dCells d) (by exact List.mem_map_of_mem (List.mem_of_getElem? hd))
                exact RD_cells (hq j _ d (by simp [hp]) hd) (by intro e; rw [e] at hlen; simp at hlen; omega)
              obtain ⟨L2, okm, lab, q1, q2, q3, q4, q5⟩ := rowsOf_sound (t := ty) 0 hr (uss := parts.toList.map fun p => (a.eval p.2).cells.toList) (by simp [hl2]) hCs hrows
              have hti := hc.ti e ie hie
              obtain ⟨j, hj, hjb, hjs, zv, hz1, hz2⟩ := hti.bytes_of
              have hinfo : P.info? e = some j := by
                have := hj w
                cases hq2 : P.info? e with
                | none => simp [typeInfo, hq2, program, Sem.run, stuck] at this
                | some j2 => simp [typeInfo, hq2, program, Sem.run] at this; rw [this]
              have hul : ∀ (j : Nat) us, (parts.toList.map fun p => (a.eval p.2).cells.toList)[j]? = some us → us.length = ty.width := fun j us hu => by
                have hjl : j < l.length := by
                  rw [q4, List.length_map, ← hl2]
                  have := (List.getElem?_eq_some_iff.1 hu).1
                  rw [List.length_map] at this
                  exact this
                exact (q5 j _ us (List.getElem?_eq_getElem hjl) hu).1
              have hpk : ∀ (ps : List (Nat × Operand)) (k : Nat), partsOk k ps = true → ∀ (j : Nat) p, ps[j]? = some p → p.1 = k + j := by
                intro ps
                induction ps with
                | nil => intro k _ j p hp; simp at hp
                | cons x ps ih =>
                  intro k hk j p hp
                  simp only [partsOk, Bool.and_eq_true] at hk
                  cases j with
                  | zero => simp at hp; subst hp; exact Nat.eq_of_beq_eq_true hk.1
                  | succ j =>
                    have := ih (k + 1) hk.2 j p (by simpa using hp)
                    omega
              have hsz0 : (Array.map (fun i => (if n * ie.size = 0 then (#[] : Array Value) else zv.cells)[i % (if n * ie.size = 0 then (#[] : Array Value) else zv.cells).size]!) (Array.range (n * ie.size))).size = (0 + (parts.toList.map fun p => (p.1, a.eval p.2)).length) * ty.width := by
                simp [hb2, hw]
              obtain ⟨arr', f1, f2⟩ := fill_rows (size := ty.width) (parts.toList.map fun p => (p.1, a.eval p.2)) 0 _ (fun j p hp => by
                rw [List.getElem?_map, Option.map_eq_some_iff] at hp
                obtain ⟨p0, hp0, rfl⟩ := hp
                refine ⟨hpk _ _ hb1 j p0 hp0, ?_⟩
                have := hul j _ (by rw [List.getElem?_map, hp0]; rfl)
                simpa using this) hsz0
              rw [Nat.zero_mul, List.take_zero, List.nil_append, List.map_map] at f2
              have f2 : arr'.toList = (parts.toList.map fun p => (a.eval p.2).cells.toList).flatten := f2
              have hrun : (Instr.buildSlice t n (parts.map fun (i, x) => (i, a.eval x))).run P w = .ok (.slice (some ⟨w.heap.size, 0, none⟩) n n) (w.alloc (.cells arr' e)) := by
                unfold Instr.buildSlice
                simp only [Sem.run_bind, run_underlying ((hc.ti t i hi).slice_of hk) w, Result.andThen_ok, hti.size_of w]
                rw [if_neg (by omega)]
                have f3 : Instr.fill (fun i => some (i * ie.size, ie.size)) (Array.map (fun x => (if n * ie.size = 0 then (#[] : Array Value) else zv.cells)[x % (if n * ie.size = 0 then (#[] : Array Value) else zv.cells).size]!) (Array.range (n * ie.size))) (parts.map fun (i, x) => (i, a.eval x)).toList = some arr' := by
                  rw [← f1, hw]
                  simp
                by_cases hz0 : n * ie.size = 0
                · simp only [if_pos hz0] at f3 ⊢
                  rw [Sem.run_bind, Sem.run_pure]
                  simp only [Result.andThen_ok]
                  rw [f3]
                  rfl
                · simp only [if_neg hz0] at f3 ⊢
                  rw [Sem.run_bind]
                  simp only [zeroValue, Sem.run_bind, hj w, Result.andThen_ok, hz1, Sem.run_pure]
                  rw [f3]
                  rfl
              -- the new block, nobody's as yet; then the entry
              obtain ⟨L3, m1, m2, m3, m4⟩ : ∃ L3 : Nat → Nat, Rel S0 base (w.alloc (.cells arr' e)) L3 β H2 ∧ (∀ k, stab S0 base w L2 k → stab S0 base (w.alloc (.cells arr' e)) L3 k ∧ (w.alloc (.cells arr' e)).heap[k]? = w.heap[k]?) ∧ (∀ k, k = w.heap.size → L3 k = 1) ∧ (∀ k, k ≠ w.heap.size → L3 k = L2 k) := by
                have hm := q1.mark (w' := w.alloc (.cells arr' e)) (below_alloc w _) (ok := fun k => k = w.heap.size) (fun k hk => ⟨by omega, by rw [hk]; show _ < (w.heap.push _).size; simp⟩)
                exact ⟨_, hm.1, hm.2, fun k hk => if_pos hk, fun k hk => if_neg hk⟩
              have hlen : l.length = n := by rw [q4, List.length_map, ← hl2, ← hb2]; simp
              have hrows2 : ∀ r ∈ (parts.toList.map fun p => (a.eval p.2).cells.toList), r.length = ty.width := fun r hr => by
                obtain ⟨j, hj⟩ := List.getElem?_of_mem hr
                exact hul j r hj
              have hokm : ∀ k, okm k → k < w.heap.size := fun k hk => by
                obtain ⟨_, id, h1, _⟩ := q2.got k hk
                rcases Nat.lt_or_ge k w.heap.size with h3 | h3
                · exact h3
                · have := hr.hi k h3; omega
              have hent : RE (w.alloc (.cells arr' e)) (stab S0 base (w.alloc (.cells arr' e)) L3) β (fun k => k = w.heap.size ∨ okm k) (.arr (some ⟨w.heap.size, 0, none⟩) n n ty.width) (.arr ty l) := by
                refine ⟨some ⟨w.heap.size, 0, none⟩, n, by rw [hlen], ?_⟩
                rw [RT]
                refine ⟨_, n, by rw [hlen], by rw [hlen]; exact Nat.le_refl _, ?_⟩
                rw [if_pos (show (true && true) = true from rfl)]
                refine .inr ⟨w.heap.size, 0, arr', e, lab, rfl, .inl rfl, alloc_at _ _, ?_, fun j x hx => ?_⟩
                · rw [← Array.length_toList, f2, flatten_len hrows2]
                  simp [hb2]
                · have hjl : j < (parts.toList.map fun p => (a.eval p.2).cells.toList).length := by
                    have := (List.getElem?_eq_some_iff.1 hx).1
                    rw [hlen] at this
                    simp; omega
                  obtain ⟨g1, g2⟩ := q5 j x _ hx (List.getElem?_eq_getElem hjl)
                  refine ⟨_, g1, fun i2 u hu => ?_, RT_mono ty g2 m2 (fun k hk => ?_)⟩
                  · have hi2 : i2 < ty.width := by rw [← g1]; exact (List.getElem?_eq_some_iff.1 hu).1
                    rw [← Array.getElem?_toList, f2, Nat.zero_add, flatten_get hrows2 (List.getElem?_eq_getElem hjl) hi2]
                    exact hu
                  · have hk2 := hokm k hk.1
                    exact ⟨⟨.inr hk.1, by omega, by have := hk.2; omega⟩, (below_alloc w _).block k hk2⟩
              obtain ⟨L4, β4, p1, p2, p3, p4⟩ : ∃ (L4 : Nat → Nat) (β4 : Nat → Real), Rel S0 base (w.alloc (.cells arr' e)) L4 β4 (H2 ++ [.arr ty l]) ∧ (∀ k, L3 k = 0 → L4 k = 0) ∧ (∀ id, β id ≠ .non → β4 id = β id) ∧ β4 H2.length = .arr (some ⟨w.heap.size, 0, none⟩) n n ty.width := by
                have hm := m1.push (ok := fun k => k = w.heap.size ∨ okm k) (fun k hk => by
                  rcases hk with hk | hk
                  · exact m3 k hk
                  · rw [m4 k (by have := hokm k hk; omega)]
                    exact (q2.got k hk).1) hent
                exact ⟨_, _, hm.1, hm.2.1, hm.2.2, if_pos rfl⟩
              have hst : ∀ k, stab S0 base w L k → stab S0 base (w.alloc (.cells arr' e)) L4 k ∧ (w.alloc (.cells arr' e)).heap[k]? = w.heap[k]? := fun k hk => by
                have h1 := m2 k (stab_mv q2.zero k hk).1
                exact ⟨(stab_mv p2 k h1.1).1, h1.2⟩
              refine KOk.of_run (v := .slice (some ⟨w.heap.size, 0, none⟩) n n) ?_ ⟨p1, hT.mono fun v d h => RD_grow h hst p3, .ow p4, hst, (below_alloc w _).bel hr.base_le, fun id _ hne => p3 id hne⟩
              unfold execOp
              simp only [ho]
              exact run_v hrun
            · cases h0
      · cases h0
    · cases h0
  · cases h0
omit hc hr hT hg in
theorem run_slNil {t e : TypeId} (ht : P.underlying t = some (.slice e)) {op : BinOp} {A : Option Addr} {n cap : Nat} (b1 b2 : Operand) :
    (op = .eql → (do eqGuard op t b1 b2 (.slice A n cap) (.slice none 0 0); binOp op t (.slice A n cap) (.slice none 0 0) : Sem Value).run P w = .ok (.bool A.isNone) w) ∧
    (op = .neq → (do eqGuard op t b1 b2 (.slice A n cap) (.slice none 0 0); binOp op t (.slice A n cap) (.slice none 0 0) : Sem Value).run P w = .ok (.bool (!A.isNone)) w) := by
  have hg : (eqGuard op t b1 b2 (.slice A n cap) (.slice none 0 0)).run P w = .ok () w := by
    unfold eqGuard
    split <;> rfl
  have he : (Op.equal t (.slice A n cap) (.slice none 0 0)).run P w = .ok A.isNone w := by
    unfold Op.equal Op.maxDepth
    rw [Op.equalIn]
    simp only [Sem.run_bind, run_underlying ht, Result.andThen_ok]
    cases A <;> rfl
  constructor
  · rintro rfl
    simp only [Sem.run_bind, hg, Result.andThen_ok]
    simp only [binOp, Sem.run_bind, he, Result.andThen_ok]
    rfl
  · rintro rfl
    simp only [Sem.run_bind, hg, Result.andThen_ok]
    simp only [binOp, Sem.run_bind, he, Result.andThen_ok]
    rfl
theorem k_load {t : TypeId} {x : Operand} (ho : o.op = .load t x) (h0 : opK c h o T H K = some r) : ∃ T2 H2 d, K T2 H2 d = some r ∧ KOk P c.nfix S0 base L β H o a w T2 H2 d := by
  have quiet : opQ c o T H (fun d => K T H d) = some r → ∃ T2 H2 d, K T2 H2 d = some r ∧ KOk P c.nfix S0 base L β H o a w T2 H2 d := fun hq => by
    obtain ⟨d, h1, h2⟩ := opQ_sound hc hr hT hg hq
    exact ⟨T, H, d, h1, KOk.of_q hr hT h2⟩
  have h1 := h0
  unfold opK at h1
  simp only [ho] at h1
  split at h1
  · rename_i id j q hx
    split at h1
    · rename_i t2 l hH
      rw [Option.bind_eq_some_iff] at h1
      obtain ⟨x0, hj, h1⟩ := h1
      split at h1
      · rename_i i hi
        cases hn : (((cells t2 x0).drop q).take i.size).all noOwn with
        | true =>
          refine quiet ?_
          rw [hn, cond_true] at h1
          unfold opQ
          simp only [ho, hi, hx, ldK, hH, hj, Option.bind_some, hn, cond_true]
          exact h1
        | false =>
          rw [hn, cond_false] at h1
          cases hb : (outC t2 x0 q (((cells t2 x0).drop q).take i.size) [] H).2.1.all noOwn with
          | false => rw [hb] at h1; cases h1
          | true =>
            rw [hb, cond_true] at h1
            split at h1
            · rename_i d hd
              have hidl : id < H.length := (List.getElem?_eq_some_iff.1 hH).1
              obtain ⟨ad, n, cap, wd, hβ, e1⟩ := RD_ap (opd_RD hT hg hx)
              obtain ⟨A, cap2, hre, _⟩ := hr.ent id _ hH
              rw [hβ] at hre
              cases hre
              obtain ⟨L2, β2, q1, q2, q3, q4, q5⟩ := outC_sound _ (hr.det0 hH hj) hidl hβ (fun h hh => by cases hh) (fun m d hm => by
                rw [List.getElem?_take] at hm
                split at hm
                · rw [List.getElem?_drop] at hm; exact hm
                · cases hm) hb
              have hat : At w (stab S0 base w L2) β2 (ad.add (j * t2.width + q)) (outC t2 x0 q (((cells t2 x0).drop q).take i.size) [] H).2.1 := by
                obtain ⟨us, hus⟩ : ∃ us : List Value, us.length = (outC t2 x0 q (((cells t2 x0).drop q).take i.size) [] H).2.1.length ∧ ∀ m u, us[m]? = some u → ∃ d, (outC t2 x0 q (((cells t2 x0).drop q).take i.size) [] H).2.1[m]? = some d ∧ w.cell? (ad.add (j * t2.width + (q + m))) = some u ∧ one u = true ∧ RD w (stab S0 base w L2) β2 u d := by
                  refine list_of (fun m hm => ?_)
                  obtain ⟨u, g1, g2, g3⟩ := q5 m _ (List.getElem?_eq_getElem hm)
                  exact ⟨u, _, List.getElem?_eq_getElem hm, g1, g2, g3⟩
                refine ⟨us, hus.1, fun m u hu => ?_, fun m u d hu hd => ?_⟩
                · obtain ⟨d, g1, g2, g3, g4⟩ := hus.2 m u hu
                  exact ⟨by rw [add_add2, Nat.add_assoc]; exact g2, g3⟩
                · obtain ⟨d2, g1, g2, g3, g4⟩ := hus.2 m u hu
                  rw [hd] at g1; cases g1
                  exact g4
              obtain ⟨v, f1, f2⟩ := run_load_At (hc.ti t i hi) hat hd
              refine ⟨_, _, _, h1, KOk.of_run (v := v) ?_ ⟨q1, hT.mono fun v d h => RD_grow h (stab_mv q2) q3, f2, fun k hk => stab_mv q2 k hk, Bel.refl _ _, fun id _ hne => q3 id hne⟩⟩
              unfold execOp
              simp only [ho, e1]
              refine run_v ?_
              unfold Instr.loadAt
              simp only [Instr.sureAddr, Sem.run_bind, Sem.run_pure, Result.andThen_ok]
              exact f1
            · cases h1
      · cases h1
    · exact quiet h1
  · exact quiet h1
/-- Every operation. -/
theorem opK_sound (h0 : opK c h o T H K = some r) : ∃ T2 H2 d, K T2 H2 d = some r ∧ KOk P c.nfix S0 base L β H o a w T2 H2 d := by
  have quiet : opQ c o T H (fun d => K T H d) = some r → ∃ T2 H2 d, K T2 H2 d = some r ∧ KOk P c.nfix S0 base L β H o a w T2 H2 d := fun hq => by
    obtain ⟨d, h1, h2⟩ := opQ_sound hc hr hT hg hq
    exact ⟨T, H, d, h1, KOk.of_q hr hT h2⟩
  cases ho : o.op with
  | alloc e => exact k_alloc hc hr hT hg ho h0
  | box e x => exact k_box hc hr hT hg ho h0
  | buildSlice t n parts => exact k_buildSlice hc hr hT hg ho h0
  | store t x y => exact k_store hc hr hT hg ho h0
  | makeSlice t x y => exact k_makeSlice hc hr hT hg ho h0
  | load t x => exact k_load hc hr hT hg ho h0
  | binOp op t x y t2 =>
    have h1 := h0
    unfold opK at h1
    simp only [ho] at h1
    split at h1
    · rename_i e p hn
      have core : ∃ b : Bool, ((e = false → b = !p)) ∧ QOk P S0 base L β o a w (.val .bool b) := by
        unfold nilQ at hn
        have go : ∀ {i : TI} {ow : Bool} {t3 : Ty} {l : List t3.den}, c.ti t = some i → opd c T x = some (.val (.sl ow t3) l) → opd c T y = some (.imm (.slice none 0 0)) → (∃ e, i.kind = .slice e) → ∀ pol, (pol = true → op = .eql) → (pol = false → op = .neq) → ∃ b : Bool, ((l.isEmpty = false → b = !pol)) ∧ QOk P S0 base L β o a w (.val .bool b) := fun {i ow t3 l} hi hx hy hk pol h1 h2 => by
          obtain ⟨e, hk⟩ := hk
          have hu : P.underlying t = some (.slice e) := by
            have := (hc.ti t i hi).desc
            rw [hk] at this
            exact this
          have r1 := opd_RD hT hg hx
          have r2 := (RD_imm (opd_RD hT hg hy)).1
          obtain ⟨A, cap, e1, hne⟩ : ∃ A cap, a.eval x = .slice A l.length cap ∧ (l ≠ [] → A ≠ none) := by
            generalize a.eval x = vx at r1
            cases r1 with
            | val h =>
              rw [RT] at h
              obtain ⟨A, cap, q1, q2, q3⟩ := h
              refine ⟨A, cap, by simpa using q1, fun hl => ?_⟩
              rw [if_neg (by simp)] at q3
              obtain ⟨ad, q4, _⟩ := q3 hl
              rw [q4]; simp
          have hb := run_slNil (P := P) (w := w) hu (op := op) (A := A) (n := l.length) (cap := cap) x y
          refine ⟨if pol then A.isNone else !A.isNone, fun hl => ?_, ?_⟩
          · have hA : A.isNone = false := by
              have := hne (by intro e; rw [e] at hl; cases hl)
              cases A with
              | none => exact absurd rfl this
              | some _ => rfl
            rw [hA]; cases pol <;> rfl
          · cases pol with
            | true =>
              refine q_of (v := .bool A.isNone) ?_ (RD_mkBool _)
              unfold execOp
              simp only [ho]
              refine run_v ?_
              rw [e1, r2]
              exact hb.1 (h1 rfl)
            | false =>
              refine q_of (v := .bool (!A.isNone)) ?_ (RD_mkBool _)
              unfold execOp
              simp only [ho]
              refine run_v ?_
              rw [e1, r2]
              exact hb.2 (h2 rfl)
        split at hn
        · split at hn
          · rename_i i ow t3 l hi hx hy
            split at hn
            · rename_i e2 hk
              cases hn
              exact go hi hx hy ⟨_, hk⟩ true (fun _ => rfl) (fun e => by cases e)
            · cases hn
          · cases hn
        · split at hn
          · rename_i i ow t3 l hi hx hy
            split at hn
            · rename_i e2 hk
              cases hn
              exact go hi hx hy ⟨_, hk⟩ false (fun e => by cases e) (fun _ => rfl)
            · cases hn
          · cases hn
        · cases hn
      obtain ⟨b, hb1, hb2⟩ := core
      cases e with
      | true =>
        rw [cond_true] at h1
        obtain ⟨q1, q2⟩ := both_some h1
        refine ⟨T, H, .val .bool b, ?_, KOk.of_q hr hT hb2⟩
        cases b <;> cases p <;> first | exact q1 | exact q2
      | false =>
        rw [cond_false] at h1
        refine ⟨T, H, .val .bool b, ?_, KOk.of_q hr hT hb2⟩
        rw [hb1 rfl]; exact h1
    · exact quiet h1
  | call k =>
    have h1 := h0
    unfold opK at h1
    simp only [ho] at h1
    cases hk : k.callee with
    | builtin b =>
      rw [hk] at h1
      cases b with
      | append =>
        simp only at h1
        split at h1
        · rename_i x y ts ts2 hx hts
          split at h1
          · rename_i i dx dy hi hdx hdy
            split at h1
            · rename_i e hki
              split at h1
              · rename_i ie hie
                cases hb : (Nat.beq ts ts2 && Nat.ble 1 ie.bytes) with
                | false => rw [hb] at h1; cases h1
                | true =>
                  rw [hb, cond_true] at h1
                  simp only [Bool.and_eq_true] at hb
                  have hb1 := Nat.eq_of_beq_eq_true hb.1
                  subst hb1
                  exact k_append hc hr hT hg ho hk hx hts hi hki hie (Nat.le_of_ble_eq_true hb.2) hdx hdy h1
              · cases h1
            · cases h1
          · cases h1
        · cases h1
      | _ => exact quiet h1
    | value x =>
      rw [hk] at h1
      simp only at h1
      split at h1
      · rename_i f caps ds hx hd
        obtain ⟨arr, e, hl, hq⟩ := RD_fn (opd_RD hT hg hx)
        obtain ⟨hl2, hq2⟩ := opds_RD hc hr hT hg hd
        obtain ⟨H2, d, h3, h4, h5⟩ := k_callK hc hr hT hg (args := k.args.map a.eval ++ arr) (ds := ds ++ caps) (by simp at hl2 ⊢; omega) (fun i v d hv hd => by
          have e1 : (k.args.map a.eval ++ arr).toList = k.args.toList.map a.eval ++ arr.toList := by simp
          rw [e1] at hv
          rcases Nat.lt_or_ge i (k.args.toList.map a.eval).length with hi | hi
          · rw [List.getElem?_append_left hi] at hv
            rw [List.getElem?_append_left (by omega)] at hd
            exact hq2 i v d hv hd
          · rw [List.getElem?_append_right hi] at hv
            rw [List.getElem?_append_right (by omega), ← hl2] at hd
            exact hq _ v d (by rw [← Array.getElem?_toList]; exact hv) hd) h1
        exact ⟨T, H2, d, h3, k_enter hc hr hT hg (run_callValue ho hk e h4) h5⟩
      · cases h1
    | invoke x name =>
      rw [hk] at h1
      simp only at h1
      split at h1
      · rename_i t d0 ds hx hd
        obtain ⟨u, e, hu⟩ := RD_ifc (opd_RD hT hg hx)
        obtain ⟨hl2, hq2⟩ := opds_RD hc hr hT hg hd
        split at h1
        · rename_i f hm
          obtain ⟨H2, d, h3, h4, h5⟩ := k_callK hc hr hT hg (args := #[u] ++ k.args.map a.eval) (ds := d0 :: ds) (by simp at hl2 ⊢; omega) (fun i v d hv hd => by
            have e1 : (#[u] ++ k.args.map a.eval).toList = u :: k.args.toList.map a.eval := by simp
            rw [e1] at hv
            cases i with
            | zero => simp at hv hd; subst hv; subst hd; exact hu
            | succ i => exact hq2 i v d (by simpa using hv) (by simpa using hd)) h1
          exact ⟨T, H2, d, h3, k_enter hc hr hT hg (run_callInvoke ho hk e (hc.meth t name f hm u w) h4) h5⟩
        · cases h1
      · cases h1
  | _ =>
    unfold opK at h0
    simp only [ho] at h0
    exact quiet h0
end
end Go.Eng
/- Regions in the order of the text; code; functions. -/
namespace Go.Eng
open Go.RowKit
open Classical
set_option linter.unusedVariables false
set_option linter.unusedSimpArgs false
set_option linter.unusedSectionVars false
/-- What holds between operations. -/
structure SR (c : Cfg) (F : Nat → Real) (S0 : Nat → Prop) (base : Nat → Prop) (N : Nat) (w0 w : World) (L : Nat → Nat) (β : Nat → Real) (H : List E) (a : Act) (T : List (Nat × D)) : Prop where
  rel : Rel S0 base w L β H
  tmp : RTm w (stab S0 base w L) β a.tmps T
  gl : GlOk c.gl w (stab S0 base w L)
  size : a.tmps.size = N
  defers : a.defers = []
  low : Bel base w0 w
  fix : ∀ id, id < c.nfix → β id = F id
  fne : ∀ id, id < c.nfix → F id ≠ .non
def dstOk (N : Nat) (o : Oper) : Bool := match o.dst with | some d => decide (d < N) | none => true
section
variable {P : Program} {c : Cfg} {F : Nat → Real} {h : Hint} {S0 : Nat → Prop} {base : Nat → Prop} {N : Nat} {w0 w w' : World} {L L' : Nat → Nat} {β β' : Nat → Real} {H H2 : List E} {a : Act} {T T2 : List (Nat × D)} {o : Oper} {R : Type} {r : R} {ops : Array Oper}
theorem GlOk.st {gl : Nat → Option (List D)} (hg : GlOk gl w (stab S0 base w L)) (hst : ∀ k, stab S0 base w L k → stab S0 base w' L' k ∧ w'.heap[k]? = w.heap[k]?) : GlOk gl w' (stab S0 base w' L') :=
  fun g cs h β => RD_grow (hg g cs h β) hst (fun _ _ => rfl)
theorem put_size (a : Act) (d : Option Tmp) (v : Value) : (a.put d v).tmps.size = a.tmps.size := by cases d <;> simp [Act.put]
theorem put_defers (a : Act) (d : Option Tmp) (v : Value) : (a.put d v).defers = a.defers := by cases d <;> rfl
theorem SR.nle (hs : SR c F S0 base N w0 w L β H a T) : c.nfix ≤ H.length := by
  rcases Nat.lt_or_ge H.length c.nfix with h | h
  · exact absurd ((hs.fix _ h).symm.trans (hs.rel.non _ (Nat.le_refl _))) (hs.fne _ h)
  · exact h
theorem SR.put (hs : SR c F S0 base N w0 w L β H a T) (hd : dstOk N o = true) {v : Value} {d : D} (hp : Post c.nfix S0 base w L β H a.tmps w' L' β' T2 H2 v d) : SR c F S0 base N w0 w' L' β' H2 (a.put o.dst v) (putT T2 o.dst d) := by
  refine ⟨hp.rel, ?_, hs.gl.st hp.st, by rw [put_size]; exact hs.size, by rw [put_defers]; exact hs.defers, hs.low.trans hp.low, fun id hid => (hp.fix id hid (by rw [hs.fix id hid]; exact hs.fne id hid)).trans (hs.fix id hid), hs.fne⟩
  unfold dstOk at hd
  cases ho : o.dst with
  | none => exact hp.tmp
  | some t =>
    rw [ho] at hd
    exact hp.tmp.put (by rw [hs.size]; exact of_decide_eq_true hd) hp.val
theorem SR.skip (hs : SR c F S0 base N w0 w L β H a T) (hd : dstOk N o = true) : SR c F S0 base N w0 w L β H (a.put o.dst undef) (putT T o.dst unD) :=
  hs.put hd ⟨hs.rel, hs.tmp, .tup rfl (fun i x d hx => by simp at hx), fun k hk => ⟨hk, rfl⟩, Bel.refl _ _, fun _ _ _ => rfl⟩
theorem SR.say (hs : SR c F S0 base N w0 w L β H a T) {g : Nat} {b b' : Bool} (hg : look T g = some (.val .bool b)) (hb : b = b') : SR c F S0 base N w0 w L β H a ((g, .val .bool b') :: T) := by
  subst hb
  obtain ⟨v, h1, h2⟩ := hs.tmp g _ hg
  exact ⟨hs.rel, hs.tmp.say h1 h2, hs.gl, hs.size, hs.defers, hs.low, hs.fix, hs.fne⟩
theorem wanted_of {a : Act} {j : Nat} {want : Bool} {g : Nat} (ho : o.guard = some (j, want)) (hj : (ops[j]?).bind (·.dst) = some g) {b : Bool} (hb : a.tmps[g]? = some (.bool b)) : Region.wanted o (yielded ops a.tmps) = (b == want) := by
  unfold Region.wanted yielded
  rw [ho]
  simp only [hj, Option.bind_some, hb]
  cases b <;> cases want <;> rfl
theorem wanted_undef {a : Act} {j : Nat} {want : Bool} {g : Nat} (ho : o.guard = some (j, want)) (hj : (ops[j]?).bind (·.dst) = some g) {arr : Array Value} (hb : a.tmps[g]? = some (.tuple arr)) : Region.wanted o (yielded ops a.tmps) = false := by
  unfold Region.wanted yielded
  rw [ho]
  simp only [hj, Option.bind_some, hb]
  rfl
/-- The operations of a region, in the order of the text. -/
theorem opsK_sound (hc : CfgOk P c) {Q : Exit → Act → World → Prop} {K : List (Nat × D) → List E → Option R} : ∀ (rest : List Oper) {w : World} {L : Nat → Nat} {β : Nat → Real} {H : List E} {a : Act} {T : List (Nat × D)}, SR c F S0 base N w0 w L β H a T → (∀ o ∈ rest, dstOk N o = true) → opsK c h ops rest T H K = some r →
    (∀ w' L' β' H' a' T', SR c F S0 base N w0 w' L' β' H' a' T' → K T' H' = some r → Q .normal a' w') → wpList P ops Q rest a w
  | [], w, L, β, H, a, T, hs, hd, h0, hQ => wpList_nil (hQ _ _ _ _ _ _ hs h0)
  | o :: rest, w, L, β, H, a, T, hs, hd, h0, hQ => by
    have hdo := hd o (by simp)
    have hdr := fun o ho => hd o (List.mem_cons_of_mem _ ho)
    have exec : ∀ {T : List (Nat × D)}, SR c F S0 base N w0 w L β H a T → Region.wanted o (yielded ops a.tmps) = true → (opK c h o T H fun T H d => opsK c h ops rest (putT T o.dst d) H K) = some r → wpList P ops Q (o :: rest) a w := fun {T} hs hw hk => by
      obtain ⟨T2, H2, d, h1, h2⟩ := opK_sound hc hs.rel hs.tmp hs.gl hk
      refine wpList_step fun Kc hK => ?_
      rw [if_pos hw]
      exact h2 Kc Q fun w' L' β' v hp => hK _ _ (opsK_sound hc rest (hs.put hdo hp) hdr h1 hQ)
    have skip : ∀ {T : List (Nat × D)}, SR c F S0 base N w0 w L β H a T → Region.wanted o (yielded ops a.tmps) = false → opsK c h ops rest (putT T o.dst unD) H K = some r → wpList P ops Q (o :: rest) a w := fun {T} hs hw hk => by
      refine wpList_step fun Kc hK => ?_
      rw [if_neg (by rw [hw]; simp)]
      exact hK _ _ (opsK_sound hc rest (hs.skip hdo) hdr hk hQ)
    rw [opsK] at h0
    split at h0
    · rename_i hg
      exact exec hs (by simp [Region.wanted, hg]) h0
    · rename_i j want hg
      split at h0
      · rename_i g hj
        split at h0
        · rename_i b hb
          obtain ⟨v, h1, h2⟩ := hs.tmp g _ hb
          rw [RD_bool h2] at h1
          have hw := wanted_of (want := want) hg hj h1
          cases b with
          | true =>
            rw [cond_true] at h0
            cases want with
            | true => exact exec (hs.say hb rfl) hw h0
            | false => exact skip (hs.say hb rfl) hw h0
          | false =>
            rw [cond_false] at h0
            cases want with
            | true => exact skip (hs.say hb rfl) hw h0
            | false => exact exec (hs.say hb rfl) hw h0
        · rename_i hb
          obtain ⟨v, h1, h2⟩ := hs.tmp g _ hb
          obtain ⟨arr, e, _⟩ := RD_tup h2
          rw [e] at h1
          exact skip hs (wanted_undef hg hj h1) h0
        · cases h0
      · cases h0
/-- A code's slots lie within the frame; its loops' and regions' words are plain. -/
def codeOk (N : Nat) : Code → Bool
  | .skip => true
  | .region _ ops _ => ops.toList.all (dstOk N)
  | .seq a b => codeOk N a && codeOk N b
  | .cond _ a b => codeOk N a && codeOk N b
  | .block _ b => codeOk N b
  | .loop b => codeOk N b
  | .exit _ => true
  | .ret => true
  | _ => false
def exOf : Ex → Exit
  | .nrm => .normal
  | .exit i => .exit i
  | .ret => .ret
theorem look_keep {T : List (Nat × D)} {t : Nat} {d : D} : ∀ {keep : List Nat}, look (keepT T keep) t = some d → look T t = some d
  | [], h => by cases h
  | k :: keep, h => by
    simp only [keepT] at h
    split at h
    · rename_i d2 hd2
      rw [look_put] at h
      split at h
      · rename_i e; subst e; cases h; exact hd2
      · exact look_keep h
    · exact look_keep h
theorem refsT_look {p : Nat → Bool} {t : Nat} {d : D} : ∀ {T : List (Nat × D)}, refsT p T = false → look T t = some d → d.refs p = false
  | [], _, h => by cases h
  | x :: T, hr, h => by
    simp only [refsT, Bool.or_eq_false_iff] at hr
    have h : (bif Nat.beq x.1 t then some x.2 else look T t) = some d := h
    cases hb : Nat.beq x.1 t with
    | true => rw [hb, cond_true] at h; cases h; exact hr.1
    | false => rw [hb, cond_false] at h; exact refsT_look hr.2 h
theorem refsE_get {p : Nat → Bool} : ∀ {H : List E} {i : Nat} {e : E}, refsE p H = false → H[i]? = some e → e.refs p = false
  | [], i, e, _, h => by simp at h
  | e :: H, 0, e2, hr, h => by
    simp at h; subst h
    cases e with
    | box cs => simp only [refsE, Bool.or_eq_false_iff] at hr; exact hr.1
    | det t l j x hs => simp only [refsE, Bool.or_eq_false_iff] at hr; exact hr.1
    | _ => rfl
  | e :: H, i + 1, e2, hr, h => by
    refine refsE_get (H := H) ?_ (by simpa using h)
    cases e with
    | box cs2 => simp only [refsE, Bool.or_eq_false_iff] at hr; exact hr.2
    | det t l j x hs => simp only [refsE, Bool.or_eq_false_iff] at hr; exact hr.2
    | mix t l n => simpa only [refsE] using hr
    | arr t l => simpa only [refsE] using hr
    | fz t l => simpa only [refsE] using hr
    | dead => simpa only [refsE] using hr
/-- Entries behind the first n are forgotten. -/
theorem SR.round (hs : SR c F S0 base N w0 w L β H a T) {keep : List Nat} {n : Nat} (hn : c.nfix ≤ n) (hr : (refsT (Nat.ble n) (keepT T keep) || refsE (Nat.ble n) (H.take n)) = false) :
    ∃ L' β', SR c F S0 base N w0 w L' β' (H.take n) a (keepT T keep) := by
  simp only [Bool.or_eq_false_iff] at hr
  have h0 : ∀ k, L k = 0 → (if n + 2 ≤ L k then 1 else L k) = 0 := fun k hk => by rw [if_neg (by omega)]; exact hk
  have hst : ∀ k, stab S0 base w L k → stab S0 base w (fun k => if n + 2 ≤ L k then 1 else L k) k ∧ w.heap[k]? = w.heap[k]? := fun k hk => stab_mv h0 k hk
  have hβ : ∀ id, Nat.ble n id = false → β id ≠ .non → (if n ≤ id then Real.non else β id) = β id := fun id hb _ => by
    rw [if_neg]
    intro hle
    rw [Nat.ble_eq_true_of_le hle] at hb
    cases hb
  refine ⟨fun k => if n + 2 ≤ L k then 1 else L k, fun id => if n ≤ id then .non else β id, ⟨hs.rel.base_le, fun k hk => h0 k (hs.rel.low k hk), fun k hk => h0 k (hs.rel.hi k hk), fun k => ?_, fun id hid => ?_, fun id e he => ?_⟩, fun t d ht => ?_, hs.gl.st hst, hs.size, hs.defers, hs.low, fun id hid => by show (if n ≤ id then Real.non else β id) = F id; rw [if_neg (by omega)]; exact hs.fix id hid, hs.fne⟩
  · show (if n + 2 ≤ L k then 1 else L k) < _
    have := hs.rel.top k
    simp only [List.length_take]
    split <;> omega
  · simp only [List.length_take] at hid
    by_cases hn : n ≤ id
    · rw [if_pos hn]
    · rw [if_neg hn]; exact hs.rel.non id (by omega)
  · rw [List.getElem?_take] at he
    split at he
    · rename_i hlt
      rw [if_neg (by omega)]
      refine RE_mono (p := Nat.ble n) (hs.rel.ent id e he) hst (fun k hk => ⟨?_, rfl⟩) hβ ?_
      · show (if n + 2 ≤ L k then 1 else L k) = id + 2
        rw [if_neg (by omega)]; exact hk
      · exact refsE_get (i := id) hr.2 (by rw [List.getElem?_take, if_pos hlt]; exact he)
    · cases he
  · obtain ⟨v, h1, h2⟩ := hs.tmp t d (look_keep ht)
    exact ⟨v, h1, RD_mono h2 hst hβ (refsT_look hr.1 ht)⟩
end
end Go.Eng
/- Code and functions: the evaluator's answer is the function's. -/
namespace Go.Eng
open Go.RowKit
open Classical
set_option linter.unusedVariables false
set_option linter.unusedSimpArgs false
set_option linter.unusedSectionVars false
section
variable {P : Program} {c : Cfg} {F : Nat → Real} {h : Hint} {S0 : Nat → Prop} {base : Nat → Prop} {N : Nat} {w0 w w' : World} {L L' : Nat → Nat} {β β' : Nat → Real} {H H2 : List E} {a : Act} {T T2 : List (Nat × D)} {o : Oper} {R : Type} {r : R}
theorem Rel.pushNil (hr : Rel S0 base w L β H) (t : Ty) : Rel S0 base w L (fun id => if id = H.length then .arr none 0 0 t.width else β id) (H ++ [.arr t []]) ∧ ∀ id, β id ≠ .non → (if id = H.length then .arr none 0 0 t.width else β id) = β id := by
  obtain ⟨q1, q2, q3⟩ := hr.push (e := .arr t []) (q := .arr none 0 0 t.width) (ok := fun _ => False) (fun k hk => hk.elim) ⟨none, 0, rfl, by rw [RT]; exact ⟨none, 0, rfl, Nat.le_refl _, by rw [if_pos (show (true && true) = true from rfl)]; exact .inl ⟨rfl, rfl⟩⟩⟩
  simp only [if_false] at q1
  exact ⟨q1, q3⟩
theorem SR.iniT : ∀ (l : List (Nat × Ty)) {β : Nat → Real} {H : List E} {T : List (Nat × D)}, SR c F S0 base N w0 w L β H a T → ∃ β', SR c F S0 base N w0 w L β' (iniT l T H).2 a (iniT l T H).1
  | [], β, H, T, hs => ⟨β, hs⟩
  | (t, ty) :: l, β, H, T, hs => by
    simp only [Eng.iniT]
    split
    · rename_i ht
      obtain ⟨v, h1, h2⟩ := hs.tmp t _ ht
      obtain ⟨q1, q2⟩ := hs.rel.pushNil ty
      refine SR.iniT l (β := fun id => if id = H.length then .arr none 0 0 ty.width else β id) ⟨q1, ?_, hs.gl, hs.size, hs.defers, hs.low, fun id hid => by show (if id = H.length then Real.arr none 0 0 ty.width else β id) = F id; rw [if_neg (by have := hs.nle; omega)]; exact hs.fix id hid, hs.fne⟩
      refine RTm.say (hs.tmp.mono fun v d h => RD_grow h (fun k hk => ⟨hk, rfl⟩) q2) h1 ?_
      rw [(RD_imm h2).1]
      exact .ow (wd := ty.width) (by simp)
    · exact SR.iniT l hs
theorem SR.iniB : ∀ (l : List (Nat × Nat × Ty)) {β : Nat → Real} {H : List E}, SR c F S0 base N w0 w L β H a T → ∃ β', SR c F S0 base N w0 w L β' (iniB l H) a T
  | [], β, H, hs => ⟨β, hs⟩
  | (id, off, ty) :: l, β, H, hs => by
    simp only [Eng.iniB]
    split
    · rename_i cs hH
      split
      · rename_i hcs
        obtain ⟨q1, q2⟩ := hs.rel.pushNil ty
        have hid : id < H.length := (List.getElem?_eq_some_iff.1 hH).1
        have hoff : off < cs.length := (List.getElem?_eq_some_iff.1 hcs).1
        obtain ⟨g, arr, ty2, e1, e2, e3, e4, e5, e6⟩ := hs.rel.ent id _ hH
        have hset : (H ++ [E.arr ty []]).set id (.box (cs.set off (.ow H.length))) = H.set id (.box (cs.set off (.ow H.length))) ++ [.arr ty []] := by
          rw [List.set_append_left _ _ hid]
        have hw := q1.write (w' := w) (id := id) (e := .box (cs.set off (.ow H.length))) (fun _ _ => rfl) rfl ⟨g, arr, ty2, by rw [if_neg (by omega)]; exact e1, e2, e3, by simpa using e4, e5, fun i x d hx hd => by
          rw [List.getElem?_set] at hd
          split at hd
          · rename_i e7
            subst e7
            cases hd
            have := (RD_imm (e6 off x _ hx hcs)).1
            rw [this]
            exact .ow (wd := ty.width) (by simp)
          · exact RD_grow (e6 i x d hx hd) (fun k hk => ⟨hk, rfl⟩) q2⟩
        rw [hset] at hw
        exact SR.iniB l (β := fun id => if id = H.length then .arr none 0 0 ty.width else β id) ⟨hw.1, hs.tmp.mono fun v d h => RD_grow h (fun k hk => ⟨hk, rfl⟩) q2, hs.gl, hs.size, hs.defers, hs.low, fun id hid => by show (if id = H.length then Real.arr none 0 0 ty.width else β id) = F id; rw [if_neg (by have := hs.nle; omega)]; exact hs.fix id hid, hs.fne⟩
      · exact SR.iniB l hs
    · exact SR.iniB l hs
theorem castDen_map {a b : Ty} (h : a.strip = b.strip) (l : List a.den) : castDen (a := .sl true a) (b := .sl true b) (by simp [Ty.strip, h]) l = l.map (castDen h) := by
  have hden : a.den = b.den := by rw [← Ty.den_strip a, ← Ty.den_strip b, h]
  have e1 : castDen (a := .sl true a) (b := .sl true b) (by simp [Ty.strip, h]) l = cast (congrArg List hden) l := rfl
  have e2 : (castDen h : a.den → b.den) = cast hden := by funext x; rfl
  have key : ∀ (A B : Type) (h : A = B) (l : List A), cast (congrArg List h) l = l.map (cast h) := by
    intro A B h l
    subst h
    exact (List.map_id l).symm
  exact (e1.trans (key _ _ hden l)).trans (by rw [e2])
theorem SR.iniM : ∀ (l : List (Nat × Ty)) {H : List E}, SR c F S0 base N w0 w L β H a T → SR c F S0 base N w0 w L β (iniM l H) a T
  | [], H, hs => hs
  | (id, t) :: l, H, hs => by
    rw [Eng.iniM]
    split
    · rename_i t2 l2 hH
      split
      · rename_i ht
        subst ht
        refine SR.iniM l ⟨(hs.rel.write (w' := w) (fun _ _ => rfl) rfl ?_).1, hs.tmp, hs.gl, hs.size, hs.defers, hs.low, hs.fix, hs.fne⟩
        obtain ⟨A, cap, e1, e2⟩ := hs.rel.ent id _ hH
        have hlen : (castDen (a := .sl true t.strip) (b := .sl true t) (by simp [Ty.strip, Ty.strip_strip]) l2).length = l2.length := by
          have h1 := RT_cast (b := .sl true t) (by simp [Ty.strip, Ty.strip_strip]) (RT_read (S' := fun _ => True) (ok' := fun _ => False) _ e2 (fun _ _ => trivial) (fun _ _ => trivial))
          rw [RT] at h1
          obtain ⟨A2, cap2, h2, _⟩ := h1
          simp only [List.cons.injEq, Value.slice.injEq, and_true] at h2
          exact h2.2.1.symm
        rw [RT] at e2
        obtain ⟨A2, cap2, h2, h3, h4⟩ := e2
        simp only [List.cons.injEq, Value.slice.injEq, and_true] at h2
        obtain ⟨rfl, _, rfl⟩ := h2
        refine ⟨A, cap, by rw [hlen, ← Ty.width_strip]; exact e1, by rw [hlen]; exact h3, Nat.zero_le _, ?_⟩
        rw [if_pos (show (true && true) = true from rfl)] at h4
        rcases h4 with h4 | ⟨g, st, arr, e, lab, hA, hok, hb, hf, hrow⟩
        · exact .inl h4
        · refine .inr ⟨g, st, arr, e, lab, hA, hok, hb, by rw [← Ty.width_strip]; exact hf, fun i y hy => ?_⟩
          have hget : ∃ z, l2[i]? = some z ∧ y = castDen (a := t.strip) (b := t) (Ty.strip_strip t) z := by
            have hm : castDen (a := .sl true t.strip) (b := .sl true t) (by simp [Ty.strip, Ty.strip_strip]) l2 = l2.map (castDen (a := t.strip) (b := t) (Ty.strip_strip t)) := castDen_map (Ty.strip_strip t) l2
            rw [hm, List.getElem?_map, Option.map_eq_some_iff] at hy
            obtain ⟨z, h5, h6⟩ := hy
            exact ⟨z, h5, h6.symm⟩
          obtain ⟨z, hz, rfl⟩ := hget
          obtain ⟨c, c1, c2, c3⟩ := hrow i z hz
          refine ⟨c, by rw [c1, Ty.width_strip], fun q v hv => by rw [← Ty.width_strip]; exact c2 q v hv, ?_⟩
          rw [if_neg (Nat.not_lt_zero i)]
          exact RT_cast (Ty.strip_strip t) (RT_noOwn _ (Ty.strip_strip t) c3)
      · exact SR.iniM l hs
    · exact SR.iniM l hs
theorem finM_sound {K : List E → Option R} : ∀ (l : List (Nat × Ty)) {H : List E}, SR c F S0 base N w0 w L β H a T → finM l H K = some r → ∃ H2, SR c F S0 base N w0 w L β H2 a T ∧ K H2 = some r
  | [], H, hs, hk => ⟨H, hs, hk⟩
  | (id, t0) :: l, H, hs, hk => by
    rw [finM] at hk
    split at hk
    · rename_i t l2 n hH
      split at hk
      · rename_i hn
        refine finM_sound l ⟨(hs.rel.write (w' := w) (fun _ _ => rfl) rfl ?_).1, hs.tmp, hs.gl, hs.size, hs.defers, hs.low, hs.fix, hs.fne⟩ hk
        obtain ⟨A, cap, e1, e2, e3, e4⟩ := hs.rel.ent id _ hH
        refine ⟨A, cap, e1, ?_⟩
        rw [RT]
        refine ⟨A, cap, rfl, e2, ?_⟩
        rw [if_pos (show (true && true) = true from rfl)]
        rcases e4 with h4 | ⟨g, st, arr, e, lab, hA, hok, hb, hf, hrow⟩
        · exact .inl h4
        · refine .inr ⟨g, st, arr, e, lab, hA, hok, hb, hf, fun i y hy => ?_⟩
          obtain ⟨c, c1, c2, c3⟩ := hrow i y hy
          rw [if_pos (by rw [hn]; exact (List.getElem?_eq_some_iff.1 hy).1)] at c3
          exact ⟨c, c1, c2, c3⟩
      · cases hk
    · exact finM_sound l hs hk
/-- What a region's evaluation must show (the order of the text; or any that is left open). -/
def RegionSound (P : Program) (c : Cfg) : Prop :=
  ∀ (F : Nat → Real) (h : Hint) (S0 : Nat → Prop) (base : Nat → Prop) (N : Nat) (w0 : World) (R : Type) (r : R) (id : Nat) (ops : Array Oper) (draw : Bool) (w : World) (L : Nat → Nat) (β : Nat → Real) (H : List E) (a : Act) (T : List (Nat × D)) (Q : Exit → Act → World → Prop) (K : List (Nat × D) → List E → Option R),
    SR c F S0 base N w0 w L β H a T → (∀ o ∈ ops.toList, dstOk N o = true) → regionK c h ops draw T H K = some r →
    (∀ w' L' β' H' a' T', SR c F S0 base N w0 w' L' β' H' a' T' → K T' H' = some r → Q .normal a' w') → (Code.region id ops draw).wp P Q a w
theorem codeK_sound (hc : CfgOk P c) (hreg : RegionSound P c) {n : Nat} : ∀ (x : Code) {Q : Exit → Act → World → Prop} {K : Ex → List (Nat × D) → List E → Option R} {w : World} {L : Nat → Nat} {β : Nat → Real} {H : List E} {a : Act} {T : List (Nat × D)}, codeOk N x = true → SR c F S0 base N w0 w L β H a T → codeK c h n x T H K = some r →
    (∀ ex w' L' β' H' a' T', SR c F S0 base N w0 w' L' β' H' a' T' → K ex T' H' = some r → Q (exOf ex) a' w') → x.wp P Q a w
  | .skip, Q, K, w, L, β, H, a, T, hx, hs, h0, hQ => wp_skip (hQ .nrm _ _ _ _ _ _ hs h0)
  | .region id ops draw, Q, K, w, L, β, H, a, T, hx, hs, h0, hQ => by
    simp only [codeK] at h0
    simp only [codeOk, List.all_eq_true] at hx
    exact hreg F h S0 base N w0 R r id ops draw w L β H a T Q _ hs hx h0 (fun w' L' β' H' a' T' hs' hk => hQ .nrm _ _ _ _ _ _ hs' hk)
  | .seq x y, Q, K, w, L, β, H, a, T, hx, hs, h0, hQ => by
    simp only [codeK] at h0
    simp only [codeOk, Bool.and_eq_true] at hx
    refine wp_seq (codeK_sound hc hreg x hx.1 hs h0 fun ex w' L' β' H' a' T' hs' hk => ?_)
    cases ex with
    | nrm =>
      simp only [seqK] at hk
      cases hj : h.join (firstRegion y) with
      | none => rw [hj] at hk; simp only [jn, joinK] at hk; exact codeK_sound hc hreg y hx.2 hs' hk hQ
      | some j =>
        rw [hj] at hk
        obtain ⟨j1, m0⟩ := j
        simp only [jn, joinK, roundK] at hk
        have hm : c.nfix ≤ (bif Nat.ble c.nfix m0 then m0 else c.nfix) := by
          cases hb : Nat.ble c.nfix m0 with
          | true => rw [cond_true]; exact Nat.le_of_ble_eq_true hb
          | false => rw [cond_false]; exact Nat.le_refl _
        generalize (bif Nat.ble c.nfix m0 then m0 else c.nfix) = m at hk hm
        cases hr : (refsT (Nat.ble m) (keepT T' j1) || refsE (Nat.ble m) (H'.take m)) with
        | true => rw [hr] at hk; cases hk
        | false =>
          rw [hr, cond_false] at hk
          obtain ⟨L2, β2, hs2⟩ := hs'.round hm hr
          cases n with
          | zero => cases hk
          | succ n => exact codeK_sound hc hreg y hx.2 hs2 hk hQ
    | exit i => exact hQ (.exit i) _ _ _ _ _ _ hs' hk
    | ret => exact hQ .ret _ _ _ _ _ _ hs' hk
  | .cond x y z, Q, K, w, L, β, H, a, T, hx, hs, h0, hQ => by
    simp only [codeK] at h0
    simp only [codeOk, Bool.and_eq_true] at hx
    split at h0
    · rename_i t
      split at h0
      · rename_i v hv
        obtain ⟨u, h1, h2⟩ := hs.tmp t _ hv
        rw [RD_bool h2] at h1
        have he : a.eval (.tmp t) = .bool v := by
          show a.tmps.getD t undef = _
          rw [Array.getD_eq_getD_getElem?, h1]
          rfl
        cases v with
        | true => exact wp_cond_true he (codeK_sound hc hreg y hx.1 (hs.say hv rfl) h0 hQ)
        | false => exact wp_cond_false he (codeK_sound hc hreg z hx.2 (hs.say hv rfl) h0 hQ)
      · cases h0
    · rename_i v
      cases v with
      | true => exact wp_cond_true rfl (codeK_sound hc hreg y hx.1 hs h0 hQ)
      | false => exact wp_cond_false rfl (codeK_sound hc hreg z hx.2 hs h0 hQ)
    · cases h0
  | .block id x, Q, K, w, L, β, H, a, T, hx, hs, h0, hQ => by
    simp only [codeK] at h0
    simp only [codeOk] at hx
    refine wp_block (codeK_sound hc hreg x hx hs h0 fun ex w' L' β' H' a' T' hs' hk => ?_)
    cases ex with
    | nrm => exact hQ .nrm _ _ _ _ _ _ hs' hk
    | exit i =>
      simp only [blockK] at hk
      show (if i = id then Q .normal a' w' else Q (.exit i) a' w')
      cases hb : Nat.beq i id with
      | true =>
        rw [hb, cond_true] at hk
        rw [if_pos (Nat.eq_of_beq_eq_true hb)]
        exact hQ .nrm _ _ _ _ _ _ hs' hk
      | false =>
        rw [hb, cond_false] at hk
        rw [if_neg (fun e => by rw [e, Nat.beq_refl] at hb; cases hb)]
        exact hQ (.exit i) _ _ _ _ _ _ hs' hk
    | ret => exact hQ .ret _ _ _ _ _ _ hs' hk
  | .loop x, Q, K, w, L, β, H, a, T, hx, hs, h0, hQ => by
    simp only [codeK] at h0
    simp only [codeOk] at hx
    have hs := SR.iniM (h.mix (firstRegion x)) hs
    obtain ⟨β1, hs1⟩ := SR.iniB (h.inib (firstRegion x)) hs
    obtain ⟨β2, hs2⟩ := SR.iniT (h.ini (firstRegion x)) hs1
    generalize (Eng.iniT (h.ini (firstRegion x)) T (Eng.iniB (h.inib (firstRegion x)) (Eng.iniM (h.mix (firstRegion x)) H))).1 = T1 at h0 hs2
    generalize (Eng.iniT (h.ini (firstRegion x)) T (Eng.iniB (h.inib (firstRegion x)) (Eng.iniM (h.mix (firstRegion x)) H))).2 = H1 at h0 hs2
    generalize h.mix (firstRegion x) = mx at h0
    generalize h.keep (firstRegion x) = keep at h0
    have hm : c.nfix ≤ H1.length := hs2.nle
    generalize H1.length = m at h0 hm
    have round : ∀ {w : World} {L : Nat → Nat} {β : Nat → Real} {H : List E} {a : Act} {T : List (Nat × D)} {K2 : List (Nat × D) → List E → Option R}, SR c F S0 base N w0 w L β H a T → roundK keep m T H K2 = some r → ∃ L' β' H' T', SR c F S0 base N w0 w L' β' H' a T' ∧ K2 T' H' = some r := fun {w L β H a T K2} hs hk => by
      unfold roundK at hk
      simp only at hk
      cases hb : (refsT (Nat.ble m) (keepT T keep) || refsE (Nat.ble m) (H.take m)) with
      | true => rw [hb] at hk; cases hk
      | false =>
        rw [hb, cond_false] at hk
        obtain ⟨L', β', h1⟩ := hs.round hm hb
        exact ⟨L', β', _, _, h1, hk⟩
    obtain ⟨L3, β3, H3, T3, hs3, h3⟩ := round hs2 h0
    refine wp_loop_rounds n ?_
    clear hs hs1 hs2 h0
    suffices ∀ (n2 : Nat) {w : World} {L : Nat → Nat} {β : Nat → Real} {H : List E} {a : Act} {T : List (Nat × D)}, SR c F S0 base N w0 w L β H a T → iterK (fun T H K => codeK c h n x T H K) keep m (mixK mx K) n2 T H = some r → Code.rounds P x Q n2 a w from this n hs3 h3
    intro n2
    induction n2 with
    | zero => intro w L β H a T hs hk; cases hk
    | succ n2 ih =>
      intro w L β H a T hs hk
      rw [rounds_succ]
      simp only [iterK] at hk
      refine codeK_sound hc hreg x hx hs hk fun ex w' L' β' H' a' T' hs' hk' => ?_
      cases ex with
      | nrm =>
        obtain ⟨L4, β4, H4, T4, hs4, h4⟩ := round hs' hk'
        exact ih hs4 h4
      | exit i =>
        simp only [againK] at hk'
        unfold mixK at hk'
        cases mx with
        | nil => exact hQ (.exit i) _ _ _ _ _ _ hs' hk'
        | cons q mx =>
          obtain ⟨H2, hs2, hk2⟩ := finM_sound _ hs' hk'
          exact hQ (.exit i) _ _ _ _ _ _ hs2 hk2
      | ret =>
        simp only [againK] at hk'
        unfold mixK at hk'
        cases mx with
        | nil => exact hQ .ret _ _ _ _ _ _ hs' hk'
        | cons q mx => exact hQ .ret _ _ _ _ _ _ hs' hk'
  | .exit id, Q, K, w, L, β, H, a, T, hx, hs, h0, hQ => wp_exit (hQ (.exit id) _ _ _ _ _ _ hs h0)
  | .ret, Q, K, w, L, β, H, a, T, hx, hs, h0, hQ => wp_ret (hQ .ret _ _ _ _ _ _ hs h0)
  | .rangeFunc .., Q, K, w, L, β, H, a, T, hx, hs, h0, hQ => by cases hx
  | .scope .., Q, K, w, L, β, H, a, T, hx, hs, h0, hQ => by cases hx
  | .label .., Q, K, w, L, β, H, a, T, hx, hs, h0, hQ => by cases hx
  | .goto .., Q, K, w, L, β, H, a, T, hx, hs, h0, hQ => by cases hx
  | .refuse .., Q, K, w, L, β, H, a, T, hx, hs, h0, hQ => by cases hx
end
end Go.Eng
/- Functions: from the evaluator's answer to a contract. -/
namespace Go.Eng
open Go.RowKit
open Classical
set_option linter.unusedVariables false
set_option linter.unusedSimpArgs false
set_option linter.unusedSectionVars false
section
variable {P : Program} {c : Cfg} {F : Nat → Real} {h : Hint} {S0 : Nat → Prop} {base : Nat → Prop} {N : Nat} {w0 w w' : World} {L L' : Nat → Nat} {β β' : Nat → Real} {H H2 : List E} {a : Act} {T T2 : List (Nat × D)} {o : Oper} {R : Type} {r : R}
/-- An argument, as the evaluator says it. -/
theorem argSh_RD {S : Nat → Prop} {s : Sh} {v : Value} {x : s.ty.den} (hs : RSh w S false s (fun _ => False) v x) : RD w S β v (argSh s x) := by
  cases s with
  | agg t =>
    obtain ⟨arr, rfl, hrt⟩ := hs
    obtain ⟨hl, hq⟩ := cells_RD (β := β) t hrt
    exact .agg (by show arr.size = (cells t x).length; rw [hl]; simp) (fun i u hu => RT_one _ hrt u (by rw [← Array.getElem?_toList] at hu; exact List.mem_of_getElem? hu)) (fun i u d hu hd => hq i u d (by rw [Array.getElem?_toList]; exact hu) hd)
  | one t =>
    obtain ⟨h1, hrt⟩ := hs
    obtain ⟨hl, hq⟩ := cells_RD (β := β) t hrt
    simp only [argSh]
    split
    · rename_i d hd
      exact hq 0 v d rfl (by rw [hd]; rfl)
    · exact .no
theorem argShs_RD {S : Nat → Prop} : ∀ (ss : List Sh) {vs : List Value} {x : Shs.den ss}, RArgs w S ss vs x → vs.length = ss.length ∧ (argShs ss x).length = ss.length ∧ ∀ (i : Nat) v d, vs[i]? = some v → (argShs ss x)[i]? = some d → RD w S β v d
  | [], vs, x, h => by
    have : vs = [] := h
    subst this
    exact ⟨rfl, rfl, fun i v d hv => by simp at hv⟩
  | s :: ss, vs, x, h => by
    obtain ⟨v, vr, rfl, h1, h2⟩ := h
    obtain ⟨q1, q2, q3⟩ := argShs_RD ss h2
    refine ⟨by simp [q1], by simp [argShs, q2], fun i v2 d hv hd => ?_⟩
    cases i with
    | zero => simp [argShs] at hv hd; subst hv; subst hd; exact argSh_RD h1
    | succ i => exact q3 i v2 d (by simpa using hv) (by simpa [argShs] using hd)
theorem look_argT {t : Nat} {d : D} : ∀ {ds : List D} {k : Nat}, look (argT k ds) t = some d → ∃ i, t = k + i ∧ ds[i]? = some d
  | [], k, h => by cases h
  | e :: ds, k, h => by
    simp only [argT] at h
    rw [look_put] at h
    split at h
    · rename_i e1
      cases h
      exact ⟨0, by omega, rfl⟩
    · obtain ⟨i, h1, h2⟩ := look_argT h
      exact ⟨i + 1, by omega, by simpa using h2⟩
/-- What a function's result slots hold. -/
theorem resD_sound (hc : CfgOk P c) (hs : SR c F S0 base N w0 w L β H a T) : ∀ {rv : List ResultVar} {ds : List D}, resD c T H rv = some ds →
    ∃ vs : List Value, (rv.mapM (fun | .tmp t => pure (a.tmps.getD t undef) | .cell ad t => do loadVar t (← asAddr (a.tmps.getD ad undef)) : ResultVar → Sem Value)).run P w = .ok vs w ∧ vs.length = ds.length ∧ ∀ (i : Nat) v d, vs[i]? = some v → ds[i]? = some d → RD w (stab S0 base w L) β v d
  | [], ds, h => by
    cases h
    exact ⟨[], rfl, rfl, fun i v d hv => by simp at hv⟩
  | .tmp t :: rv, ds, h => by
    simp only [resD, Option.bind_eq_some_iff] at h
    obtain ⟨d, h1, es, h2, h3⟩ := h
    cases h3
    obtain ⟨v, q1, q2⟩ := hs.tmp t d h1
    obtain ⟨vs, r1, r2, r3⟩ := resD_sound hc hs h2
    refine ⟨v :: vs, ?_, by simp [r2], fun i v2 d2 hv hd => ?_⟩
    · rw [List.mapM_cons, Sem.run_bind, Sem.run_pure]
      simp only [Result.andThen_ok, Sem.run_bind, r1, Sem.run_pure]
      rw [Array.getD_eq_getD_getElem?, q1]
      rfl
    · cases i with
      | zero => simp at hv hd; subst hv; subst hd; exact q2
      | succ i => exact r3 i v2 d2 (by simpa using hv) (by simpa using hd)
  | .cell ad t :: rv, ds, h => by
    simp only [resD] at h
    split at h
    · rename_i i id off hi hl
      split at h
      · rename_i cs hH
        simp only [Option.bind_eq_some_iff] at h
        obtain ⟨d, h1, es, h2, h3⟩ := h
        cases h3
        obtain ⟨v, q1, q2⟩ := hs.tmp ad _ hl
        obtain ⟨g, q3, q4⟩ := RD_bp q2
        obtain ⟨g2, arr, ty, hre, hok, hb, hl2, ho1, hcs⟩ := hs.rel.ent id _ hH
        rw [hre] at q3
        cases q3
        have h0 : At w (stab S0 base w L) β ⟨g, 0, none⟩ cs := ⟨arr.toList, by simpa using hl2, fun j u hu => ⟨by rw [add_at, Nat.zero_add, cell_blk hb]; simpa using hu, ho1 j u (by simpa using hu)⟩, fun j u d hu hd => hcs j u d (by simpa using hu) hd⟩
        have h4 := (h0.drop off).take i.size
        rw [add_at, Nat.zero_add] at h4
        obtain ⟨u, q5, q6⟩ := run_load_At (hc.ti t i hi) h4 h1
        obtain ⟨vs, r1, r2, r3⟩ := resD_sound hc hs h2
        refine ⟨u :: vs, ?_, by simp [r2], fun i v2 d2 hv hd => ?_⟩
        · have he : a.tmps.getD ad undef = .pointer (some ⟨g, off, none⟩) := by
            rw [Array.getD_eq_getD_getElem?, q1, q4]; rfl
          have hasA : (asAddr (a.tmps.getD ad undef)).run P w = .ok ⟨g, off, none⟩ w := by rw [he]; rfl
          rw [List.mapM_cons, Sem.run_bind, Sem.run_bind, hasA]
          simp only [Result.andThen_ok]
          rw [q5]
          simp only [Result.andThen_ok]
          rw [Sem.run_bind, r1]
          rfl
        · cases i with
          | zero => simp at hv hd; subst hv; subst hd; exact q6
          | succ i => exact r3 i v2 d2 (by simpa using hv) (by simpa using hd)
      · cases h
    · cases h
theorem results_run (hc : CfgOk P c) (hs : SR c F S0 base N w0 w L β H a T) {fn : Func} {ds : List D} (h : resD c T H fn.results.toList = some ds) :
    ∃ vs : List Value, (results fn a.tmps).run P w = .ok (if hh : vs.toArray.size = 1 then vs.toArray[0] else .tuple vs.toArray) w ∧ vs.length = ds.length ∧ ∀ (i : Nat) v d, vs[i]? = some v → ds[i]? = some d → RD w (stab S0 base w L) β v d := by
  obtain ⟨vs, h1, h2, h3⟩ := resD_sound hc hs h
  refine ⟨vs, ?_, h2, h3⟩
  unfold results
  rw [Array.mapM_eq_mapM_toList, Sem.run_bind]
  have hm : (List.toArray <$> (fn.results.toList.mapM (fun | .tmp t => pure (a.tmps.getD t undef) | .cell ad t => do loadVar t (← asAddr (a.tmps.getD ad undef)) : ResultVar → Sem Value))).run P w = .ok vs.toArray w := by
    rw [map_eq_pure_bind, Sem.run_bind, h1]
    rfl
  refine Eq.trans (congrArg (fun z : Result (Array Value) => z.andThen fun vs w' => (pure (if h : vs.size = 1 then vs[0] else .tuple vs) : Sem Value).run P w') hm) ?_
  rfl
/-- A function's contract out of the evaluator's answers. -/
theorem PFun.of_ev {as : List Sh} {rs : Rs} (h0 : c.nfix = 0) (hc : CfgOk P c) (hreg : RegionSound P c) {f : FuncId} {fn : Func} {b : Code} (hf : P.funcs[f]? = some fn) (hb : fn.body = some b) (hn : (fn.name == "runtime.NumGoroutine") = false) (hN : codeOk fn.ntmps b = true) (ha : as.length ≤ fn.ntmps) {X : Shs.den as → Option rs.den}
    (hX : ∀ x y, X x = some y → ∃ n, evF c h fn as rs n x = some y) : PFun P c.gl f as rs X := by
  refine ⟨⟨fn, hf, by rw [hb]; rfl, hn⟩, fun w S args x y hS hg hargs hxy => ?_⟩
  obtain ⟨n, hev⟩ := hX x y hxy
  unfold evF at hev
  rw [hb] at hev
  obtain ⟨a1, a2, a3⟩ := argShs_RD (β := fun _ => .non) as hargs
  have hasz : args.size = as.length := by simpa using a1
  have hst : ∀ k, stab S (fun k => k < w.heap.size) w (fun _ => 0) k ↔ S k := fun k => ⟨fun hk => hk.1 hk.2.1, fun hk => ⟨fun _ => hk, hS k hk, rfl⟩⟩
  have hSR : SR c (fun _ => .non) S (fun k => k < w.heap.size) fn.ntmps w w (fun _ => 0) (fun _ => .non) [] { tmps := args ++ Array.replicate (fn.ntmps - args.size) undef, defers := [] } (argT 0 (argShs as x)) := by
    refine ⟨⟨fun _ h => h, fun _ _ => rfl, fun _ _ => rfl, fun _ => Nat.zero_lt_two, fun _ _ => rfl, fun id e he => by simp at he⟩, fun t d ht => ?_, fun g cs h β => RD_grow (hg g cs h β) (fun k hk => ⟨(hst k).2 hk, rfl⟩) (fun _ _ => rfl), by simp; omega, rfl, Bel.refl _ _, fun _ _ => rfl, fun id hid => by rw [h0] at hid; omega⟩
    obtain ⟨i, rfl, hd⟩ := look_argT ht
    rw [Nat.zero_add]
    have hi : i < args.size := by rw [hasz, ← a2]; exact (List.getElem?_eq_some_iff.1 hd).1
    refine ⟨args[i], ?_, RD_grow (a3 i _ d (by simp [hi]) hd) (fun k hk => ⟨(hst k).2 hk, rfl⟩) (fun _ _ => rfl)⟩
    rw [Array.getElem?_append_left hi]
    exact Array.getElem?_eq_getElem hi
  refine calls_of_wp hf hb (codeK_sound hc hreg b hN hSR hev fun ex w' L' β' H' a' T' hs hk => ?_)
  have fin : (resD c T' H' fn.results.toList).bind (fun ds => mvRs rs ds H') = some y → a'.defers = [] ∧ ∃ v, (results fn a'.tmps).run P w' = .ok v w' ∧ ∃ (v2 : Value) (ok : Nat → Prop), Ending.returned v = .returned v2 ∧ Below w.heap.size w w' ∧ (∀ k, ok k → w.heap.size ≤ k ∧ k < w'.heap.size) ∧ RRes w' (fun k => S k ∨ (w.heap.size ≤ k ∧ k < w'.heap.size ∧ ¬ ok k)) rs ok v2 y := fun hk => by
    rw [Option.bind_eq_some_iff] at hk
    obtain ⟨ds, h1, h2⟩ := hk
    obtain ⟨vs, r1, r2, r3⟩ := results_run hc hs h1
    refine ⟨hs.defers, _, r1, ?_⟩
    refine ⟨if hh : vs.toArray.size = 1 then vs.toArray[0] else .tuple vs.toArray, ?_⟩
    have bound : ∀ {L2 : Nat → Nat} {H2 : List E} {ok : Nat → Prop}, Mv L' L2 H2 ok → (∀ k, ok k → w.heap.size ≤ k ∧ k < w'.heap.size) ∧ ∀ k, stab S (fun k => k < w.heap.size) w' L2 k → S k ∨ (w.heap.size ≤ k ∧ k < w'.heap.size ∧ ¬ ok k) := fun {L2 H2 ok} hm => by
      refine ⟨fun k hk => ?_, fun k hk => ?_⟩
      · obtain ⟨_, id, e1, _⟩ := hm.got k hk
        constructor
        · rcases Nat.lt_or_ge k w.heap.size with h | h
          · have := hs.rel.low k h; omega
          · exact h
        · rcases Nat.lt_or_ge k w'.heap.size with h | h
          · exact h
          · have := hs.rel.hi k h; omega
      · rcases Nat.lt_or_ge k w.heap.size with h | h
        · exact .inl (hk.1 h)
        · exact .inr ⟨h, hk.2.1, fun ho => by have := (hm.got k ho).1; have := hk.2.2; omega⟩
    cases rs with
    | one s =>
      cases ds with
      | nil => cases h2
      | cons d ds =>
        cases ds with
        | cons d2 ds => cases h2
        | nil =>
          cases vs with
          | nil => simp at r2
          | cons v vs =>
            have : vs = [] := List.eq_nil_of_length_eq_zero (by simpa using r2)
            subst this
            simp only [mvRs] at h2
            split at h2
            · rename_i x2 H2 hmv
              cases h2
              obtain ⟨L2, ok, q1, q2, q3, q4⟩ := mvSh_sound hs.rel (r3 0 v d rfl rfl) hmv
              exact ⟨ok, rfl, ⟨hs.low.os, hs.low.tape, hs.low.output, hs.low.size, hs.low.block⟩, (bound q2).1, RSh_upS q4 (bound q2).2⟩
            · cases h2
    | tup ss =>
      simp only [mvRs] at h2
      cases hb1 : Nat.beq ds.length 1 with
      | true => rw [hb1] at h2; cases h2
      | false =>
        rw [hb1, cond_false] at h2
        split at h2
        · rename_i x2 H2 hmv
          cases h2
          obtain ⟨L2, ok, q1, q2, q3, q4⟩ := mvShs_sound ss hs.rel r2 r3 hmv
          have hne : ds.length ≠ 1 := fun e => by rw [e] at hb1; cases hb1
          have hss : ss.length = ds.length := mvShs_len ss hmv
          refine ⟨ok, rfl, ⟨hs.low.os, hs.low.tape, hs.low.output, hs.low.size, hs.low.block⟩, (bound q2).1, ?_⟩
          rw [dif_neg (by simp; omega)]
          exact ⟨by omega, _, rfl, RTup_upS (bound q2).2 ss (by simpa using q4)⟩
        · cases h2
  cases ex with
  | exit i => cases hk
  | nrm => exact fin hk
  | ret => exact fin hk
end
end Go.Eng
/- Regions whose order is left open. -/
namespace Go.Eng
open Go.RowKit
open Classical
set_option linter.unusedVariables false
set_option linter.unusedSimpArgs false
set_option linter.unusedSectionVars false
section
variable {c : Cfg} {R : Type}
theorem opds_congr {T T2 : List (Nat × D)} : ∀ {xs : List Operand}, (∀ x ∈ xs, opd c T x = opd c T2 x) → opds c T xs = opds c T2 xs
  | [], _ => rfl
  | x :: xs, h => by
    simp only [opds, h x (by simp), opds_congr (xs := xs) (fun y hy => h y (by simp [hy]))]
/-- A quiet operation looks at its operands alone. -/
theorem opQ_congr {o : Oper} {T T2 : List (Nat × D)} {H : List E} {K : D → Option R} (h : ∀ x ∈ o.op.operands, opd c T x = opd c T2 x) : opQ c o T H K = opQ c o T2 H K := by
  unfold opQ
  cases ho : o.op <;> rw [ho] at h <;> simp only [Op.operands] at h <;> (try simp only []) <;> (try rfl)
  case move x => rw [h x (by simp)]
  case assign x => rw [h x (by simp)]
  case pick a b d => rw [h a (by simp), h b (by simp), h d (by simp)]
  case nilCheck x => rw [h x (by simp)]
  case binOp op t x y t2 => rw [h x (by simp), h y (by simp)]
  case unOp op t x => rw [h x (by simp)]
  case fieldAddr t x f => rw [h x (by simp)]
  case field t x f => rw [h x (by simp)]
  case indexAddr t x i => rw [h x (by simp), h i (by simp)]
  case index t x i => rw [h x (by simp), h i (by simp)]
  case load t x => rw [h x (by simp)]
  case convert u t x => rw [h x (by simp)]
  case makeInterface t x => rw [h x (by simp)]
  case makeFunc g first captured => rw [opds_congr (T := T) (T2 := T2) (fun x hx => h x (by simp at hx ⊢; exact .inr hx))]
  case extract x n => rw [h x (by simp)]
  case build t parts =>
    rw [opds_congr (T := T) (T2 := T2) (fun x hx => h x (by simpa using hx))]
  case slice t x lo hi mx =>
    cases mx with
    | some m => rfl
    | none =>
      simp only
      rw [h x (by simp)]
      cases lo with
      | none => cases hi with
        | none => rfl
        | some q => simp only [h q (by simp)]
      | some p => cases hi with
        | none => simp only [h p (by simp)]
        | some q => simp only [h p (by simp), h q (by simp)]
  case call k =>
    have hargs : ∀ x ∈ k.args, opd c T x = opd c T2 x := fun x hx => h x (by simp [Call.operands, hx])
    cases hk : k.callee with
    | builtin b =>
      cases b with
      | len =>
        simp only
        split
        · rename_i x t ts hx ht
          rw [hargs x (by rw [← Array.mem_toList_iff, hx]; simp)]
        · rfl
      | _ => rfl
    | value x =>
      have hx := h x (by simp [Call.operands, hk])
      simp only
      rw [hx, opds_congr (T := T) (T2 := T2) (fun y hy => hargs y (by simpa using hy))]
    | invoke x name =>
      have hx := h x (by simp [Call.operands, hk])
      simp only
      rw [hx, opds_congr (T := T) (T2 := T2) (fun y hy => hargs y (by simpa using hy))]
theorem bind_cond {α β : Type} (b : Bool) (x y : Option α) (f : α → Option β) : (cond b x y).bind f = cond b (x.bind f) (y.bind f) := by cases b <;> rfl
theorem bind_ite {α β : Type} (p : Prop) [Decidable p] (x y : Option α) (f : α → Option β) : (if p then x else y).bind f = if p then x.bind f else y.bind f := by split <;> rfl
theorem ldK_bind {H : List E} {d : D} {n : Nat} {K : List D → Option R} : ldK H d n K = (ldK H d n some).bind K := by
  cases d with
  | bp id off => simp only [ldK]; split <;> rfl
  | fp cs => rfl
  | ap id j q =>
    simp only [ldK]
    split
    · simp only [Option.bind_assoc, bind_cond, Option.bind_some, Option.bind_none]
    · simp only [Option.bind_assoc, Option.bind_some]
    · simp only [Option.bind_assoc, bind_ite, Option.bind_some, Option.bind_none]
    · rfl
  | _ => rfl
theorem callQ_bind {H : List E} {f : FuncId} {ds : List D} {K : D → Option R} : callQ c H f ds K = (callQ c H f ds some).bind K := by
  unfold callQ
  split
  · rename_i k hk
    obtain ⟨as, rs, X⟩ := k
    simp only
    split
    · rw [Option.bind_assoc]
      congr 1
      funext y
      cases rs with
      | one s =>
        simp only [bind_cond, Option.bind_none]
        congr 1
        split <;> rfl
      | tup ss =>
        simp only [bind_cond, Option.bind_none]
        congr 1
        split <;> rfl
    · rfl
  · rfl
theorem bind_binK {R R2 : Type} {op : BinOp} {a b : D} {r : Option R} {f : R → Option R2} : (binK op a b r).bind f = binK op a b (r.bind f) := by
  unfold binK
  split
  · split
    · split <;> rfl
    · split <;> rfl
    · rfl
  · split
    · split <;> rfl
    · rfl
  · rfl
theorem opQ_bind {o : Oper} {T : List (Nat × D)} {H : List E} {K : D → Option R} : opQ c o T H K = (opQ c o T H some).bind K := by
  unfold opQ
  cases ho : o.op <;> (try simp only []) <;> (try rfl)
  case move x => split <;> rfl
  case assign x => split <;> rfl
  case pick a b d =>
    split
    · split
      · rfl
      · rename_i t _ _ _ _
        cases t
        · simp only [cond_false]; split <;> rfl
        · simp only [cond_true]; split <;> rfl
    · rfl
  case nilCheck x => split <;> rfl
  case binOp op t x y t2 =>
    split
    · rw [bind_binK]
      congr 1
      split <;> rfl
    · rfl
  case unOp op t x => split <;> rfl
  case fieldAddr t x f =>
    split
    · split
      · split
        · rw [bind_cond]
          congr 1
          split <;> rfl
        · rfl
      · rfl
    · rfl
  case field t x f =>
    split
    · split
      · split
        · simp only [bind_cond, Option.bind_none]
          congr 1
          congr 1
          split <;> rfl
        · rfl
      · rfl
    · rfl
  case indexAddr t x i =>
    split
    · split
      · split
        · split
          · simp only [bind_ite, bind_cond, Option.bind_assoc, Option.bind_some, Option.bind_none]
          · split
            · simp only [bind_ite, bind_cond, Option.bind_assoc, Option.bind_some, Option.bind_none]
            · simp only [bind_ite, bind_cond, Option.bind_assoc, Option.bind_some, Option.bind_none]
            · simp only [bind_ite, bind_cond, Option.bind_assoc, Option.bind_some, Option.bind_none]
            · rfl
          · rfl
        · rfl
      · rfl
    · rfl
  case index t x i =>
    split
    · simp only [bind_ite, Option.bind_assoc, Option.bind_some, Option.bind_none]
    · rfl
  case load t x =>
    split
    · rename_i i d hi hd
      conv => rhs; rw [ldK_bind, Option.bind_assoc]
      rw [ldK_bind]
      congr 1
      funext ds
      split <;> rfl
    · rfl
  case convert u t x =>
    split
    · split <;> rfl
    · split <;> rfl
    · split
      · split
        · split
          · split <;> rfl
          · rfl
        · rfl
      · rfl
    · rfl
  case makeInterface t x =>
    split
    · simp only [bind_cond, Option.bind_some, Option.bind_none]
    · rfl
  case makeFunc g first captured => split <;> rfl
  case extract x n =>
    split
    · split <;> rfl
    · rfl
  case build t parts =>
    split
    · split
      · split <;> rfl
      · rfl
    · rfl
  case slice t x lo hi mx =>
    cases mx with
    | some m => rfl
    | none =>
      simp only
      split
      · rw [bind_ite]
        congr 1
        split
        · simp only [bind_ite, Option.bind_some, Option.bind_none]
        · rfl
      · split
        · split
          · rw [bind_cond]
            congr 1
            split
            · simp only [bind_ite, Option.bind_some, Option.bind_none]
            · rfl
          · rfl
        · rfl
      · rfl
  case call k =>
    cases hk : k.callee with
    | builtin b =>
      cases b with
      | len =>
        simp only
        split
        · split
          · split <;> rfl
          · rfl
        · rfl
      | _ => rfl
    | value x =>
      simp only
      split
      · rw [callQ_bind]
      · rfl
    | invoke x name =>
      simp only
      split
      · split
        · rw [callQ_bind]
        · rfl
      · rfl
end
end Go.Eng
/- Regions whose order is left open: any order gives what the order of the text gives. -/
namespace Go.Eng
open Go.RowKit
open Classical
set_option linter.unusedVariables false
set_option linter.unusedSimpArgs false
set_option linter.unusedSectionVars false
section
variable {P : Program} {c : Cfg} {S0 : Nat → Prop} {base : Nat → Prop} {N : Nat} {w0 : World} {L : Nat → Nat} {β : Nat → Real} {H : List E} {R : Type} {r : R} {ops : Array Oper}
/-- What each slot holds behind the first i operations of l, whose values are ds. -/
def lkAt (l : List Oper) (ds : List D) (f : Nat → Option D) : Nat → Nat → Option D
  | 0, t => f t
  | i + 1, t => match l[i]?, ds[i]? with
    | some o, some d => if o.dst = some t then some d else lkAt l ds f i t
    | _, _ => lkAt l ds f i t
theorem lkAt_cons {o : Oper} {d : D} {l : List Oper} {ds : List D} {f : Nat → Option D} : ∀ (i t : Nat), lkAt (o :: l) (d :: ds) f (i + 1) t = lkAt l ds (fun t => if o.dst = some t then some d else f t) i t
  | 0, t => rfl
  | i + 1, t => by
    show (match (o :: l)[i + 1]?, (d :: ds)[i + 1]? with
      | some o2, some d2 => if o2.dst = some t then some d2 else lkAt (o :: l) (d :: ds) f (i + 1) t
      | _, _ => lkAt (o :: l) (d :: ds) f (i + 1) t) = (match l[i]?, ds[i]? with
      | some o2, some d2 => if o2.dst = some t then some d2 else lkAt l ds (fun t => if o.dst = some t then some d else f t) i t
      | _, _ => lkAt l ds (fun t => if o.dst = some t then some d else f t) i t)
    rw [List.getElem?_cons_succ, List.getElem?_cons_succ, lkAt_cons i t]
/-- The state, but for the slots. -/
structure Bs (c : Cfg) (S0 : Nat → Prop) (base : Nat → Prop) (N : Nat) (w0 : World) (L : Nat → Nat) (β : Nat → Real) (H : List E) (a : Act) (w : World) : Prop where
  rel : Rel S0 base w L β H
  gl : GlOk c.gl w (stab S0 base w L)
  size : a.tmps.size = N
  defers : a.defers = []
  low : Bel base w0 w
/-- Operation o does its work wherever the slots that it looks at hold what lk says. -/
def SO (P : Program) (c : Cfg) (S0 : Nat → Prop) (base : Nat → Prop) (N : Nat) (w0 : World) (L : Nat → Nat) (β : Nat → Real) (H : List E) (ops : Array Oper) (o : Oper) (lk : Nat → Option D) (d : D) : Prop :=
  ∀ (a : Act) (w : World), Bs c S0 base N w0 L β H a w → (∀ t ∈ o.looksAt ops, ∀ d', lk t = some d' → ∃ v, a.tmps[t]? = some v ∧ RD w (stab S0 base w L) β v d') →
    ∀ (next : Act → World → Prop) (Q : Exit → Act → World → Prop), (∀ w' v, Below w.heap.size w w' → RD w' (stab S0 base w' L) β v d → next (a.put o.dst v) w') → if Region.wanted o (yielded ops a.tmps) = true then o.wp P a w next Q else next (a.put o.dst undef) w
/-- The slots that an operation looks at, as far as T tells of them. -/
def viewT (T : List (Nat × D)) : List Nat → List (Nat × D)
  | [] => []
  | t :: r => match look T t with
    | some d => (t, d) :: viewT T r
    | none => viewT T r
theorem look_view {T : List (Nat × D)} {t : Nat} : ∀ {l : List Nat}, t ∈ l → look (viewT T l) t = look T t
  | k :: l, h => by
    by_cases hk : k = t
    · subst hk
      simp only [viewT]
      split
      · rename_i d hd
        rw [look_put, if_pos rfl, hd]
      · rename_i hn
        cases hl : look (viewT T l) k with
        | none => exact hn.symm
        | some d =>
          exfalso
          have := look_view_sub hl
          rw [hn] at this
          cases this
    · have ht : t ∈ l := by
        rcases List.mem_cons.1 h with h | h
        · exact absurd h.symm hk
        · exact h
      simp only [viewT]
      split
      · rw [look_put, if_neg hk]; exact look_view ht
      · exact look_view ht
where look_view_sub {T : List (Nat × D)} {t : Nat} {d : D} : ∀ {l : List Nat}, look (viewT T l) t = some d → look T t = some d
  | [], h => by cases h
  | k :: l, h => by
    simp only [viewT] at h
    split at h
    · rename_i d2 hd2
      rw [look_put] at h
      split at h
      · rename_i e; subst e; cases h; exact hd2
      · exact look_view_sub h
    · exact look_view_sub h
theorem look_view_mem {T : List (Nat × D)} {t : Nat} {d : D} : ∀ {l : List Nat}, look (viewT T l) t = some d → t ∈ l
  | [], h => by cases h
  | k :: l, h => by
    simp only [viewT] at h
    split at h
    · rw [look_put] at h
      split at h
      · rename_i e; rw [e]; simp
      · exact List.mem_cons_of_mem _ (look_view_mem h)
    · exact List.mem_cons_of_mem _ (look_view_mem h)
theorem opd_view {T : List (Nat × D)} {l : List Nat} {x : Operand} (h : ∀ t, x = .tmp t → t ∈ l) : opd c (viewT T l) x = opd c T x := by
  cases x with
  | tmp t => exact look_view (h t rfl)
  | const v => cases v <;> rfl
  | global g => rfl
  | func f => rfl
theorem looks_operand {o : Oper} {t : Nat} (h : Operand.tmp t ∈ o.op.operands) : t ∈ o.looksAt ops := by
  unfold Oper.looksAt
  refine List.mem_append_left _ (List.mem_filterMap.2 ⟨.tmp t, by simpa using h, rfl⟩)
theorem looks_guard {o : Oper} {j g : Nat} {want : Bool} (hg : o.guard = some (j, want)) (hj : (ops[j]?).bind (·.dst) = some g) : g ∈ o.looksAt ops := by
  unfold Oper.looksAt
  refine List.mem_append_right _ ?_
  rw [hg]
  simp only
  rw [hj]
  simp
/-- Quiet operations, one by one. -/
theorem opsQ_sound (hc : CfgOk P c) {Kf : List (Nat × D) → Option R} : ∀ (l : List Oper) {T : List (Nat × D)}, opsQ c ops l T H Kf = some r →
    ∃ ds : List D, ds.length = l.length ∧ (∀ (i : Nat) o d, l[i]? = some o → ds[i]? = some d → SO P c S0 base N w0 L β H ops o (lkAt l ds (look T) i) d) ∧ ∃ Tn, Kf Tn = some r ∧ ∀ t d, look Tn t = some d → lkAt l ds (look T) l.length t = some d
  | [], T, h => ⟨[], rfl, fun i o d ho => by simp at ho, T, h, fun t d ht => ht⟩
  | o :: l, T, h => by
    have said : ∀ {T1 : List (Nat × D)} {d : D}, (∀ t, look T1 t = look T t) → SO P c S0 base N w0 L β H ops o (look T) d → opsQ c ops l (putT T1 o.dst d) H Kf = some r → ∃ ds : List D, ds.length = (o :: l).length ∧ (∀ (i : Nat) o2 d, (o :: l)[i]? = some o2 → ds[i]? = some d → SO P c S0 base N w0 L β H ops o2 (lkAt (o :: l) ds (look T) i) d) ∧ ∃ Tn, Kf Tn = some r ∧ ∀ t d, look Tn t = some d → lkAt (o :: l) ds (look T) (o :: l).length t = some d := by
      intro T1 d hT1 hso hk
      obtain ⟨ds, h1, h2, Tn, h3, h4⟩ := opsQ_sound hc l hk
      have hf : look (putT T1 o.dst d) = fun t => if o.dst = some t then some d else look T t := by
        funext t
        cases ho : o.dst with
        | none => simp only [putT]; rw [hT1]; simp
        | some t2 =>
          simp only [putT]
          rw [look_put, hT1]
          by_cases e : t2 = t
          · rw [if_pos e, if_pos (by rw [e])]
          · rw [if_neg e, if_neg (by simpa using e)]
      rw [hf] at h2 h4
      refine ⟨d :: ds, by simp [h1], fun i o2 d2 ho2 hd2 => ?_, Tn, h3, fun t d2 ht => ?_⟩
      · cases i with
        | zero => simp at ho2 hd2; subst ho2; subst hd2; exact hso
        | succ i =>
          have := h2 i o2 d2 (by simpa using ho2) (by simpa using hd2)
          have e : lkAt (o :: l) (d :: ds) (look T) (i + 1) = lkAt l ds (fun t => if o.dst = some t then some d else look T t) i := funext fun t => lkAt_cons i t
          rw [e]; exact this
      · rw [List.length_cons, lkAt_cons]; exact h4 t d2 ht
    -- an operation that runs
    have exec : ∀ {T1 : List (Nat × D)}, (∀ t, look T1 t = look T t) → (∀ (a : Act) (w : World), Bs c S0 base N w0 L β H a w → (∀ t ∈ o.looksAt ops, ∀ d', look T t = some d' → ∃ v, a.tmps[t]? = some v ∧ RD w (stab S0 base w L) β v d') → Region.wanted o (yielded ops a.tmps) = true) →
        (opQ c o T1 H fun d => opsQ c ops l (putT T1 o.dst d) H Kf) = some r → ∃ ds : List D, ds.length = (o :: l).length ∧ (∀ (i : Nat) o2 d, (o :: l)[i]? = some o2 → ds[i]? = some d → SO P c S0 base N w0 L β H ops o2 (lkAt (o :: l) ds (look T) i) d) ∧ ∃ Tn, Kf Tn = some r ∧ ∀ t d, look Tn t = some d → lkAt (o :: l) ds (look T) (o :: l).length t = some d := by
      intro T1 hT1 hw hk
      rw [opQ_bind, Option.bind_eq_some_iff] at hk
      obtain ⟨d, hd, hk⟩ := hk
      refine said hT1 (fun a w hB hv next Q hn => ?_) hk
      rw [if_pos (hw a w hB hv)]
      have hcg : opQ c o (viewT T1 (o.looksAt ops)) H some = some d := by
        rw [← hd]
        exact opQ_congr fun x hx => opd_view fun t e => looks_operand (by rw [← e]; exact hx)
      have hT : RTm w (stab S0 base w L) β a.tmps (viewT T1 (o.looksAt ops)) := fun t d' ht => by
        have hm := look_view_mem ht
        rw [look_view hm, hT1] at ht
        exact hv t hm d' ht
      obtain ⟨d2, e1, e2⟩ := opQ_sound hc hB.rel hT hB.gl hcg
      cases e1
      exact e2 next Q hn
    -- an operation that is passed over
    have skip : ∀ {T1 : List (Nat × D)}, (∀ t, look T1 t = look T t) → (∀ (a : Act) (w : World), Bs c S0 base N w0 L β H a w → (∀ t ∈ o.looksAt ops, ∀ d', look T t = some d' → ∃ v, a.tmps[t]? = some v ∧ RD w (stab S0 base w L) β v d') → Region.wanted o (yielded ops a.tmps) = false) →
        opsQ c ops l (putT T1 o.dst unD) H Kf = some r → ∃ ds : List D, ds.length = (o :: l).length ∧ (∀ (i : Nat) o2 d, (o :: l)[i]? = some o2 → ds[i]? = some d → SO P c S0 base N w0 L β H ops o2 (lkAt (o :: l) ds (look T) i) d) ∧ ∃ Tn, Kf Tn = some r ∧ ∀ t d, look Tn t = some d → lkAt (o :: l) ds (look T) (o :: l).length t = some d := by
      intro T1 hT1 hw hk
      refine said hT1 (fun a w hB hv next Q hn => ?_) hk
      rw [if_neg (by rw [hw a w hB hv]; simp)]
      exact hn w undef (Below.refl _ _) (.tup rfl (fun i x d hx => by simp at hx))
    have saysame : ∀ {g : Nat} {b : Bool}, look T g = some (.val .bool b) → ∀ t, look ((g, .val .bool b) :: T) t = look T t := fun {g b} hb t => by
      rw [look_put]
      split
      · rename_i e; rw [← e, hb]
      · rfl
    rw [opsQ] at h
    split at h
    · rename_i hg
      exact exec (fun _ => rfl) (fun a w _ _ => by simp [Region.wanted, hg]) h
    · rename_i j want hg
      split at h
      · rename_i g hj
        split at h
        · rename_i b hb
          have hw : ∀ (a : Act) (w : World), (∀ t ∈ o.looksAt ops, ∀ d', look T t = some d' → ∃ v, a.tmps[t]? = some v ∧ RD w (stab S0 base w L) β v d') → Region.wanted o (yielded ops a.tmps) = (b == want) := fun a w hv => by
            obtain ⟨v, h1, h2⟩ := hv g (looks_guard hg hj) _ hb
            rw [RD_bool h2] at h1
            exact wanted_of hg hj h1
          cases b with
          | true =>
            rw [cond_true] at h
            cases want with
            | true => exact exec (saysame hb) (fun a w _ hv => hw a w hv) h
            | false => exact skip (saysame hb) (fun a w _ hv => hw a w hv) h
          | false =>
            rw [cond_false] at h
            cases want with
            | true => exact skip (saysame hb) (fun a w _ hv => hw a w hv) h
            | false => exact exec (saysame hb) (fun a w _ hv => hw a w hv) h
        · rename_i hb
          refine skip (fun _ => rfl) (fun a w _ hv => ?_) h
          obtain ⟨v, h1, h2⟩ := hv g (looks_guard hg hj) _ hb
          obtain ⟨arr, e, _⟩ := RD_tup h2
          rw [e] at h1
          exact wanted_undef hg hj h1
        · cases h
      · cases h
end
end Go.Eng
/- Regions whose order is left open: what the walk over them needs. -/
namespace Go.Eng
open Go.RowKit
open Classical
set_option linter.unusedVariables false
set_option linter.unusedSimpArgs false
set_option linter.unusedSectionVars false
section
variable {P : Program} {c : Cfg} {h : Hint} {S0 : Nat → Prop} {base : Nat → Prop} {N : Nat} {w0 : World} {L : Nat → Nat} {β : Nat → Real} {H : List E} {R : Type} {r : R} {ops : Array Oper} {md : Region.Mode} {m : Nat} {T : List (Nat × D)}
theorem lkAt_cases {l : List Oper} {ds : List D} {f : Nat → Option D} {t : Nat} {d : D} (hl : ds.length = l.length) : ∀ (i : Nat), i ≤ l.length → lkAt l ds f i t = some d →
    (∃ j o, j < i ∧ l[j]? = some o ∧ ds[j]? = some d ∧ o.dst = some t) ∨ (f t = some d ∧ ∀ j o, j < i → l[j]? = some o → o.dst ≠ some t)
  | 0, _, h => .inr ⟨h, fun j o hj => absurd hj (by omega)⟩
  | i + 1, hi, h => by
    have hlt : i < l.length := by omega
    simp only [lkAt, List.getElem?_eq_getElem hlt, List.getElem?_eq_getElem (show i < ds.length by omega)] at h
    split at h
    · rename_i hd
      cases h
      exact .inl ⟨i, l[i], by omega, List.getElem?_eq_getElem hlt, List.getElem?_eq_getElem (by omega), hd⟩
    · rename_i hd
      rcases lkAt_cases hl i (by omega) h with ⟨j, o, h1, h2⟩ | ⟨h1, h2⟩
      · exact .inl ⟨j, o, by omega, h2⟩
      · refine .inr ⟨h1, fun j o hj ho => ?_⟩
        by_cases e : j = i
        · subst e
          rw [List.getElem?_eq_getElem hlt] at ho
          cases ho
          exact hd
        · exact h2 j o (by omega) ho
/-- What holds while the head of a region is being done, in whatever order. -/
structure Iv (c : Cfg) (S0 : Nat → Prop) (base : Nat → Prop) (N : Nat) (w0 : World) (L : Nat → Nat) (β : Nat → Real) (H : List E) (md : Region.Mode) (ops : Array Oper) (m : Nat) (T : List (Nat × D)) (ds : List D) (listed : Array Bool) (a : Act) (w : World) : Prop where
  bs : Bs c S0 base N w0 L β H a w
  sz : listed.size = ops.size
  only : ∀ j, m ≤ j → listed.getD j false = false
  clos : ∀ k o, ops[k]? = some o → listed.getD k false = true → ∀ e ∈ o.after, Region.binds md e = true → listed.getD e.on false = true
  done : ∀ k o d t, k < m → ops[k]? = some o → ds[k]? = some d → listed.getD k false = true → o.dst = some t → ∃ v, a.tmps[t]? = some v ∧ RD w (stab S0 base w L) β v d
  rest : ∀ t d, look T t = some d → (∀ k o, k < m → ops[k]? = some o → listed.getD k false = true → o.dst ≠ some t) → ∃ v, a.tmps[t]? = some v ∧ RD w (stab S0 base w L) β v d
theorem countP_flip {p q : Nat → Bool} {i : Nat} (hp : p i = true) (hq : q i = false) (he : ∀ j, j ≠ i → q j = p j) : ∀ m, i < m → (List.range m).countP p = (List.range m).countP q + 1
  | 0, h => absurd h (by omega)
  | m + 1, h => by
    rw [List.range_succ, List.countP_append, List.countP_append, List.countP_singleton, List.countP_singleton]
    by_cases hi : i = m
    · subst hi
      have : (List.range i).countP p = (List.range i).countP q := by
        apply List.countP_congr
        intro j hj
        rw [List.mem_range] at hj
        rw [he j (by omega)]
      rw [this, hp, hq]
      simp
    · rw [countP_flip hp hq he m (by omega), he m (fun e => hi e.symm)]
      omega
theorem getD_set_self {listed : Array Bool} {i : Nat} (h : i < listed.size) (b : Bool) : (listed.setIfInBounds i true).getD i b = true := by
  rw [Array.getD_eq_getD_getElem?]
  simp [h]
theorem getD_tf {listed : Array Bool} {i : Nat} (h : i < listed.size) (b b2 : Bool) : listed.getD i b = listed.getD i b2 := by
  rw [Array.getD_eq_getD_getElem?, Array.getD_eq_getD_getElem?, Array.getElem?_eq_getElem h]
  rfl
end
end Go.Eng
/- A quiet operation looks at the entries alone that its operands name. -/
namespace Go.Eng
open Go.RowKit
set_option linter.unusedVariables false
set_option linter.unusedSimpArgs false
set_option linter.unusedSectionVars false
section
variable {c : Cfg} {R : Type} {H H2 : List E}
theorem idsL_mem {id : Nat} : ∀ {ds : List D}, id ∈ idsL ds → ∃ d ∈ ds, id ∈ d.ids
  | [], h => by cases h
  | e :: ds, h => by
    simp only [idsL, List.mem_append] at h
    rcases h with h | h
    · exact ⟨e, by simp, h⟩
    · obtain ⟨d, h1, h2⟩ := idsL_mem h
      exact ⟨d, by simp [h1], h2⟩
theorem rdCell_H {t : Ty} {d : D} (h : ∀ id ∈ d.ids, H[id]? = H2[id]?) : rdCell t d H = rdCell t d H2 := by
  cases d with
  | ow id =>
    have := h id (by simp [D.ids])
    simp only [rdCell]
    rw [this]
  | os id off len =>
    have := h id (by simp [D.ids])
    simp only [rdCell]
    rw [this]
  | imm v => unfold rdCell; split <;> first | rfl | (rename_i heq; cases heq)
  | val t2 x => rfl
  | _ => rfl
theorem rdCells_H : ∀ (t : Ty) {ds : List D}, (∀ id ∈ idsL ds, H[id]? = H2[id]?) → rdCells t ds H = rdCells t ds H2 ∧ ∀ x r, rdCells t ds H = some (x, r) → ∀ id ∈ idsL r, id ∈ idsL ds
  | .unit, ds, h => ⟨rfl, fun x r hx id hi => by simp only [rdCells, Option.some.injEq, Prod.mk.injEq] at hx; rw [hx.2]; exact hi⟩
  | .pair a b, ds, h => by
    obtain ⟨e1, e2⟩ := rdCells_H a h
    constructor
    · simp only [rdCells]
      rw [e1]
      cases hx : rdCells a ds H2 with
      | none => rfl
      | some y =>
        simp only [Option.bind_some]
        rw [(rdCells_H b (fun id hi => h id (e2 y.1 y.2 (by rw [e1, hx]) id hi))).1]
    · intro x r hx id hi
      simp only [rdCells, Option.bind_eq_some_iff] at hx
      obtain ⟨y, h1, z, h2, h3⟩ := hx
      cases h3
      have h4 := e2 y.1 y.2 h1
      exact h4 id ((rdCells_H b (fun id hi => h id (h4 id hi))).2 z.1 z.2 h2 id hi)
  | .int k, [], h => ⟨rfl, fun x r hx => by simp [rdCells] at hx⟩
  | .bool, [], h => ⟨rfl, fun x r hx => by simp [rdCells] at hx⟩
  | .str, [], h => ⟨rfl, fun x r hx => by simp [rdCells] at hx⟩
  | .sl o t, [], h => ⟨rfl, fun x r hx => by simp [rdCells] at hx⟩
  | .int k, d :: ds, h => by
    refine ⟨by simp only [rdCells]; rw [rdCell_H (fun id hi => h id (by simp only [idsL, List.mem_append]; exact .inl hi))], fun x r hx id hi => ?_⟩
    simp only [rdCells, Option.map_eq_some_iff, Prod.mk.injEq] at hx
    obtain ⟨_, _, _, rfl⟩ := hx
    simp only [idsL, List.mem_append]; exact .inr hi
  | .bool, d :: ds, h => by
    refine ⟨by simp only [rdCells]; rw [rdCell_H (fun id hi => h id (by simp only [idsL, List.mem_append]; exact .inl hi))], fun x r hx id hi => ?_⟩
    simp only [rdCells, Option.map_eq_some_iff, Prod.mk.injEq] at hx
    obtain ⟨_, _, _, rfl⟩ := hx
    simp only [idsL, List.mem_append]; exact .inr hi
  | .str, d :: ds, h => by
    refine ⟨by simp only [rdCells]; rw [rdCell_H (fun id hi => h id (by simp only [idsL, List.mem_append]; exact .inl hi))], fun x r hx id hi => ?_⟩
    simp only [rdCells, Option.map_eq_some_iff, Prod.mk.injEq] at hx
    obtain ⟨_, _, _, rfl⟩ := hx
    simp only [idsL, List.mem_append]; exact .inr hi
  | .sl o t, d :: ds, h => by
    refine ⟨by simp only [rdCells]; rw [rdCell_H (fun id hi => h id (by simp only [idsL, List.mem_append]; exact .inl hi))], fun x r hx id hi => ?_⟩
    simp only [rdCells, Option.map_eq_some_iff, Prod.mk.injEq] at hx
    obtain ⟨_, _, _, rfl⟩ := hx
    simp only [idsL, List.mem_append]; exact .inr hi
theorem rdSh_H {s : Sh} {d : D} (h : ∀ id ∈ d.ids, H[id]? = H2[id]?) : rdSh s d H = rdSh s d H2 := by
  cases s with
  | one t =>
    simp only [rdSh]
    rw [(rdCells_H t (ds := [d]) (fun id hi => h id (by simpa [idsL] using hi))).1]
  | agg t =>
    cases d with
    | agg ds => simp only [rdSh]; rw [(rdCells_H t (ds := ds) h).1]
    | _ => rfl
theorem rdShs_H : ∀ (ss : List Sh) {ds : List D}, (∀ id ∈ idsL ds, H[id]? = H2[id]?) → rdShs ss ds H = rdShs ss ds H2
  | [], [], _ => rfl
  | [], _ :: _, _ => rfl
  | _ :: _, [], _ => rfl
  | s :: ss, d :: ds, h => by
    simp only [rdShs]
    rw [rdSh_H (s := s) (d := d) (fun id hi => h id (by simp only [idsL, List.mem_append]; exact .inl hi)), rdShs_H ss (ds := ds) (fun id hi => h id (by simp only [idsL, List.mem_append]; exact .inr hi))]
theorem inCells_strip : ∀ (t : Ty) {x : t.den} {H H2 : List E}, t.strip = t → (inCells t x H).1 = (inCells t x H2).1
  | .unit, _, _, _, _ => rfl
  | .int k, _, _, _, _ => rfl
  | .bool, _, _, _, _ => rfl
  | .str, _, _, _, _ => rfl
  | .sl true t, _, _, _, h => by simp [Ty.strip] at h
  | .sl false t, _, _, _, h => rfl
  | .pair a b, x, H, H2, h => by
    simp only [Ty.strip, Ty.pair.injEq] at h
    show (inCells a x.1 H).1 ++ (inCells b x.2 (inCells a x.1 H).2).1 = (inCells a x.1 H2).1 ++ (inCells b x.2 (inCells a x.1 H2).2).1
    rw [inCells_strip a (H2 := H2) h.1, inCells_strip b (H2 := (inCells a x.1 H2).2) h.2]
theorem inSh_strip {s : Sh} {x : s.ty.den} (h : s.ty.strip = s.ty) (H H2 : List E) : (inSh s x H).map (·.1) = (inSh s x H2).map (·.1) := by
  cases s with
  | agg t => simp only [inSh, Option.map_some]; rw [inCells_strip t h]
  | one t =>
    simp only [inSh]
    have := inCells_strip t (x := x) (H := H) (H2 := H2) h
    rw [this]
    split <;> rfl
theorem inShs_strip : ∀ (ss : List Sh) {x : Shs.den ss} (H H2 : List E), ss.all (fun s => decide (s.ty.strip = s.ty)) = true → (inShs ss x H).map (·.1) = (inShs ss x H2).map (·.1)
  | [], _, _, _, _ => rfl
  | s :: ss, x, H, H2, h => by
    simp only [List.all_cons, Bool.and_eq_true] at h
    have h1 := inSh_strip (x := x.1) (of_decide_eq_true h.1) H H2
    simp only [inShs]
    cases e1 : inSh s x.1 H with
    | none =>
      rw [e1] at h1
      cases e2 : inSh s x.1 H2 with
      | none => rfl
      | some y => rw [e2] at h1; cases h1
    | some y =>
      rw [e1] at h1
      cases e2 : inSh s x.1 H2 with
      | none => rw [e2] at h1; cases h1
      | some z =>
        rw [e2] at h1
        simp only [Option.map_some, Option.some.injEq] at h1
        simp only [Option.bind_some]
        have h3 := inShs_strip ss (x := x.2) y.2 z.2 h.2
        cases e3 : inShs ss x.2 y.2 with
        | none =>
          rw [e3] at h3
          cases e4 : inShs ss x.2 z.2 with
          | none => rfl
          | some q => rw [e4] at h3; cases h3
        | some p =>
          rw [e3] at h3
          cases e4 : inShs ss x.2 z.2 with
          | none => rw [e4] at h3; cases h3
          | some q =>
            rw [e4] at h3
            simp only [Option.map_some, Option.some.injEq] at h3
            simp only [Option.bind_some, Option.map_some, h1, h3]
theorem callQ_H {f : FuncId} {args : List D} {K : D → Option R} (h : ∀ id ∈ idsL args, H[id]? = H2[id]?) : callQ c H f args K = callQ c H2 f args K := by
  unfold callQ
  split
  · rename_i k hk
    obtain ⟨as, rs, fn⟩ := k
    simp only
    rw [rdShs_H as h]
    split
    · rename_i x hx
      congr 1
      funext y
      cases rs with
      | one s =>
        simp only
        cases hb : (decide (s.ty.strip = s.ty) && (s.ty.noSl || (idsL args).isEmpty)) with
        | false => rfl
        | true =>
          simp only [Bool.and_eq_true, decide_eq_true_eq] at hb
          have h1 := inSh_strip (x := y) hb.1 H H2
          simp only [cond_true]
          cases e1 : inSh s y H with
          | none =>
            rw [e1] at h1
            cases e2 : inSh s y H2 with
            | none => rfl
            | some z => rw [e2] at h1; cases h1
          | some z =>
            rw [e1] at h1
            cases e2 : inSh s y H2 with
            | none => rw [e2] at h1; cases h1
            | some q =>
              rw [e2] at h1
              simp only [Option.map_some, Option.some.injEq] at h1
              simp only [h1]
      | tup ss =>
        simp only
        cases hb : (ss.all (fun s => decide (s.ty.strip = s.ty)) && (ss.all (fun s => s.ty.noSl) || (idsL args).isEmpty)) with
        | false => rfl
        | true =>
          simp only [Bool.and_eq_true] at hb
          have h1 := inShs_strip ss (x := y) H H2 hb.1
          simp only [cond_true]
          cases e1 : inShs ss y H with
          | none =>
            rw [e1] at h1
            cases e2 : inShs ss y H2 with
            | none => rfl
            | some z => rw [e2] at h1; cases h1
          | some z =>
            rw [e1] at h1
            cases e2 : inShs ss y H2 with
            | none => rw [e2] at h1; cases h1
            | some q =>
              rw [e2] at h1
              simp only [Option.map_some, Option.some.injEq] at h1
              simp only [h1]
    · rfl
  · rfl
theorem ldK_H {d : D} {n : Nat} {K : List D → Option R} (h : ∀ id ∈ d.ids, H[id]? = H2[id]?) : ldK H d n K = ldK H2 d n K := by
  cases d with
  | bp id off => simp only [ldK]; rw [h id (by simp [D.ids])]
  | ap id j q => simp only [ldK]; rw [h id (by simp [D.ids])]
  | _ => rfl
theorem lenD_H {i : TI} {d : D} (h : ∀ id ∈ d.ids, H[id]? = H2[id]?) : lenD i H d = lenD i H2 d := by
  cases d with
  | ow id => simp only [lenD]; rw [h id (by simp [D.ids])]
  | val t x => cases t <;> rfl
  | imm v => unfold lenD; split <;> first | rfl | (rename_i heq; cases heq)
  | _ => rfl
theorem opds_ids {T : List (Nat × D)} {id : Nat} : ∀ {xs : List Operand} {ds : List D}, opds c T xs = some ds → id ∈ idsL ds → ∃ x ∈ xs, ∃ d, opd c T x = some d ∧ id ∈ d.ids
  | [], ds, h, hi => by cases h; cases hi
  | x :: xs, ds, h, hi => by
    simp only [opds, Option.bind_eq_some_iff, Option.some.injEq] at h
    obtain ⟨d, h1, es, h2, rfl⟩ := h
    simp only [idsL, List.mem_append] at hi
    rcases hi with hi | hi
    · exact ⟨x, by simp, d, h1, hi⟩
    · obtain ⟨y, h3, h4⟩ := opds_ids h2 hi
      exact ⟨y, by simp [h3], h4⟩
/-- A quiet operation looks at the entries alone that its operands name. -/
theorem opQ_H {o : Oper} {T : List (Nat × D)} {K : D → Option R} (h : ∀ x ∈ o.op.operands, ∀ d, opd c T x = some d → ∀ id ∈ d.ids, H[id]? = H2[id]?) : opQ c o T H K = opQ c o T H2 K := by
  unfold opQ
  cases ho : o.op <;> rw [ho] at h <;> simp only [Op.operands] at h <;> (try simp only []) <;> (try rfl)
  case load t x =>
    split
    · rename_i i d hi hd
      exact ldK_H (fun id hid => h x (by simp) d hd id hid)
    · rfl
  case indexAddr t x ix =>
    split
    · rename_i i d k n hi hd hn
      split
      · split
        · cases d with
          | ow id => simp only; rw [h x (by simp) _ hd id (by simp [D.ids])]
          | val t3 x3 => cases t3 <;> rfl
          | _ => rfl
        · rfl
      · rfl
    · rfl
  case convert u t x =>
    split
    · rfl
    · rfl
    · rename_i iu i d _ _ hu hi hd
      split
      · split
        · split
          · rw [rdCell_H (fun id hid => h x (by simp) d hd id hid)]
          · rfl
        · rfl
      · rfl
    · rfl
  case slice t x lo hi mx => cases mx <;> rfl
  case call k =>
    have hargs : ∀ x ∈ k.args, ∀ d, opd c T x = some d → ∀ id ∈ d.ids, H[id]? = H2[id]? := fun x hx => h x (by simp [Call.operands, hx])
    cases hk : k.callee with
    | builtin b =>
      cases b with
      | len =>
        simp only
        split
        · rename_i x t ts hx ht
          split
          · rename_i i d hi hd
            rw [lenD_H (fun id hid => hargs x (by rw [← Array.mem_toList_iff, hx]; simp) d hd id hid)]
          · rfl
        · rfl
      | _ => rfl
    | value x =>
      simp only
      split
      · rename_i f caps ds hx hd
        refine callQ_H fun id hid => ?_
        obtain ⟨d, h1, h2⟩ := idsL_mem hid
        rcases List.mem_append.1 h1 with h1 | h1
        · obtain ⟨y, h3, e, h4, h5⟩ := opds_ids hd (mem_idsL h2 h1)
          exact hargs y (by simpa using h3) e h4 id h5
        · exact h x (by simp [Call.operands, hk]) _ hx id (by simp only [D.ids]; exact mem_idsL h2 h1)
      · rfl
    | invoke x name =>
      simp only
      split
      · rename_i t d ds hx hd
        split
        · refine callQ_H fun id hid => ?_
          simp only [idsL, List.mem_append] at hid
          rcases hid with hid | hid
          · exact h x (by simp [Call.operands, hk]) _ hx id (by simpa only [D.ids] using hid)
          · obtain ⟨y, h3, e, h4, h5⟩ := opds_ids hd hid
            exact hargs y (by simpa using h3) e h4 id h5
        · rfl
      · rfl
end
end Go.Eng
