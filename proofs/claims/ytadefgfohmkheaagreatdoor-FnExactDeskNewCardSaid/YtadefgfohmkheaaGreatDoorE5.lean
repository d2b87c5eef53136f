/- Part of the proof: the evaluator of typed functions, and that its answers are the contracts of the calls. -/
import Derived.Test.YtadefgfohmkheaaGreatDoorE4
import Derived.ChangeArms
import Derived.ChangeMaps5
import Derived.RowKit
import Derived.Carry
import Derived.ChangeOld
/- Regions whose order is left open, with operations that add entries among the quiet ones. -/
namespace Go.Eng
open Go.RowKit
open Classical
set_option linter.unusedVariables false
set_option linter.unusedSimpArgs false
set_option linter.unusedSectionVars false
section
variable {P : Program} {c : Cfg} {h : Hint} {S0 : Nat → Prop} {base : Nat → Prop} {N : Nat} {w0 : World} {L : Nat → Nat} {β : Nat → Real} {H H2 : List E} {R : Type} {r : R} {ops : Array Oper} {md : Region.Mode} {m : Nat} {T : List (Nat × D)}
-- what adds entries leaves those alone that it does not name
theorem mvCell_keep {t : Ty} {d : D} {y : t.den} (h : mvCell t d H = some (y, H2)) : H2.length = H.length ∧ ∀ id, id ∉ d.ids → H2[id]? = H[id]? := by
  have hset : ∀ (id2 : Nat) (e : E), (H.set id2 e).length = H.length ∧ ∀ id, id ∉ (D.ow id2).ids → (H.set id2 e)[id]? = H[id]? := fun id2 e => by
    refine ⟨by simp, fun id hid => ?_⟩
    rw [List.getElem?_set_ne]
    intro e2
    exact hid (by simp [D.ids, e2])
  unfold mvCell at h
  split at h
  · cases h; exact ⟨rfl, fun _ _ => rfl⟩
  · split at h
    · split at h
      · cases h; exact hset _ _
      · cases h
    · cases h
  · cases h
  · split at h
    · split at h
      · cases h; exact hset _ _
      · cases h
    · split at h
      · cases h; exact ⟨rfl, fun _ _ => rfl⟩
      · cases h
    · cases h
  · cases h; exact ⟨rfl, fun _ _ => rfl⟩
  · split at h
    · cases h; exact ⟨rfl, fun _ _ => rfl⟩
    · cases h
  · cases h
theorem mvCells_keep : ∀ (t : Ty) {H H2 : List E} {x y : t.den} {c : Nat} {ds rest : List D}, mvCells t x c ds H = some (y, rest, H2) → H2.length = H.length ∧ (∀ id, id ∉ idsL ds → H2[id]? = H[id]?) ∧ ∀ id, id ∈ idsL rest → id ∈ idsL ds
  | .unit, H, H2, x, y, c, ds, rest, h => by
    simp only [mvCells, Option.some.injEq, Prod.mk.injEq] at h
    obtain ⟨_, rfl, rfl⟩ := h
    exact ⟨rfl, fun _ _ => rfl, fun _ h => h⟩
  | .int k, H, H2, x, y, c, [], rest, h => by
    simp only [mvCells, Option.some.injEq, Prod.mk.injEq] at h
    obtain ⟨_, rfl, rfl⟩ := h
    exact ⟨rfl, fun _ _ => rfl, fun _ h => h⟩
  | .bool, H, H2, x, y, c, [], rest, h => by
    simp only [mvCells, Option.some.injEq, Prod.mk.injEq] at h
    obtain ⟨_, rfl, rfl⟩ := h
    exact ⟨rfl, fun _ _ => rfl, fun _ h => h⟩
  | .str, H, H2, x, y, c, [], rest, h => by
    simp only [mvCells, Option.some.injEq, Prod.mk.injEq] at h
    obtain ⟨_, rfl, rfl⟩ := h
    exact ⟨rfl, fun _ _ => rfl, fun _ h => h⟩
  | .sl o t, H, H2, x, y, c, [], rest, h => by
    simp only [mvCells, Option.some.injEq, Prod.mk.injEq] at h
    obtain ⟨_, rfl, rfl⟩ := h
    exact ⟨rfl, fun _ _ => rfl, fun _ h => h⟩
  | .int k, H, H2, x, y, c, d :: ds, rest, h => by
    simp only [mvCells, Option.bind_eq_some_iff, Option.some.injEq, Prod.mk.injEq] at h
    obtain ⟨⟨y2, H3⟩, h1, _, rfl, rfl⟩ := h
    obtain ⟨q1, q2⟩ := mvCell_keep h1
    exact ⟨q1, fun id hid => q2 id (fun hh => hid (by simp only [idsL, List.mem_append]; exact .inl hh)), fun id hh => by simp only [idsL, List.mem_append]; exact .inr hh⟩
  | .bool, H, H2, x, y, c, d :: ds, rest, h => by
    simp only [mvCells, Option.bind_eq_some_iff, Option.some.injEq, Prod.mk.injEq] at h
    obtain ⟨⟨y2, H3⟩, h1, _, rfl, rfl⟩ := h
    obtain ⟨q1, q2⟩ := mvCell_keep h1
    exact ⟨q1, fun id hid => q2 id (fun hh => hid (by simp only [idsL, List.mem_append]; exact .inl hh)), fun id hh => by simp only [idsL, List.mem_append]; exact .inr hh⟩
  | .str, H, H2, x, y, c, d :: ds, rest, h => by
    simp only [mvCells, Option.bind_eq_some_iff, Option.some.injEq, Prod.mk.injEq] at h
    obtain ⟨⟨y2, H3⟩, h1, _, rfl, rfl⟩ := h
    obtain ⟨q1, q2⟩ := mvCell_keep h1
    exact ⟨q1, fun id hid => q2 id (fun hh => hid (by simp only [idsL, List.mem_append]; exact .inl hh)), fun id hh => by simp only [idsL, List.mem_append]; exact .inr hh⟩
  | .sl o t, H, H2, x, y, c, d :: ds, rest, h => by
    simp only [mvCells, Option.bind_eq_some_iff, Option.some.injEq, Prod.mk.injEq] at h
    obtain ⟨⟨y2, H3⟩, h1, _, rfl, rfl⟩ := h
    obtain ⟨q1, q2⟩ := mvCell_keep h1
    exact ⟨q1, fun id hid => q2 id (fun hh => hid (by simp only [idsL, List.mem_append]; exact .inl hh)), fun id hh => by simp only [idsL, List.mem_append]; exact .inr hh⟩
  | .pair a b, H, H2, x, y, c, ds, rest, h => by
    simp only [mvCells] at h
    cases hb : Nat.ble a.width c with
    | true =>
      rw [hb, cond_true, Option.bind_eq_some_iff] at h
      obtain ⟨⟨y2, rest2, H3⟩, h3, h4⟩ := h
      cases h4
      exact mvCells_keep b h3
    | false =>
      rw [hb, cond_false, Option.bind_eq_some_iff] at h
      obtain ⟨⟨y1, rest1, H3⟩, h3, h⟩ := h
      rw [Option.bind_eq_some_iff] at h
      obtain ⟨⟨y2, rest2, H4⟩, h4, h5⟩ := h
      cases h5
      obtain ⟨q1, q2, q3⟩ := mvCells_keep a h3
      obtain ⟨r1, r2, r3⟩ := mvCells_keep b h4
      exact ⟨r1.trans q1, fun id hid => (r2 id (fun hh => hid (q3 id hh))).trans (q2 id hid), fun id hh => q3 id (r3 id hh)⟩
theorem rowsOf_keep (t : Ty) : ∀ {rows : List (List D)} {H H2 : List E} {l : List t.den}, rowsOf t rows H = some (l, H2) → H2.length = H.length ∧ ∀ id, (∀ r ∈ rows, id ∉ idsL r) → H2[id]? = H[id]?
  | [], H, H2, l, h => by
    simp only [rowsOf, Option.some.injEq, Prod.mk.injEq] at h
    rw [h.2]; exact ⟨rfl, fun _ _ => rfl⟩
  | r :: rows, H, H2, l, h => by
    simp only [rowsOf] at h
    split at h
    · rename_i x H3 h3
      cases hb : Nat.beq r.length t.width with
      | false => rw [hb] at h; cases h
      | true =>
        rw [hb, cond_true] at h
        split at h
        · rename_i l2 H4 h4
          cases h
          obtain ⟨q1, q2, _⟩ := mvCells_keep t h3
          obtain ⟨r1, r2⟩ := rowsOf_keep t h4
          exact ⟨r1.trans q1, fun id hid => (r2 id (fun r hr => hid r (by simp [hr]))).trans (q2 id (hid r (by simp)))⟩
        · cases h
    · cases h
theorem inCells_keep : ∀ (t : Ty) (x : t.den) (H : List E), H.length ≤ (inCells t x H).2.length ∧ ∀ id, id < H.length → (inCells t x H).2[id]? = H[id]?
  | .unit, x, H => ⟨Nat.le_refl _, fun _ _ => rfl⟩
  | .int k, x, H => ⟨Nat.le_refl _, fun _ _ => rfl⟩
  | .bool, x, H => ⟨Nat.le_refl _, fun _ _ => rfl⟩
  | .str, x, H => ⟨Nat.le_refl _, fun _ _ => rfl⟩
  | .sl false t, x, H => ⟨Nat.le_refl _, fun _ _ => rfl⟩
  | .sl true t, x, H => ⟨by show H.length ≤ (H ++ [E.arr t x]).length; simp, fun id hid => List.getElem?_append_left hid⟩
  | .pair a b, x, H => by
    obtain ⟨q1, q2⟩ := inCells_keep a x.1 H
    obtain ⟨r1, r2⟩ := inCells_keep b x.2 (inCells a x.1 H).2
    exact ⟨Nat.le_trans q1 r1, fun id hid => (r2 id (Nat.lt_of_lt_of_le hid q1)).trans (q2 id hid)⟩
theorem inSh_keep {s : Sh} {x : s.ty.den} {d : D} (h : inSh s x H = some (d, H2)) : H.length ≤ H2.length ∧ ∀ id, id < H.length → H2[id]? = H[id]? := by
  cases s with
  | agg t =>
    simp only [inSh, Option.some.injEq, Prod.mk.injEq] at h
    rw [← h.2]; exact inCells_keep t x H
  | one t =>
    simp only [inSh] at h
    split at h
    · simp only [Option.some.injEq, Prod.mk.injEq] at h
      rw [← h.2]; exact inCells_keep t x H
    · cases h
theorem inShs_keep : ∀ (ss : List Sh) {x : Shs.den ss} {H H2 : List E} {ds : List D}, inShs ss x H = some (ds, H2) → H.length ≤ H2.length ∧ ∀ id, id < H.length → H2[id]? = H[id]?
  | [], x, H, H2, ds, h => by
    simp only [inShs, Option.some.injEq, Prod.mk.injEq] at h
    rw [h.2]; exact ⟨Nat.le_refl _, fun _ _ => rfl⟩
  | s :: ss, x, H, H2, ds, h => by
    simp only [inShs, Option.bind_eq_some_iff] at h
    obtain ⟨⟨d, H3⟩, h3, ⟨es, H4⟩, h4, h5⟩ := h
    simp only [Option.some.injEq, Prod.mk.injEq] at h5
    rw [← h5.2]
    obtain ⟨q1, q2⟩ := inSh_keep h3
    obtain ⟨r1, r2⟩ := inShs_keep ss h4
    exact ⟨Nat.le_trans q1 r1, fun id hid => (r2 id (Nat.lt_of_lt_of_le hid q1)).trans (q2 id hid)⟩
theorem fzAll_keep : ∀ (ids : List Nat) (H : List E), (fzAll H ids).length = H.length ∧ ∀ id, id ∉ ids → (fzAll H ids)[id]? = H[id]?
  | [], H => ⟨rfl, fun _ _ => rfl⟩
  | i :: r, H => by
    simp only [fzAll]
    split
    · obtain ⟨q1, q2⟩ := fzAll_keep r (H.set i _)
      refine ⟨q1.trans (by simp), fun id hid => (q2 id (fun hh => hid (by simp [hh]))).trans ?_⟩
      rw [List.getElem?_set_ne]
      intro e; exact hid (by simp [e])
    · obtain ⟨q1, q2⟩ := fzAll_keep r H
      exact ⟨q1, fun id hid => q2 id (fun hh => hid (by simp [hh]))⟩
theorem callK_keep {f : FuncId} {k : Con} (hf : c.con f = some k) {args : List D} {K : List E → D → Option R} (h0 : callK c H f args K = some r) :
    ∃ H2 d, K H2 d = some r ∧ callK c H f args (fun H d => some (H, d)) = some (H2, d) ∧ H.length ≤ H2.length ∧ ∀ id, id < H.length → id ∉ idsL args → H2[id]? = H[id]? := by
  obtain ⟨as, rs, X⟩ := k
  unfold callK at h0 ⊢
  simp only [hf] at h0 ⊢
  cases hx : rdShs as args H with
  | none => rw [hx] at h0; cases h0
  | some x =>
    rw [hx] at h0
    simp only at h0 ⊢
    cases hy : X x with
    | none => rw [hy] at h0; cases h0
    | some y =>
      rw [hy] at h0
      simp only [Option.bind_some] at h0 ⊢
      cases rs with
      | one s =>
        simp only at h0 ⊢
        cases hb : (s.ty.allOwn || noBox H (idsL args)) with
        | false => rw [hb] at h0; cases h0
        | true =>
          rw [hb, cond_true] at h0
          rw [cond_true]
          split at h0
          · rename_i d H3 h3
            refine ⟨H3, d, h0, rfl, ?_⟩
            obtain ⟨q1, q2⟩ := inSh_keep h3
            cases ha : s.ty.allOwn with
            | true => rw [ha, cond_true] at q1 q2; exact ⟨q1, fun id hid _ => q2 id hid⟩
            | false =>
              rw [ha, cond_false] at q1 q2
              obtain ⟨p1, p2⟩ := fzAll_keep (idsL args) H
              rw [p1] at q1 q2
              exact ⟨q1, fun id hid hn => (q2 id hid).trans (p2 id hn)⟩
          · cases h0
      | tup ss =>
        simp only at h0 ⊢
        cases hb : (Shs.allOwn ss || noBox H (idsL args)) with
        | false => rw [hb] at h0; cases h0
        | true =>
          rw [hb, cond_true] at h0
          rw [cond_true]
          split at h0
          · rename_i d H3 h3
            refine ⟨H3, _, h0, rfl, ?_⟩
            obtain ⟨q1, q2⟩ := inShs_keep ss h3
            cases ha : Shs.allOwn ss with
            | true => rw [ha, cond_true] at q1 q2; exact ⟨q1, fun id hid _ => q2 id hid⟩
            | false =>
              rw [ha, cond_false] at q1 q2
              obtain ⟨p1, p2⟩ := fzAll_keep (idsL args) H
              rw [p1] at q1 q2
              exact ⟨q1, fun id hid hn => (q2 id hid).trans (p2 id hn)⟩
          · cases h0
theorem mem_idsO {o : Oper} {x : Operand} {d : D} {id : Nat} (hx : x ∈ o.op.operands) (hd : opd c T x = some d) (hi : id ∈ d.ids) : id ∈ idsO c T o := by
  unfold idsO
  refine List.mem_flatMap.2 ⟨x, by simpa using hx, ?_⟩
  rw [hd]; exact hi
/-- What an operation that adds entries gives, and what it leaves alone. -/
theorem opK_heavy {o : Oper} (hh : heavyO c o = true) {K : List E → D → Option R} (h0 : opK c h o T H (fun _ H d => K H d) = some r) :
    ∃ H2 d, K H2 d = some r ∧ opK c h o T H (fun _ H d => some (H, d)) = some (H2, d) ∧ H.length ≤ H2.length ∧ ∀ id, id < H.length → id ∉ idsO c T o → H2[id]? = H[id]? := by
  have push : ∀ (e : E), H.length ≤ (H ++ [e]).length ∧ ∀ id, id < H.length → id ∉ idsO c T o → (H ++ [e])[id]? = H[id]? := fun e => ⟨by simp, fun id hid _ => List.getElem?_append_left hid⟩
  unfold heavyO at hh
  cases ho : o.op with
  | alloc e =>
    unfold opK at h0 ⊢
    simp only [ho] at h0 ⊢
    split at h0
    · rename_i i hi
      split at h0
      · rename_i ds hz
        (try simp only [hi, hz])
        exact ⟨_, _, h0, rfl, push _⟩
      · cases h0
    · cases h0
  | box e x =>
    unfold opK at h0 ⊢
    simp only [ho] at h0 ⊢
    split at h0
    · rename_i i d hi hd
      cases hb : (Nat.beq (dCells d).length i.size && Nat.ble 1 i.size) with
      | false => rw [hb] at h0; cases h0
      | true =>
        rw [hb, cond_true] at h0
        (try simp only [hi, hd, hb, cond_true])
        exact ⟨_, _, h0, rfl, push _⟩
    · cases h0
  | buildSlice t n parts =>
    unfold opK at h0 ⊢
    simp only [ho] at h0 ⊢
    split at h0
    · rename_i i hi
      split at h0
      · rename_i e hk
        split at h0
        · rename_i ie ds hie hds
          cases hb : (partsOk 0 parts.toList && Nat.beq parts.size n && Nat.ble (n * ie.size) 16777216) with
          | false => rw [hb] at h0; cases h0
          | true =>
            rw [hb, cond_true] at h0
            (try simp only at h0)
            cases hb2 : (Nat.beq ((h.row (o.dst.getD 0)).getD ie.ty).width ie.size && Nat.ble 1 ie.size) with
            | false => rw [hb2] at h0; cases h0
            | true =>
              rw [hb2, cond_true] at h0
              split at h0
              · rename_i l H3 hrows
                (try simp only [hi, hk, hie, hds, hb, hb2, cond_true, hrows])
                obtain ⟨q1, q2⟩ := rowsOf_keep _ hrows
                refine ⟨_, _, h0, rfl, by simp [q1], fun id hid hn => ?_⟩
                rw [List.getElem?_append_left (by omega)]
                refine q2 id fun r hr hh2 => hn ?_
                obtain ⟨d, hd, rfl⟩ := List.mem_map.1 hr
                have hid2 : id ∈ d.ids := by
                  cases d with
                  | agg ds2 => simpa [dCells, D.ids] using hh2
                  | no => simp [dCells, idsL] at hh2
                  | tup ds2 => simp [dCells, idsL] at hh2
                  | _ => simpa [dCells, idsL] using hh2
                obtain ⟨x, hx1, d2, hx2, hx3⟩ := opds_ids hds (mem_idsL hid2 hd)
                exact mem_idsO (by rw [ho]; simp only [Op.operands]; simpa using hx1) hx2 hx3
              · cases h0
        · cases h0
      · cases h0
    · cases h0
  | makeSlice t x y =>
    unfold opK at h0 ⊢
    simp only [ho] at h0 ⊢
    split at h0
    · rename_i i a b hi ha hb
      split at h0
      · rename_i e hk
        split at h0
        · rename_i ie hie
          (try simp only at h0)
          cases hs : decide (((h.row (o.dst.getD 0)).getD ie.ty).strip = ie.ty.strip) with
          | false => rw [hs] at h0; cases h0
          | true =>
            rw [hs, cond_true] at h0
            split at h0
            · rename_i h1
              split at h0
              · rename_i h2
                split at h0
                · rename_i h3
                  split at h0
                  · rename_i h4
                    (try simp only [hi, ha, hb, hk, hie, hs, cond_true, h1, h2, h3, h4, if_true])
                    exact ⟨_, _, h0, rfl, push _⟩
                  · cases h0
                · cases h0
              · cases h0
            · cases h0
        · cases h0
      · cases h0
    · cases h0
  | call k =>
    rw [ho] at hh
    simp only at hh
    split at hh
    · rename_i f hk
      split at hh
      · rename_i kc hkc
        unfold opK at h0 ⊢
        simp only [ho, hk] at h0 ⊢
        split at h0
        · rename_i f2 caps ds hx hd
          simp only [opd, Option.some.injEq, D.fn.injEq, Fn.func.injEq] at hx
          obtain ⟨rfl, rfl⟩ := hx
          obtain ⟨H2, d, q1, q2, q3, q4⟩ := callK_keep hkc h0
          (try simp only [opd, hd])
          refine ⟨H2, d, q1, q2, q3, fun id hid hn => q4 id hid fun hi => hn ?_⟩
          rw [List.append_nil] at hi
          obtain ⟨x, hx1, d2, hx2, hx3⟩ := opds_ids hd hi
          exact mem_idsO (by rw [ho]; simp only [Op.operands, Call.operands]; simp; exact .inr (by simpa using hx1)) hx2 hx3
        · cases h0
      · cases hh
    · cases hh
  | _ => rw [ho] at hh; cases hh
end
end Go.Eng
/- Regions whose order is left open, with operations that add entries: the walk, in whatever order. -/
namespace Go.Eng
open Go.RowKit
open Classical
set_option linter.unusedVariables false
set_option linter.unusedSimpArgs false
set_option linter.unusedSectionVars false
section
variable {P : Program} {c : Cfg} {F : Nat → Real} {h : Hint} {S0 : Nat → Prop} {base : Nat → Prop} {N : Nat} {w0 : World} {L : Nat → Nat} {β : Nat → Real} {H H2 : List E} {R : Type} {r : R} {ops : Array Oper} {md : Region.Mode} {m : Nat} {T : List (Nat × D)}
-- masks
theorem masks_get (md : Region.Mode) : ∀ (l : List Oper) (ms : List Nat), (masks md l ms).take ms.length = ms ∧ ∀ j o, l[j]? = some o → (masks md l ms)[ms.length + j]? = some (maskO md ((masks md l ms).take (ms.length + j)) o)
  | [], ms => ⟨by simp [masks], fun j o h => by simp at h⟩
  | o :: l, ms => by
    obtain ⟨q1, q2⟩ := masks_get md l (ms ++ [maskO md ms o])
    have h1 : (masks md (o :: l) ms) = masks md l (ms ++ [maskO md ms o]) := rfl
    rw [h1]
    rw [List.length_append, List.length_singleton] at q1 q2
    have h2 : (masks md l (ms ++ [maskO md ms o])).take ms.length = ms := by
      have := congrArg (List.take ms.length) q1
      rw [List.take_take, Nat.min_eq_left (by omega), List.take_append_of_le_length (Nat.le_refl _), List.take_length] at this
      exact this
    refine ⟨h2, fun j o2 hj => ?_⟩
    cases j with
    | zero =>
      simp only [List.getElem?_cons_zero, Option.some.injEq] at hj
      subst hj
      rw [Nat.add_zero, h2]
      have := congrArg (fun l : List Nat => l[ms.length]?) q1
      simp only [List.getElem?_take, List.getElem?_append] at this
      simpa using this
    | succ j =>
      have := q2 j o2 (by simpa using hj)
      rw [show ms.length + 1 + j = ms.length + (j + 1) by omega] at this
      exact this
theorem maskO_bit {ms : List Nat} {i : Nat} {o : Oper} (hb : Nat.testBit (maskO md ms o) i = true) : ∃ e ∈ o.after, Region.binds md e = true ∧ (e.on = i ∨ Nat.testBit ((ms[e.on]?).getD 0) i = true) := by
  unfold maskO at hb
  have key : ∀ l : List Edge, (∀ e ∈ l, e ∈ o.after) → Nat.testBit (l.foldr (fun e r => bif Region.binds md e then Nat.lor (Nat.lor (Nat.pow 2 e.on) ((ms[e.on]?).getD 0)) r else r) 0) i = true → ∃ e ∈ o.after, Region.binds md e = true ∧ (e.on = i ∨ Nat.testBit ((ms[e.on]?).getD 0) i = true) := by
    intro l
    induction l with
    | nil => intro _ h; simp at h
    | cons e l ih =>
      intro hl h
      simp only [List.foldr_cons] at h
      cases hb : Region.binds md e with
      | false => rw [hb, cond_false] at h; exact ih (fun x hx => hl x (by simp [hx])) h
      | true =>
        rw [hb, cond_true] at h
        have h : Nat.testBit ((2 ^ e.on ||| (ms[e.on]?).getD 0) ||| _) i = true := h
        rw [Nat.testBit_or, Nat.testBit_or, Bool.or_eq_true, Bool.or_eq_true] at h
        rcases h with (h | h) | h
        · rw [Nat.testBit_two_pow] at h
          exact ⟨e, hl e (by simp), hb, .inl (by simpa using h)⟩
        · exact ⟨e, hl e (by simp), hb, .inr h⟩
        · exact ih (fun x hx => hl x (by simp [hx])) h
  exact key o.after.toList (fun e he => by simpa using he) hb
theorem waits_edge {j i : Nat} (hw : waits (masks md ops.toList []) j i = true) : ∃ o, ops[j]? = some o ∧ ∃ e ∈ o.after, Region.binds md e = true ∧ (e.on = i ∨ (waits (masks md ops.toList []) e.on i = true ∧ e.on < j)) := by
  unfold waits at hw
  cases ho : ops[j]? with
  | none =>
    have hlen : (masks md ops.toList []).length ≤ j := by
      have : ∀ (l : List Oper) (ms : List Nat), (masks md l ms).length = ms.length + l.length := by
        intro l
        induction l with
        | nil => intro ms; simp [masks]
        | cons o l ih => intro ms; rw [masks, ih]; simp; omega
      rw [this]
      have h2 : ops.size ≤ j := by
        rcases Nat.lt_or_ge j ops.size with h3 | h3
        · rw [Array.getElem?_eq_getElem h3] at ho; cases ho
        · exact h3
      simp; omega
    rw [List.getElem?_eq_none hlen] at hw
    simp at hw
  | some o =>
    have := (masks_get md ops.toList []).2 j o (by rw [Array.getElem?_toList]; exact ho)
    simp only [List.length_nil, Nat.zero_add] at this
    rw [this] at hw
    simp only [Option.getD_some] at hw
    obtain ⟨e, he, hb, hx⟩ := maskO_bit hw
    refine ⟨o, rfl, e, he, hb, ?_⟩
    rcases hx with hx | hx
    · exact .inl hx
    · rw [List.getElem?_take] at hx
      split at hx
      · rename_i hlt
        exact .inr ⟨hx, hlt⟩
      · simp at hx
/-- What is waited for has been done. -/
theorem waits_done {listed : Array Bool} (hclos : ∀ k o, ops[k]? = some o → listed.getD k false = true → ∀ e ∈ o.after, Region.binds md e = true → listed.getD e.on false = true) : ∀ (n j i : Nat), j ≤ n → waits (masks md ops.toList []) j i = true → (∀ o, ops[j]? = some o → ∀ e ∈ o.after, Region.binds md e = true → listed.getD e.on false = true) → listed.getD i false = true := by
  intro n
  induction n with
  | zero =>
    intro j i hj hw hl
    obtain ⟨o, ho, e, he, hb, hx⟩ := waits_edge hw
    rcases hx with hx | ⟨hx, hlt⟩
    · rw [← hx]; exact hl o ho e he hb
    · omega
  | succ n ih =>
    intro j i hj hw hl
    obtain ⟨o, ho, e, he, hb, hx⟩ := waits_edge hw
    rcases hx with hx | ⟨hx, hlt⟩
    · rw [← hx]; exact hl o ho e he hb
    · exact ih e.on i (by omega) hx (fun o2 ho2 e2 he2 hb2 => hclos e.on o2 ho2 (hl o ho e he hb) e2 he2 hb2)
theorem waits_lt (hback : ∀ (j : Nat) (b : Oper), ops[j]? = some b → ∀ e ∈ b.after, Region.binds md e = true → e.on < j) : ∀ (n j i : Nat), j ≤ n → waits (masks md ops.toList []) j i = true → i < j := by
  intro n
  induction n with
  | zero =>
    intro j i hj hw
    obtain ⟨o, ho, e, he, hb, hx⟩ := waits_edge hw
    have := hback j o ho e he hb
    omega
  | succ n ih =>
    intro j i hj hw
    obtain ⟨o, ho, e, he, hb, hx⟩ := waits_edge hw
    have h1 := hback j o ho e he hb
    rcases hx with hx | ⟨hx, hlt⟩
    · omega
    · have := ih e.on i (by omega) hx; omega
/-- What the evaluation of a head says of each operation. -/
structure HF (c : Cfg) (h : Hint) (l : List Oper) (f : Nat → Option D) (H : List E) (ds : List D) (Hs : Nat → List E) (Ts : Nat → List (Nat × D)) (g : List (Nat × Bool × List Nat)) (i0 : Nat) : Prop where
  len : ds.length = l.length
  h0 : Hs 0 = H
  lk : ∀ j, j ≤ l.length → ∀ t, look (Ts j) t = lkAt l ds f j t
  gd : ∀ (j : Nat) (o : Oper), l[j]? = some o → o.guard = none
  bound : ∀ (j : Nat) (o : Oper), l[j]? = some o → ∀ id ∈ idsO c (Ts j) o, id < (Hs j).length
  log : ∀ (j : Nat) (o : Oper), l[j]? = some o → (i0 + j, !quietO c o, idsO c (Ts j) o) ∈ g
  q : ∀ (j : Nat) (o : Oper) (d : D), l[j]? = some o → ds[j]? = some d → quietO c o = true → Hs (j + 1) = Hs j ∧ opQ c o (Ts j) (Hs j) some = some d
  g : ∀ (j : Nat) (o : Oper) (d : D), l[j]? = some o → ds[j]? = some d → quietO c o = false → opK c h o (Ts j) (Hs j) (fun _ H d => some (H, d)) = some (Hs (j + 1), d) ∧ (Hs j).length ≤ (Hs (j + 1)).length ∧ heavyO c o = true ∧ ∀ id, id < (Hs j).length → id ∉ idsO c (Ts j) o → (Hs (j + 1))[id]? = (Hs j)[id]?
theorem headK_sound {Kf : List (Nat × D) → List E → List (Nat × Bool × List Nat) → Option R} : ∀ (l : List Oper) (i0 : Nat) {T : List (Nat × D)} {H : List E} {g : List (Nat × Bool × List Nat)}, headK c h l i0 T H g Kf = some r →
    ∃ ds Hs Ts g2, HF c h l (look T) H ds Hs Ts g2 i0 ∧ Kf (Ts l.length) (Hs l.length) g2 = some r ∧ ∀ x ∈ g, x ∈ g2
  | [], i0, T, H, g, h0 => ⟨[], fun _ => H, fun _ => T, g, ⟨rfl, rfl, fun j _ t => by cases j with | zero => rfl | succ j => rename_i hj; simp at hj, fun j o h => by simp at h, fun j o h => by simp at h, fun j o h => by simp at h, fun j o d h => by simp at h, fun j o d h => by simp at h⟩, h0, fun x hx => hx⟩
  | o :: l, i0, T, H, g, h0 => by
    rw [headK] at h0
    split at h0
    · cases h0
    · rename_i hgd
      cases hb : ((idsO c T o).all fun id => Nat.blt id H.length) with
      | false => rw [hb] at h0; cases h0
      | true =>
        rw [hb, cond_true] at h0
        have hbd : ∀ id ∈ idsO c T o, id < H.length := fun id hid => by
          have := List.all_eq_true.1 hb id hid
          exact Nat.le_of_ble_eq_true this
        -- the rest, and the first ahead of it
        have cons : ∀ {d : D} {H2 : List E} {fl : Bool}, fl = !quietO c o → headK c h l (i0 + 1) (putT T o.dst d) H2 ((i0, fl, idsO c T o) :: g) Kf = some r → (quietO c o = true → H2 = H ∧ opQ c o T H some = some d) →
            (quietO c o = false → opK c h o T H (fun _ H d => some (H, d)) = some (H2, d) ∧ H.length ≤ H2.length ∧ heavyO c o = true ∧ ∀ id, id < H.length → id ∉ idsO c T o → H2[id]? = H[id]?) →
            ∃ ds Hs Ts g2, HF c h (o :: l) (look T) H ds Hs Ts g2 i0 ∧ Kf (Ts (o :: l).length) (Hs (o :: l).length) g2 = some r ∧ ∀ x ∈ g, x ∈ g2 := by
          intro d H2 fl hfl hk hq hg
          obtain ⟨ds, Hs, Ts, g2, hf, h1, h2⟩ := headK_sound l (i0 + 1) hk
          have hlook : look (putT T o.dst d) = fun t => if o.dst = some t then some d else look T t := by
            funext t
            cases ho : o.dst with
            | none => simp only [putT]; simp
            | some t2 =>
              simp only [putT]
              rw [look_put]
              by_cases e : t2 = t
              · rw [if_pos e, if_pos (by rw [e])]
              · rw [if_neg e, if_neg (by simpa using e)]
          refine ⟨d :: ds, fun j => match j with | 0 => H | j + 1 => Hs j, fun j => match j with | 0 => T | j + 1 => Ts j, g2, ⟨by simp [hf.len], rfl, fun j hj t => ?_, fun j o2 ho2 => ?_, fun j o2 ho2 => ?_, fun j o2 ho2 => ?_, fun j o2 d2 ho2 hd2 => ?_, fun j o2 d2 ho2 hd2 => ?_⟩, h1, fun x hx => h2 x (by simp [hx])⟩
          · cases j with
            | zero => rfl
            | succ j =>
              rw [lkAt_cons, ← hlook]
              exact hf.lk j (by simpa using hj) t
          · cases j with
            | zero => simp at ho2; subst ho2; exact hgd
            | succ j => exact hf.gd j o2 (by simpa using ho2)
          · cases j with
            | zero => simp at ho2; subst ho2; exact hbd
            | succ j => exact hf.bound j o2 (by simpa using ho2)
          · cases j with
            | zero => simp at ho2; subst ho2; rw [← hfl]; exact h2 _ (by simp)
            | succ j =>
              have := hf.log j o2 (by simpa using ho2)
              rw [show i0 + 1 + j = i0 + (j + 1) by omega] at this
              exact this
          · cases j with
            | zero => simp at ho2 hd2; subst ho2; subst hd2; intro hqq; obtain ⟨e1, e2⟩ := hq hqq; exact ⟨hf.h0.trans e1, e2⟩
            | succ j => exact hf.q j o2 d2 (by simpa using ho2) (by simpa using hd2)
          · cases j with
            | zero =>
              simp at ho2 hd2; subst ho2; subst hd2
              intro hqq
              obtain ⟨e1, e2, e3, e4⟩ := hg hqq
              have e0 : Hs 0 = H2 := hf.h0
              show opK c h o T H _ = some (Hs 0, d) ∧ H.length ≤ (Hs 0).length ∧ heavyO c o = true ∧ ∀ id, id < H.length → id ∉ idsO c T o → (Hs 0)[id]? = H[id]?
              rw [e0]
              exact ⟨e1, e2, e3, e4⟩
            | succ j => exact hf.g j o2 d2 (by simpa using ho2) (by simpa using hd2)
        cases hqo : quietO c o with
        | true =>
          rw [hqo, cond_true] at h0
          rw [opQ_bind, Option.bind_eq_some_iff] at h0
          obtain ⟨d, h1, h2⟩ := h0
          exact cons (by rw [hqo]; rfl) h2 (fun _ => ⟨rfl, h1⟩) (fun e => by rw [hqo] at e; cases e)
        | false =>
          rw [hqo, cond_false] at h0
          cases hh : heavyO c o with
          | false => rw [hh] at h0; cases h0
          | true =>
            rw [hh, cond_true] at h0
            obtain ⟨H2, d, h1, h2, h3, h4⟩ := opK_heavy hh h0
            exact cons (by rw [hqo]; rfl) h1 (fun e => by rw [hqo] at e; cases e) (fun _ => ⟨h2, h3, hh, h4⟩)
/-- An operation that adds entries looks at its operands alone; how many entries are fixed is nothing to it. -/
theorem opK_heavy_view {o : Oper} (hh : heavyO c o = true) {T T2 : List (Nat × D)} (hv : ∀ x ∈ o.op.operands, opd c T x = opd c T2 x) (n : Nat) {K : List E → D → Option R} : opK c h o T H (fun _ H d => K H d) = opK { c with nfix := n } h o T2 H (fun _ H d => K H d) := by
  have hopd : ∀ (T : List (Nat × D)) (x : Operand), opd { c with nfix := n } T x = opd c T x := fun T x => by
    cases x with
    | const v => cases v <;> rfl
    | _ => rfl
  have hopds : ∀ (T : List (Nat × D)) (xs : List Operand), opds { c with nfix := n } T xs = opds c T xs := fun T xs => by
    induction xs with
    | nil => rfl
    | cons x xs ih => simp only [opds, hopd, ih]
  unfold heavyO at hh
  unfold opK
  cases ho : o.op with
  | alloc e => rfl
  | box e x =>
    simp only
    rw [hopd, hv x (by rw [ho]; simp [Op.operands])]
    try rfl
  | buildSlice t k parts =>
    simp only
    rw [hopds, opds_congr (T := T) (T2 := T2) (fun x hx => hv x (by rw [ho]; simp only [Op.operands]; simpa using hx))]
    try rfl
  | makeSlice t x y =>
    simp only
    rw [hopd, hopd, hv x (by rw [ho]; simp [Op.operands]), hv y (by rw [ho]; simp [Op.operands])]
    try rfl
  | call k =>
    rw [ho] at hh
    simp only at hh
    split at hh
    · rename_i f hk
      simp only [hk]
      rw [hopds, opds_congr (T := T) (T2 := T2) (fun x hx => hv x (by rw [ho]; simp only [Op.operands, Call.operands]; simp; exact .inr (by simpa using hx)))]
      try rfl
    · cases hh
  | _ => rw [ho] at hh; cases hh
end
end Go.Eng
/- Regions whose order is left open, with operations that add entries: any order gives what the order of the text gives. -/
namespace Go.Eng
open Go.RowKit
open Classical
set_option linter.unusedVariables false
set_option linter.unusedSimpArgs false
set_option linter.unusedSectionVars false
section
variable {P : Program} {c : Cfg} {F : Nat → Real} {h : Hint} {S0 : Nat → Prop} {base : Nat → Prop} {N : Nat} {w0 : World} {L : Nat → Nat} {β : Nat → Real} {H H2 : List E} {R : Type} {r : R} {ops : Array Oper} {md : Region.Mode} {m : Nat} {T : List (Nat × D)}
/-- What holds while such a head is being done: the entries are those behind its operations before p, in the order of the text. -/
structure Iv2 (c : Cfg) (F : Nat → Real) (S0 : Nat → Prop) (base : Nat → Prop) (N : Nat) (w0 : World) (md : Region.Mode) (ops : Array Oper) (m : Nat) (T : List (Nat × D)) (ds : List D) (Hs : Nat → List E) (L : Nat → Nat) (β : Nat → Real) (p : Nat) (listed : Array Bool) (a : Act) (w : World) : Prop where
  bs : Bs c S0 base N w0 L β (Hs p) a w
  sz : listed.size = ops.size
  only : ∀ j, m ≤ j → listed.getD j false = false
  clos : ∀ k o, ops[k]? = some o → listed.getD k false = true → ∀ e ∈ o.after, Region.binds md e = true → listed.getD e.on false = true
  done : ∀ k o d t, k < m → ops[k]? = some o → ds[k]? = some d → listed.getD k false = true → o.dst = some t → ∃ v, a.tmps[t]? = some v ∧ RD w (stab S0 base w L) β v d
  rest : ∀ t d, look T t = some d → (∀ k o, k < m → ops[k]? = some o → listed.getD k false = true → o.dst ≠ some t) → ∃ v, a.tmps[t]? = some v ∧ RD w (stab S0 base w L) β v d
  hp : p ≤ m
  hv : ∀ k o, k < m → ops[k]? = some o → quietO c o = false → (listed.getD k false = true ↔ k < p)
  fix : ∀ id, id < c.nfix → β id = F id
theorem RD_ids {w : World} {S : Nat → Prop} {β : Nat → Real} {v : Value} {d : D} (h : RD w S β v d) : ∀ id ∈ d.ids, β id ≠ .non := by
  induction h with
  | val h => intro id hid; cases hid
  | imm h => intro id hid; cases hid
  | no => intro id hid; cases hid
  | ow h => intro id hid; simp only [D.ids, List.mem_singleton] at hid; rw [hid, h]; simp
  | os h hX h1 h2 => intro id hid; simp only [D.ids, List.mem_singleton] at hid; rw [hid, h]; simp
  | bp h => intro id hid; simp only [D.ids, List.mem_singleton] at hid; rw [hid, h]; simp
  | ap h => intro id hid; simp only [D.ids, List.mem_singleton] at hid; rw [hid, h]; simp
  | fp xs hs hx hr ih =>
    intro id hid
    simp only [D.ids] at hid
    obtain ⟨d, h1, h2⟩ := idsL_mem hid
    obtain ⟨i, hi⟩ := List.getElem?_of_mem h1
    exact ih i d hi id h2
  | fn hl hr ih =>
    intro id hid
    simp only [D.ids] at hid
    obtain ⟨d, h1, h2⟩ := idsL_mem hid
    obtain ⟨i, hi⟩ := List.getElem?_of_mem h1
    have hlt := (List.getElem?_eq_some_iff.1 hi).1
    exact ih i _ d (Array.getElem?_eq_getElem (by rw [hl]; exact hlt)) hi id h2
  | ifc h ih => intro id hid; exact ih id (by simpa only [D.ids] using hid)
  | agg hl ho hr ih =>
    intro id hid
    simp only [D.ids] at hid
    obtain ⟨d, h1, h2⟩ := idsL_mem hid
    obtain ⟨i, hi⟩ := List.getElem?_of_mem h1
    have hlt := (List.getElem?_eq_some_iff.1 hi).1
    exact ih i _ d (Array.getElem?_eq_getElem (by rw [hl]; exact hlt)) hi id h2
  | tup hl hr ih =>
    intro id hid
    simp only [D.ids] at hid
    obtain ⟨d, h1, h2⟩ := idsL_mem hid
    obtain ⟨i, hi⟩ := List.getElem?_of_mem h1
    have hlt := (List.getElem?_eq_some_iff.1 hi).1
    exact ih i _ d (Array.getElem?_eq_getElem (by rw [hl]; exact hlt)) hi id h2
theorem Hs_eq {Hs : Nat → List E} : ∀ (n i j : Nat), j ≤ i + n → i ≤ j → (∀ k, i ≤ k → k < j → Hs (k + 1) = Hs k) → Hs j = Hs i
  | 0, i, j, h1, h2, h3 => by rw [show j = i by omega]
  | n + 1, i, j, h1, h2, h3 => by
    by_cases e : j = i
    · rw [e]
    · have := Hs_eq n i (j - 1) (by omega) (by omega) (fun k h4 h5 => h3 k h4 (by omega))
      rw [← this]
      have := h3 (j - 1) (by omega) (by omega)
      rw [show j - 1 + 1 = j by omega] at this
      exact this
/-- An entry that none of the operations between names. -/
theorem Hs_at {Hs : Nat → List E} {id : Nat} : ∀ (n i j : Nat), j ≤ i + n → i ≤ j → id < (Hs i).length → (∀ k, i ≤ k → k < j → (Hs k).length ≤ (Hs (k + 1)).length ∧ (id < (Hs k).length → (Hs (k + 1))[id]? = (Hs k)[id]?)) → (Hs j)[id]? = (Hs i)[id]? ∧ id < (Hs j).length
  | 0, i, j, h1, h2, h3, h4 => by rw [show j = i by omega]; exact ⟨rfl, h3⟩
  | n + 1, i, j, h1, h2, h3, h4 => by
    by_cases e : j = i
    · rw [e]; exact ⟨rfl, h3⟩
    · obtain ⟨q1, q2⟩ := Hs_at n i (j - 1) (by omega) (by omega) h3 (fun k h5 h6 => h4 k h5 (by omega))
      obtain ⟨q3, q4⟩ := h4 (j - 1) (by omega) (by omega)
      rw [show j - 1 + 1 = j by omega] at q3 q4
      exact ⟨(q4 q2).trans q1, Nat.lt_of_lt_of_le q2 q3⟩
theorem drawnSound2 (hc : CfgOk P c) {id : Nat} {a : Act} {w : World} {Q : Exit → Act → World → Prop} {K : List (Nat × D) → List E → Option R} (hs : SR c F S0 base N w0 w L β H a T) (hd : ∀ o ∈ ops.toList, dstOk N o = true)
    (hm : headN c ops.toList = m) (hhead : headOk .any ops m = true) (htail : tail2 .any ops m (masks .any ops.toList []) = true) (hseq : Region.seqB .any ops (ops.size - m) m (Array.replicate m true ++ Array.replicate (ops.size - m) false) = true)
    (hk : headK c h (ops.toList.take m) 0 T H [] (fun T H g => bif okLog (masks .any ops.toList []) g then opsK c h ops (ops.toList.drop m) T H K else none) = some r)
    (hQ : ∀ w' L' β' H' a' T', SR c F S0 base N w0 w' L' β' H' a' T' → K T' H' = some r → Q .normal a' w') : (Code.region id ops true).wp P Q a w := by
  have hmle : m ≤ ops.size := by
    rw [← hm, ← Array.length_toList]
    have : ∀ l : List Oper, headN c l ≤ l.length := fun l => by
      induction l with
      | nil => exact Nat.le_refl _
      | cons o l ih =>
        simp only [headN]
        split
        · cases quietO c o || heavyO c o with
          | true => simp only [cond_true, List.length_cons]; omega
          | false => simp
        · exact Nat.zero_le _
    exact this _
  obtain ⟨ds, Hs, Ts, g, hf, hfin, _⟩ := headK_sound (ops.toList.take m) 0 hk
  have htl : (ops.toList.take m).length = m := by simp; omega
  rw [htl] at hfin
  cases hlog : okLog (masks .any ops.toList []) g with
  | false => rw [hlog] at hfin; cases hfin
  | true =>
  rw [hlog, cond_true] at hfin
  have hdl : ds.length = (ops.toList.take m).length := hf.len
  have hget : ∀ j, j < m → (ops.toList.take m)[j]? = ops[j]? := fun j hj => by
    rw [List.getElem?_take, if_pos hj, Array.getElem?_toList]
  have hback : ∀ (j : Nat) (b : Oper), ops[j]? = some b → ∀ e ∈ b.after, Region.binds .any e = true → e.on < j := fun j b hb e he hbi => by
    have hj : j < ops.size := (Array.getElem?_eq_some_iff.1 hb).1
    have := List.all_eq_true.1 htail j (List.mem_range.2 hj)
    rw [hb] at this
    simp only [Bool.and_eq_true, backOnly] at this
    have := Array.all_eq_true'.1 this.1 e he
    rw [hbi] at this
    exact of_decide_eq_true this
  have hsink : ∀ (j : Nat) (b : Oper), m ≤ j → ops[j]? = some b → ∀ i, i < j → waits (masks .any ops.toList []) j i = true := fun j b hmj hb i hij => by
    have hj : j < ops.size := (Array.getElem?_eq_some_iff.1 hb).1
    have := List.all_eq_true.1 htail j (List.mem_range.2 hj)
    rw [hb] at this
    simp only [Bool.and_eq_true, Bool.or_eq_true] at this
    rcases this.2 with h | h
    · have := Nat.le_of_ble_eq_true h
      omega
    · exact List.all_eq_true.1 h i (List.mem_range.2 hij)
  have hpair : ∀ (i j : Nat) (a b : Oper), i < m → j < m → i ≠ j → ops[i]? = some a → ops[j]? = some b → ∀ d, a.dst = some d → (d ∈ b.looksAt ops → (∃ e ∈ b.after, Region.binds .any e = true ∧ e.on = i) ∨ (∃ e ∈ a.after, Region.binds .any e = true ∧ e.on = j)) ∧ b.dst ≠ some d := fun i j a b hi hj hij ha hb d hd => by
    have h1 := List.all_eq_true.1 hhead i (List.mem_range.2 hi)
    have h1 := List.all_eq_true.1 h1 j (List.mem_range.2 hj)
    rw [Bool.or_eq_true] at h1
    rcases h1 with h1 | h1
    · exact absurd (Nat.eq_of_beq_eq_true h1) hij
    · rw [ha, hb] at h1
      simp only [pairOk, hd, Bool.and_eq_true, Bool.or_eq_true, Bool.not_eq_true', bne_iff_ne, ne_eq] at h1
      refine ⟨fun hl => ?_, h1.2⟩
      have ex : ∀ (o : Oper) (q : Nat), onlyAfter .any o q = true → ∃ e ∈ o.after, Region.binds .any e = true ∧ e.on = q := fun o q h => by
        simp only [onlyAfter] at h
        obtain ⟨e, he, h2⟩ := Array.any_eq_true'.1 h
        simp only [Bool.and_eq_true] at h2
        exact ⟨e, he, h2.1, Nat.eq_of_beq_eq_true h2.2⟩
      rcases h1.1 with (h2 | h2) | h2
      · rw [List.contains_iff_mem.2 hl] at h2; cases h2
      · exact .inl (ex b i h2)
      · exact .inr (ex a j h2)
  -- what the log says
  have hfree : ∀ (k q : Nat) (o o2 : Oper), k < m → q < m → ops[k]? = some o → ops[q]? = some o2 → quietO c o = true → quietO c o2 = false → waits (masks .any ops.toList []) k q = false → waits (masks .any ops.toList []) q k = false → ∀ id ∈ idsO c (Ts k) o, id ∉ idsO c (Ts q) o2 := fun k q o o2 hk hq ho ho2 h1 h2 h3 h4 id hi hi2 => by
    have e1 := hf.log k o (by rw [hget k hk]; exact ho)
    have e2 := hf.log q o2 (by rw [hget q hq]; exact ho2)
    rw [Nat.zero_add, h1] at e1
    rw [Nat.zero_add, h2] at e2
    have := List.all_eq_true.1 (List.all_eq_true.1 hlog _ e1) _ e2
    simp only [Bool.and_eq_true, Bool.or_eq_true, Bool.not_true, Bool.not_false, h3, h4, Bool.false_eq_true, false_or, List.all_eq_true] at this
    have := this.1 id hi
    rw [List.contains_iff_mem.2 hi2] at this
    cases this
  have hchain : ∀ (k q : Nat) (o o2 : Oper), k < q → q < m → ops[k]? = some o → ops[q]? = some o2 → quietO c o = false → quietO c o2 = false → waits (masks .any ops.toList []) q k = true := fun k q o o2 hkq hq ho ho2 h1 h2 => by
    have e1 := hf.log k o (by rw [hget k (by omega)]; exact ho)
    have e2 := hf.log q o2 (by rw [hget q hq]; exact ho2)
    rw [Nat.zero_add, h1] at e1
    rw [Nat.zero_add, h2] at e2
    have := List.all_eq_true.1 (List.all_eq_true.1 hlog _ e1) _ e2
    have hlt : Nat.blt k q = true := by simpa [Nat.blt_eq] using hkq
    simp only [Bool.and_eq_true, Bool.or_eq_true, Bool.not_false, Bool.not_true, hlt, Bool.true_and, Bool.not_eq_true', Bool.false_eq_true, false_or] at this
    simpa using this.2
  have hstep : ∀ (k : Nat) (o : Oper), k < m → ops[k]? = some o → (Hs k).length ≤ (Hs (k + 1)).length ∧ ∀ id, id < (Hs k).length → (quietO c o = false → id ∉ idsO c (Ts k) o) → (Hs (k + 1))[id]? = (Hs k)[id]? := fun k o hk ho => by
    have hkd : k < ds.length := by rw [hdl, htl]; exact hk
    cases hq : quietO c o with
    | true =>
      obtain ⟨e1, _⟩ := hf.q k o ds[k] (by rw [hget k hk]; exact ho) (List.getElem?_eq_getElem hkd) hq
      rw [e1]; exact ⟨Nat.le_refl _, fun _ _ _ => rfl⟩
    | false =>
      obtain ⟨_, e2, _, e4⟩ := hf.g k o ds[k] (by rw [hget k hk]; exact ho) (List.getElem?_eq_getElem hkd) hq
      exact ⟨e2, fun id hid hn => e4 id hid (hn rfl)⟩
  -- the walk, in whatever order
  have walk : ∀ (u : Nat) (listed : Array Bool) (a : Act) (w : World) (L : Nat → Nat) (β : Nat → Real) (p : Nat), Iv2 c F S0 base N w0 .any ops m T ds Hs L β p listed a w → (List.range m).countP (fun i => !(listed.getD i true)) = u → wpAny P .any ops Q (u + (ops.size - m)) listed a w := by
    intro u
    induction u with
    | zero =>
      intro listed a w L β p iv hu
      have hall : ∀ i, i < m → listed.getD i false = true := fun i hi => by
        have := List.countP_eq_zero.1 hu i (List.mem_range.2 hi)
        rw [getD_tf (by rw [iv.sz]; omega) false true]
        simpa using this
      have hlist : listed = Array.replicate m true ++ Array.replicate (ops.size - m) false := by
        apply Array.ext
        · rw [iv.sz]; simp; omega
        · intro i h1 h2
          have hgd : listed.getD i false = listed[i] := by rw [Array.getD_eq_getD_getElem?, Array.getElem?_eq_getElem h1]; rfl
          rw [← hgd]
          rcases Nat.lt_or_ge i m with hi | hi
          · rw [hall i hi, Array.getElem_append_left (by simpa using hi)]
            simp
          · rw [iv.only i hi, Array.getElem_append_right (by simpa using hi)]
            simp
      have hHs : Hs m = Hs p := Hs_eq m p m (by omega) iv.hp fun k h1 h2 => by
        have hks : k < ops.size := by omega
        cases hq : quietO c ops[k] with
        | true => exact (hf.q k ops[k] (ds[k]'(by rw [hdl, htl]; exact h2)) (by rw [hget k h2]; exact Array.getElem?_eq_getElem hks) (List.getElem?_eq_getElem _) hq).1
        | false =>
          have := (iv.hv k ops[k] h2 (Array.getElem?_eq_getElem hks) hq).1 (hall k h2)
          omega
      have hsr : SR c F S0 base N w0 w L β (Hs m) a (Ts m) := by
        rw [hHs]
        refine ⟨iv.bs.rel, fun t d ht => ?_, iv.bs.gl, iv.bs.size, iv.bs.defers, iv.bs.low, iv.fix, hs.fne⟩
        rw [hf.lk m (by rw [htl]; exact Nat.le_refl _) t] at ht
        rcases lkAt_cases hdl m (by omega) ht with ⟨j, o, h1, h2, h3, h4⟩ | ⟨h1, h2⟩
        · exact iv.done j o d t h1 (by rw [← hget j h1]; exact h2) h3 (hall j h1) h4
        · exact iv.rest t d h1 fun k o hk ho _ => h2 k o hk (by rw [hget k hk]; exact ho)
      have hlen : (ops.toList.drop m).length = ops.size - m := by simp
      rw [Nat.zero_add, ← hlen]
      refine wpAny_of_seq (ops.toList.drop m) m listed a w (fun j => by rw [List.getElem?_drop, Array.getElem?_toList]) (by rw [hlen, hlist]; exact hseq) ?_
      exact opsK_sound hc (ops.toList.drop m) hsr (fun o ho => hd o (List.mem_of_mem_drop ho)) hfin hQ
    | succ u ih =>
      intro listed a w L β p iv hu
      have hex : ∃ i, i < m ∧ listed.getD i true = false := by
        rcases Classical.em (∃ i, i < m ∧ listed.getD i true = false) with h | h
        · exact h
        · exfalso
          have : (List.range m).countP (fun i => !(listed.getD i true)) = 0 := by
            rw [List.countP_eq_zero]
            intro i hi
            rw [List.mem_range] at hi
            have h1 : listed.getD i true ≠ false := fun e => h ⟨i, hi, e⟩
            have h1 : listed.getD i true = true := by simpa using h1
            simp [h1]
          omega
      have hready : ∀ i, i ∈ Region.ready .any ops listed → i < m := fun i hi => by
        rcases Nat.lt_or_ge i m with h | h
        · exact h
        · exfalso
          obtain ⟨k, hk, hk2⟩ := hex
          obtain ⟨_, o, ho, hall⟩ := mem_ready.1 hi
          have := waits_done iv.clos i i k (Nat.le_refl _) (hsink i o h ho k (by omega)) (fun o2 ho2 e he he2 => by rw [ho] at ho2; cases ho2; exact hall e he he2)
          rw [getD_tf (by rw [iv.sz]; omega) false true, hk2] at this
          cases this
      -- the first that is not done is ready
      have hne : Region.ready .any ops listed ≠ [] := by
        obtain ⟨i, hi, hi2⟩ := hex
        have key : ∀ n i, i ≤ n → i < m → listed.getD i true = false → ∃ j, j ∈ Region.ready .any ops listed := by
          intro n
          induction n with
          | zero =>
            intro i hi0 him hun
            have hi0 : i = 0 := by omega
            subst hi0
            have hlt : 0 < ops.size := by omega
            refine ⟨0, mem_ready.2 ⟨hun, ops[0], Array.getElem?_eq_getElem hlt, fun e he _ => ?_⟩⟩
            have := hback 0 _ (Array.getElem?_eq_getElem hlt) e he (by assumption)
            omega
          | succ n ihn =>
            intro i hin him hun
            have hlt : i < ops.size := by omega
            by_cases hr : ∀ e ∈ (ops[i]).after, Region.binds .any e = true → listed.getD e.on false = true
            · exact ⟨i, mem_ready.2 ⟨hun, ops[i], Array.getElem?_eq_getElem hlt, hr⟩⟩
            · obtain ⟨e, he⟩ := Classical.not_forall.1 hr
              obtain ⟨he1, he2⟩ := Classical.not_imp.1 he
              obtain ⟨he3, he4⟩ := Classical.not_imp.1 he2
              have hlt2 := hback i _ (Array.getElem?_eq_getElem hlt) e he1 he3
              refine ihn e.on (by omega) (by omega) ?_
              rw [getD_tf (by rw [iv.sz]; omega) true false]
              simpa using he4
        obtain ⟨j, hj⟩ := key i i (Nat.le_refl _) hi hi2
        exact fun e => by rw [e] at hj; cases hj
      rw [show u + 1 + (ops.size - m) = (u + (ops.size - m)) + 1 by omega]
      refine ⟨fun h => absurd h hne, fun i hi => ?_⟩
      have him := hready i hi
      obtain ⟨hun, o, ho, hedges⟩ := mem_ready.1 hi
      have hilt : i < ops.size := by omega
      have hil : i < listed.size := by rw [iv.sz]; exact hilt
      have hids : i < ds.length := by rw [hdl, htl]; exact him
      have hun2 : listed.getD i false = false := by rw [getD_tf hil false true]; exact hun
      have hwd : ∀ k, waits (masks .any ops.toList []) i k = true → listed.getD k false = true := fun k hk => waits_done iv.clos i i k (Nat.le_refl _) hk (fun o2 ho2 e he he2 => by rw [ho] at ho2; cases ho2; exact hedges e he he2)
      have hnw : ∀ k, listed.getD k false = true → waits (masks .any ops.toList []) k i = false := fun k hk => by
        cases hw : waits (masks .any ops.toList []) k i with
        | false => rfl
        | true =>
          have := waits_done iv.clos k k i (Nat.le_refl _) hw (fun o2 ho2 e he he2 => iv.clos k o2 ho2 hk e he he2)
          rw [hun2] at this; cases this
      have hview : ∀ t ∈ o.looksAt ops, ∀ d', look (Ts i) t = some d' → ∃ v, a.tmps[t]? = some v ∧ RD w (stab S0 base w L) β v d' := fun t ht d' hl => by
        rw [hf.lk i (by rw [htl]; omega) t] at hl
        rcases lkAt_cases hdl i (by omega) hl with ⟨j, oj, h1, h2, h3, h4⟩ | ⟨h1, h2⟩
        · rw [hget j (by omega)] at h2
          have hp := (hpair j i oj o (by omega) him (by omega) h2 ho t h4).1 ht
          refine iv.done j oj d' t (by omega) h2 h3 ?_ h4
          rcases hp with ⟨e, he, he2, he3⟩ | ⟨e, he, he2, he3⟩
          · rw [← he3]; exact hedges e he he2
          · have := hback j oj h2 e he he2
            omega
        · refine iv.rest t d' h1 fun k ok hk hok hlk hdk => ?_
          have hki : k ≠ i := fun e => by rw [e, hun2] at hlk; cases hlk
          rcases Nat.lt_or_ge k i with hki2 | hki2
          · exact h2 k ok hki2 (by rw [hget k hk]; exact hok) hdk
          · have hp := (hpair k i ok o hk him hki hok ho t hdk).1 ht
            rcases hp with ⟨e, he, he2, he3⟩ | ⟨e, he, he2, he3⟩
            · have := hback i o ho e he he2
              omega
            · have := iv.clos k ok hok hlk e he he2
              rw [he3, hun2] at this
              cases this
      have hT : RTm w (stab S0 base w L) β a.tmps (viewT (Ts i) (o.looksAt ops)) := fun t d' ht => by
        have hm2 := look_view_mem ht
        rw [look_view hm2] at ht
        exact hview t hm2 d' ht
      have hgd : Region.wanted o (yielded ops a.tmps) = true := by simp [Region.wanted, hf.gd i o (by rw [hget i him]; exact ho)]
      have hopv : ∀ x ∈ o.op.operands, opd c (Ts i) x = opd c (viewT (Ts i) (o.looksAt ops)) x := fun x hx => (opd_view fun t e => looks_operand (by rw [← e]; exact hx)).symm
      -- what follows the operation
      have next : ∀ (w' : World) (v : Value) (L' : Nat → Nat) (β' : Nat → Real) (p' : Nat), Rel S0 base w' L' β' (Hs p') → (∀ k, stab S0 base w L k → stab S0 base w' L' k ∧ w'.heap[k]? = w.heap[k]?) → Bel base w w' → (∀ id, β id ≠ .non → β' id = β id) → RD w' (stab S0 base w' L') β' v ds[i] → p' ≤ m → (∀ k o2, k < m → ops[k]? = some o2 → quietO c o2 = false → ((k = i ∨ k < p) ↔ k < p')) →
          wpAny P .any ops Q (u + (ops.size - m)) (listed.setIfInBounds i true) (a.put o.dst v) w' := fun w' v L' β' p' hrel hst hbl hβ hrd hp' hpv => by
        refine ih _ _ _ L' β' p' ⟨⟨hrel, iv.bs.gl.st hst, by rw [put_size]; exact iv.bs.size, by rw [put_defers]; exact iv.bs.defers, iv.bs.low.trans hbl⟩, by simpa using iv.sz, fun j hj => ?_, fun k ok hok hlk e he he2 => ?_, fun k ok d t hk hok hdk hlk hdt => ?_, fun t d ht hno => ?_, hp', fun k ok hk hok hq => ?_, fun id hid => (hβ id (by rw [iv.fix id hid]; exact hs.fne id hid)).trans (iv.fix id hid)⟩ ?_
        · rw [getD_set_ne false (by omega)]; exact iv.only j hj
        · by_cases hki : k = i
          · subst hki
            rw [ho] at hok
            cases hok
            have := hedges e he he2
            by_cases hei : k = e.on
            · rw [← hei, getD_set_self hil]
            · rw [getD_set_ne false hei]; exact this
          · rw [getD_set_ne false (fun e => hki e.symm)] at hlk
            have := iv.clos k ok hok hlk e he he2
            by_cases hei : i = e.on
            · rw [← hei, getD_set_self hil]
            · rw [getD_set_ne false hei]; exact this
        · by_cases hki : k = i
          · subst hki
            rw [ho] at hok
            cases hok
            rw [List.getElem?_eq_getElem hids] at hdk
            cases hdk
            refine ⟨v, ?_, hrd⟩
            have htN : t < a.tmps.size := by
              rw [iv.bs.size]
              have := hd o (List.mem_of_getElem? (by rw [Array.getElem?_toList]; exact ho))
              unfold dstOk at this
              rw [hdt] at this
              exact of_decide_eq_true this
            rw [hdt]
            simp [Act.put, htN]
          · rw [getD_set_ne false (fun e => hki e.symm)] at hlk
            obtain ⟨v2, e1, e2⟩ := iv.done k ok d t hk hok hdk hlk hdt
            refine ⟨v2, ?_, RD_grow e2 hst hβ⟩
            cases hod : o.dst with
            | none => exact e1
            | some t2 =>
              have hne2 := (hpair i k o ok him hk (fun e => hki e.symm) ho hok t2 hod).2
              have : t2 ≠ t := fun e => hne2 (by rw [e]; exact hdt)
              simp only [Act.put]
              rw [Array.getElem?_setIfInBounds_ne this]
              exact e1
        · obtain ⟨v2, e1, e2⟩ := iv.rest t d ht fun k ok hk hok hlk => hno k ok hk hok (by
            by_cases hki : i = k
            · rw [← hki, getD_set_self hil]
            · rw [getD_set_ne false hki]; exact hlk)
          refine ⟨v2, ?_, RD_grow e2 hst hβ⟩
          have hne2 := hno i o him ho (getD_set_self hil false)
          cases hod : o.dst with
          | none => exact e1
          | some t2 =>
            have : t2 ≠ t := fun e => hne2 (by rw [hod, e])
            simp only [Act.put]
            rw [Array.getElem?_setIfInBounds_ne this]
            exact e1
        · have h1 := iv.hv k ok hk hok hq
          have h2 := hpv k ok hk hok hq
          by_cases hki : k = i
          · subst hki
            rw [getD_set_self hil]
            exact ⟨fun _ => h2.1 (.inl rfl), fun _ => rfl⟩
          · rw [getD_set_ne false (fun e => hki e.symm), h1, ← h2]
            exact ⟨.inr, fun h => h.resolve_left hki⟩
        · have hf := countP_flip (p := fun j => !(listed.getD j true)) (q := fun j => !((listed.setIfInBounds i true).getD j true)) (i := i) (by simp [hun]) (by simp [getD_set_self hil]) (fun j hj => by show (!((listed.setIfInBounds i true).getD j true)) = (!(listed.getD j true)); rw [getD_set_ne true (fun e => hj e.symm)]) m him
          omega
      unfold wpOp
      simp only [ho]
      rw [if_pos hgd]
      refine .inl ?_
      cases hq : quietO c o with
      | true =>
        obtain ⟨e1, e2⟩ := hf.q i o ds[i] (by rw [hget i him]; exact ho) (List.getElem?_eq_getElem hids) hq
        have hH : opQ c o (Ts i) (Hs i) some = opQ c o (Ts i) (Hs p) some := opQ_H fun x hx d hxd id hid => by
          have hio := mem_idsO hx hxd hid
          have hb1 := hf.bound i o (by rw [hget i him]; exact ho) id hio
          rcases Nat.le_total i p with hip | hip
          · exact (Hs_at p i p (by omega) hip hb1 fun k h1 h2 => by
              have hkm : k < m := by have := iv.hp; omega
              have hks : k < ops.size := by omega
              obtain ⟨q1, q2⟩ := hstep k ops[k] hkm (Array.getElem?_eq_getElem hks)
              refine ⟨q1, fun hlt => q2 id hlt fun hqk => ?_⟩
              have hlk := (iv.hv k ops[k] hkm (Array.getElem?_eq_getElem hks) hqk).2 h2
              refine hfree i k o ops[k] him hkm ho (Array.getElem?_eq_getElem hks) hq hqk ?_ (hnw k hlk) id hio
              cases hw : waits (masks .any ops.toList []) i k with
              | false => rfl
              | true =>
                have := waits_lt hback i i k (Nat.le_refl _) hw
                omega).1.symm
          · -- the operand is told of now: the entry is there
            have hv : ∃ v, RD w (stab S0 base w L) β v d := by
              rw [hopv x hx] at hxd
              exact ⟨_, opd_RD hT iv.bs.gl hxd⟩
            obtain ⟨v, hv⟩ := hv
            have hb2 : id < (Hs p).length := by
              rcases Nat.lt_or_ge id (Hs p).length with h1 | h1
              · exact h1
              · exact absurd (iv.bs.rel.non id h1) (RD_ids hv id hid)
            exact (Hs_at i p i (by omega) hip hb2 fun k h1 h2 => by
              have hkm : k < m := by omega
              have hks : k < ops.size := by omega
              obtain ⟨q1, q2⟩ := hstep k ops[k] hkm (Array.getElem?_eq_getElem hks)
              refine ⟨q1, fun hlt => q2 id hlt fun hqk => ?_⟩
              have hlk := (iv.hv k ops[k] hkm (Array.getElem?_eq_getElem hks) hqk)
              refine hfree i k o ops[k] him hkm ho (Array.getElem?_eq_getElem hks) hq hqk ?_ ?_ id hio
              · cases hw : waits (masks .any ops.toList []) i k with
                | false => rfl
                | true => have := hlk.1 (hwd k hw); omega
              · cases hw : waits (masks .any ops.toList []) k i with
                | false => rfl
                | true =>
                  have := waits_lt hback k k i (Nat.le_refl _) hw
                  omega).1
        rw [hH] at e2
        have hcg : opQ c o (viewT (Ts i) (o.looksAt ops)) (Hs p) some = some ds[i] := by
          rw [← e2]
          exact (opQ_congr hopv).symm
        obtain ⟨d2, f1, f2⟩ := opQ_sound hc iv.bs.rel hT iv.bs.gl hcg
        cases f1
        refine f2 _ Q fun w' v hb hrd => next w' v L β p (iv.bs.rel.below hb) (stab_below hb) (hb.bel iv.bs.rel.base_le) (fun _ _ => rfl) hrd iv.hp (fun k o2 hk hok hqk => ⟨fun h => h.elim (fun e => by subst e; rw [ho] at hok; cases hok; rw [hq] at hqk; cases hqk) (fun h => h), .inr⟩)
      | false =>
        obtain ⟨e1, e2, e3, _⟩ := hf.g i o ds[i] (by rw [hget i him]; exact ho) (List.getElem?_eq_getElem hids) hq
        have hpi : p ≤ i := by
          rcases Nat.lt_or_ge i p with h1 | h1
          · have := (iv.hv i o him ho hq).2 h1
            rw [hun2] at this; cases this
          · exact h1
        have hHs : Hs i = Hs p := Hs_eq i p i (by omega) hpi fun k h1 h2 => by
          have hks : k < ops.size := by omega
          cases hqk : quietO c ops[k] with
          | true => exact (hf.q k ops[k] (ds[k]'(by omega)) (by rw [hget k (by omega)]; exact Array.getElem?_eq_getElem hks) (List.getElem?_eq_getElem _) hqk).1
          | false =>
            have := (iv.hv k ops[k] (by omega) (Array.getElem?_eq_getElem hks) hqk).1 (hwd k (hchain k i ops[k] o h2 him (Array.getElem?_eq_getElem hks) ho hqk hq))
            omega
        rw [opK_heavy_view e3 hopv (Hs p).length, hHs] at e1
        have hc2 : CfgOk P { c with nfix := (Hs p).length } := ⟨hc.mixed, hc.ti, hc.con, hc.mu, hc.eqt, hc.meth⟩
        obtain ⟨T2, H3, d2, f1, f2⟩ := opK_sound (h := h) hc2 iv.bs.rel hT iv.bs.gl e1
        cases f1
        refine f2 _ Q fun w' L' β' v hp => next w' v L' β' (i + 1) hp.rel hp.st hp.low (fun id hne => hp.fix id (by
          rcases Nat.lt_or_ge id (Hs p).length with h1 | h1
          · exact h1
          · exact absurd (iv.bs.rel.non id h1) hne) hne) hp.val (by omega) (fun k o2 hk hok hqk => ⟨fun h => by rcases h with h | h <;> omega, fun h => ?_⟩)
        by_cases hki : k = i
        · exact .inl hki
        · exact .inr ((iv.hv k o2 hk hok hqk).1 (hwd k (hchain k i o2 o (by omega) him hok ho hqk hq)))
  have hw1 : Below w.heap.size w { w with drawn := w.drawn + 1 } := (Below.refl w.heap.size w).drew
  refine wp_region_any hc.mixed ?_
  have iv0 : Iv2 c F S0 base N w0 .any ops m T ds Hs L β 0 (Array.replicate ops.size false) a { w with drawn := w.drawn + 1 } := by
    have hfalse : ∀ j, (Array.replicate ops.size false).getD j false = false := fun j => getD_replicate_false _ _
    refine ⟨⟨by rw [hf.h0]; exact hs.rel.below hw1, hs.gl.st (stab_below hw1), hs.size, hs.defers, hs.low.trans (hw1.bel hs.rel.base_le)⟩, by simp, fun j _ => hfalse j, fun k o _ (hlk : (Array.replicate ops.size false).getD k false = true) => (by rw [hfalse] at hlk; cases hlk), fun k o d t _ _ _ (hlk : (Array.replicate ops.size false).getD k false = true) => (by rw [hfalse] at hlk; cases hlk), fun t d ht _ => ?_, Nat.zero_le _, fun k o _ _ _ => by rw [hfalse]; simp, hs.fix⟩
    obtain ⟨v, e1, e2⟩ := hs.tmp t d ht
    exact ⟨v, e1, RD_below e2 hw1⟩
  have hcount : (List.range m).countP (fun i => !((Array.replicate ops.size false).getD i true)) = m := by
    have : (List.range m).countP (fun i => !((Array.replicate ops.size false).getD i true)) = (List.range m).length := by
      rw [List.countP_eq_length]
      intro i hi
      rw [List.mem_range] at hi
      rw [getD_tf (by simp; omega) true false, getD_replicate_false]
      rfl
    rw [this, List.length_range]
  have := walk m _ _ _ L β 0 iv0 hcount
  rwa [show m + (ops.size - m) = ops.size by omega] at this
end
end Go.Eng
/- Regions whose order is left open, the end: every function that is evaluated has its contract. -/
namespace Go.Eng
open Go.RowKit
open Classical
set_option linter.unusedVariables false
set_option linter.unusedSimpArgs false
set_option linter.unusedSectionVars false
section
variable {P : Program} {c : Cfg} {h : Hint} {S0 : Nat → Prop} {base : Nat → Prop} {N : Nat} {w0 : World} {L : Nat → Nat} {β : Nat → Real} {H : List E} {R : Type} {r : R} {ops : Array Oper} {md : Region.Mode} {m : Nat} {T : List (Nat × D)}
theorem regionSound (hc : CfgOk P c) : RegionSound P c := by
  intro F h S0 base N w0 R r id ops draw w L β H a T Q K hs hd hk hQ
  unfold regionK at hk
  cases draw with
  | false =>
    rw [cond_false] at hk
    exact wp_region_list (opsK_sound hc ops.toList hs hd hk hQ)
  | true =>
    rw [cond_true] at hk
    generalize hq0 : headN c ops.toList = mh at hk
    generalize hm : quietN c ops.toList = m at hk
    cases hb : (headOk .any ops m && tailOk .any ops m && Region.seqB .any ops (ops.size - m) m (Array.replicate m true ++ Array.replicate (ops.size - m) false)) with
    | false =>
      rw [hb, cond_false] at hk
      cases hb2 : (headOk .any ops mh && tail2 .any ops mh (masks .any ops.toList []) && Region.seqB .any ops (ops.size - mh) mh (Array.replicate mh true ++ Array.replicate (ops.size - mh) false)) with
      | false => rw [hb2] at hk; cases hk
      | true =>
        rw [hb2, cond_true] at hk
        simp only [Bool.and_eq_true] at hb2
        exact drawnSound2 hc hs hd hq0 hb2.1.1 hb2.1.2 hb2.2 hk hQ
    | true =>
      rw [hb, cond_true] at hk
      simp only [Bool.and_eq_true] at hb
      obtain ⟨⟨hhead, htail⟩, hseq⟩ := hb
      have hmle : m ≤ ops.size := by
        rw [← hm, ← Array.length_toList]
        have : ∀ l : List Oper, quietN c l ≤ l.length := fun l => by
          induction l with
          | nil => exact Nat.le_refl _
          | cons o l ih =>
            simp only [quietN]
            cases quietO c o with
            | true => simp only [cond_true, List.length_cons]; omega
            | false => simp
        exact this _
      obtain ⟨ds, hdl, hso, Tn, hTn, hTl⟩ := opsQ_sound (S0 := S0) (base := base) (N := N) (w0 := w0) (L := L) (β := β) hc (ops.toList.take m) hk
      have htl : (ops.toList.take m).length = m := by simp; omega
      have hget : ∀ j, j < m → (ops.toList.take m)[j]? = ops[j]? := fun j hj => by
        rw [List.getElem?_take, if_pos hj, Array.getElem?_toList]
      have hback : ∀ (j : Nat) (b : Oper), ops[j]? = some b → ∀ e ∈ b.after, Region.binds .any e = true → e.on < j := fun j b hb e he hbi => by
        have hj : j < ops.size := (Array.getElem?_eq_some_iff.1 hb).1
        have := List.all_eq_true.1 htail j (List.mem_range.2 hj)
        rw [hb] at this
        simp only [Bool.and_eq_true, backOnly] at this
        have := Array.all_eq_true'.1 this.1 e he
        rw [hbi] at this
        exact of_decide_eq_true this
      have hsink : ∀ (j : Nat) (b : Oper), m ≤ j → ops[j]? = some b → ∀ i, i < j → ∃ e ∈ b.after, Region.binds .any e = true ∧ e.on = i := fun j b hmj hb i hij => by
        have hj : j < ops.size := (Array.getElem?_eq_some_iff.1 hb).1
        have := List.all_eq_true.1 htail j (List.mem_range.2 hj)
        rw [hb] at this
        simp only [Bool.and_eq_true, Bool.or_eq_true] at this
        rcases this.2 with h | h
        · have := Nat.le_of_ble_eq_true h
          omega
        · have := List.all_eq_true.1 h i (List.mem_range.2 hij)
          simp only [onlyAfter] at this
          obtain ⟨e, he, h2⟩ := Array.any_eq_true'.1 this
          simp only [Bool.and_eq_true] at h2
          exact ⟨e, he, h2.1, Nat.eq_of_beq_eq_true h2.2⟩
      have hpair : ∀ (i j : Nat) (a b : Oper), i < m → j < m → i ≠ j → ops[i]? = some a → ops[j]? = some b → ∀ d, a.dst = some d → (d ∈ b.looksAt ops → (∃ e ∈ b.after, Region.binds .any e = true ∧ e.on = i) ∨ (∃ e ∈ a.after, Region.binds .any e = true ∧ e.on = j)) ∧ b.dst ≠ some d := fun i j a b hi hj hij ha hb d hd => by
        have h1 := List.all_eq_true.1 hhead i (List.mem_range.2 hi)
        have h1 := List.all_eq_true.1 h1 j (List.mem_range.2 hj)
        rw [Bool.or_eq_true] at h1
        rcases h1 with h1 | h1
        · exact absurd (Nat.eq_of_beq_eq_true h1) hij
        · rw [ha, hb] at h1
          simp only [pairOk, hd, Bool.and_eq_true, Bool.or_eq_true, Bool.not_eq_true', bne_iff_ne, ne_eq] at h1
          refine ⟨fun hl => ?_, h1.2⟩
          have ex : ∀ (o : Oper) (q : Nat), onlyAfter .any o q = true → ∃ e ∈ o.after, Region.binds .any e = true ∧ e.on = q := fun o q h => by
            simp only [onlyAfter] at h
            obtain ⟨e, he, h2⟩ := Array.any_eq_true'.1 h
            simp only [Bool.and_eq_true] at h2
            exact ⟨e, he, h2.1, Nat.eq_of_beq_eq_true h2.2⟩
          rcases h1.1 with (h2 | h2) | h2
          · rw [List.contains_iff_mem.2 hl] at h2; cases h2
          · exact .inl (ex b i h2)
          · exact .inr (ex a j h2)
      -- the walk, in whatever order
      have walk : ∀ (u : Nat) (listed : Array Bool) (a : Act) (w : World), Iv c S0 base N w0 L β H .any ops m T ds listed a w → (List.range m).countP (fun i => !(listed.getD i true)) = u → wpAny P .any ops Q (u + (ops.size - m)) listed a w := by
        intro u
        induction u with
        | zero =>
          intro listed a w iv hu
          have hall : ∀ i, i < m → listed.getD i false = true := fun i hi => by
            have := List.countP_eq_zero.1 hu i (List.mem_range.2 hi)
            rw [getD_tf (by rw [iv.sz]; omega) false true]
            simpa using this
          have hlist : listed = Array.replicate m true ++ Array.replicate (ops.size - m) false := by
            apply Array.ext
            · rw [iv.sz]; simp; omega
            · intro i h1 h2
              have hgd : listed.getD i false = listed[i] := by rw [Array.getD_eq_getD_getElem?, Array.getElem?_eq_getElem h1]; rfl
              rw [← hgd]
              rcases Nat.lt_or_ge i m with hi | hi
              · rw [hall i hi, Array.getElem_append_left (by simpa using hi)]
                simp
              · rw [iv.only i hi, Array.getElem_append_right (by simpa using hi)]
                simp
          have hsr : SR c F S0 base N w0 w L β H a Tn := by
            refine ⟨iv.bs.rel, fun t d ht => ?_, iv.bs.gl, iv.bs.size, iv.bs.defers, iv.bs.low, hs.fix, hs.fne⟩
            have hlk := hTl t d ht
            rw [htl] at hlk
            rcases lkAt_cases hdl m (by omega) hlk with ⟨j, o, h1, h2, h3, h4⟩ | ⟨h1, h2⟩
            · exact iv.done j o d t h1 (by rw [← hget j h1]; exact h2) h3 (hall j h1) h4
            · exact iv.rest t d h1 fun k o hk ho _ => h2 k o hk (by rw [hget k hk]; exact ho)
          have hlen : (ops.toList.drop m).length = ops.size - m := by simp
          rw [Nat.zero_add, ← hlen]
          refine wpAny_of_seq (ops.toList.drop m) m listed a w (fun j => by rw [List.getElem?_drop, Array.getElem?_toList]) (by rw [hlen, hlist]; exact hseq) ?_
          exact opsK_sound hc (ops.toList.drop m) hsr (fun o ho => hd o (List.mem_of_mem_drop ho)) hTn hQ
        | succ u ih =>
          intro listed a w iv hu
          have hex : ∃ i, i < m ∧ listed.getD i true = false := by
            rcases Classical.em (∃ i, i < m ∧ listed.getD i true = false) with h | h
            · exact h
            · exfalso
              have : (List.range m).countP (fun i => !(listed.getD i true)) = 0 := by
                rw [List.countP_eq_zero]
                intro i hi
                rw [List.mem_range] at hi
                have h1 : listed.getD i true ≠ false := fun e => h ⟨i, hi, e⟩
                have h1 : listed.getD i true = true := by simpa using h1
                simp [h1]
              omega
          have hready : ∀ i, i ∈ Region.ready .any ops listed → i < m := fun i hi => by
            rcases Nat.lt_or_ge i m with h | h
            · exact h
            · exfalso
              obtain ⟨k, hk, hk2⟩ := hex
              obtain ⟨_, o, ho, hall⟩ := mem_ready.1 hi
              obtain ⟨e, he, he2, he3⟩ := hsink i o h ho k (by omega)
              have := hall e he he2
              rw [he3, getD_tf (by rw [iv.sz]; omega) false true, hk2] at this
              cases this
          -- the first that is not done is ready
          have hne : Region.ready .any ops listed ≠ [] := by
            obtain ⟨i, hi, hi2⟩ := hex
            have key : ∀ n i, i ≤ n → i < m → listed.getD i true = false → ∃ j, j ∈ Region.ready .any ops listed := by
              intro n
              induction n with
              | zero =>
                intro i hi0 him hun
                have hi0 : i = 0 := by omega
                subst hi0
                have hlt : 0 < ops.size := by omega
                refine ⟨0, mem_ready.2 ⟨hun, ops[0], Array.getElem?_eq_getElem hlt, fun e he _ => ?_⟩⟩
                have := hback 0 _ (Array.getElem?_eq_getElem hlt) e he (by assumption)
                omega
              | succ n ihn =>
                intro i hin him hun
                have hlt : i < ops.size := by omega
                by_cases hr : ∀ e ∈ (ops[i]).after, Region.binds .any e = true → listed.getD e.on false = true
                · exact ⟨i, mem_ready.2 ⟨hun, ops[i], Array.getElem?_eq_getElem hlt, hr⟩⟩
                · obtain ⟨e, he⟩ := Classical.not_forall.1 hr
                  obtain ⟨he1, he2⟩ := Classical.not_imp.1 he
                  obtain ⟨he3, he4⟩ := Classical.not_imp.1 he2
                  have hlt2 := hback i _ (Array.getElem?_eq_getElem hlt) e he1 he3
                  refine ihn e.on (by omega) (by omega) ?_
                  rw [getD_tf (by rw [iv.sz]; omega) true false]
                  simpa using he4
            obtain ⟨j, hj⟩ := key i i (Nat.le_refl _) hi hi2
            exact fun e => by rw [e] at hj; cases hj
          rw [show u + 1 + (ops.size - m) = (u + (ops.size - m)) + 1 by omega]
          refine ⟨fun h => absurd h hne, fun i hi => ?_⟩
          have him := hready i hi
          obtain ⟨hun, o, ho, hedges⟩ := mem_ready.1 hi
          have hilt : i < ops.size := by omega
          have hil : i < listed.size := by rw [iv.sz]; exact hilt
          have hids : i < ds.length := by rw [hdl, htl]; exact him
          have hun2 : listed.getD i false = false := by rw [getD_tf hil false true]; exact hun
          have hso_i := hso i o ds[i] (by rw [hget i him]; exact ho) (List.getElem?_eq_getElem hids)
          have hview : ∀ t ∈ o.looksAt ops, ∀ d', lkAt (ops.toList.take m) ds (look T) i t = some d' → ∃ v, a.tmps[t]? = some v ∧ RD w (stab S0 base w L) β v d' := fun t ht d' hl => by
            rcases lkAt_cases hdl i (by omega) hl with ⟨j, oj, h1, h2, h3, h4⟩ | ⟨h1, h2⟩
            · rw [hget j (by omega)] at h2
              have hp := (hpair j i oj o (by omega) him (by omega) h2 ho t h4).1 ht
              refine iv.done j oj d' t (by omega) h2 h3 ?_ h4
              rcases hp with ⟨e, he, he2, he3⟩ | ⟨e, he, he2, he3⟩
              · rw [← he3]; exact hedges e he he2
              · have := hback j oj h2 e he he2
                omega
            · refine iv.rest t d' h1 fun k ok hk hok hlk hdk => ?_
              have hki : k ≠ i := fun e => by rw [e, hun2] at hlk; cases hlk
              rcases Nat.lt_or_ge k i with hki2 | hki2
              · exact h2 k ok hki2 (by rw [hget k hk]; exact hok) hdk
              · have hp := (hpair k i ok o hk him hki hok ho t hdk).1 ht
                rcases hp with ⟨e, he, he2, he3⟩ | ⟨e, he, he2, he3⟩
                · have := hback i o ho e he he2
                  omega
                · have := iv.clos k ok hok hlk e he he2
                  rw [he3, hun2] at this
                  cases this
          have hgo := hso_i a w iv.bs hview (wpAny P .any ops Q (u + (ops.size - m)) (listed.setIfInBounds i true)) Q (fun w' v hb hrd => by
            refine ih _ _ _ ⟨⟨iv.bs.rel.below hb, iv.bs.gl.st (stab_below hb), by rw [put_size]; exact iv.bs.size, by rw [put_defers]; exact iv.bs.defers, iv.bs.low.trans (hb.bel iv.bs.rel.base_le)⟩, by simpa using iv.sz, fun j hj => ?_, fun k ok hok hlk e he he2 => ?_, fun k ok d t hk hok hdk hlk hdt => ?_, fun t d ht hno => ?_⟩ ?_
            · rw [getD_set_ne false (by omega)]; exact iv.only j hj
            · by_cases hki : k = i
              · subst hki
                rw [ho] at hok
                cases hok
                have := hedges e he he2
                by_cases hei : k = e.on
                · rw [← hei, getD_set_self hil]
                · rw [getD_set_ne false hei]; exact this
              · rw [getD_set_ne false (fun e => hki e.symm)] at hlk
                have := iv.clos k ok hok hlk e he he2
                by_cases hei : i = e.on
                · rw [← hei, getD_set_self hil]
                · rw [getD_set_ne false hei]; exact this
            · by_cases hki : k = i
              · subst hki
                rw [ho] at hok
                cases hok
                rw [List.getElem?_eq_getElem hids] at hdk
                cases hdk
                refine ⟨v, ?_, hrd⟩
                have htN : t < a.tmps.size := by
                  rw [iv.bs.size]
                  have := hd o (List.mem_of_getElem? (by rw [Array.getElem?_toList]; exact ho))
                  unfold dstOk at this
                  rw [hdt] at this
                  exact of_decide_eq_true this
                rw [hdt]
                simp [Act.put, htN]
              · rw [getD_set_ne false (fun e => hki e.symm)] at hlk
                obtain ⟨v2, e1, e2⟩ := iv.done k ok d t hk hok hdk hlk hdt
                refine ⟨v2, ?_, RD_below e2 hb⟩
                cases hod : o.dst with
                | none => exact e1
                | some t2 =>
                  have hne2 := (hpair i k o ok him hk (fun e => hki e.symm) ho hok t2 hod).2
                  have : t2 ≠ t := fun e => hne2 (by rw [e]; exact hdt)
                  simp only [Act.put]
                  rw [Array.getElem?_setIfInBounds_ne this]
                  exact e1
            · obtain ⟨v2, e1, e2⟩ := iv.rest t d ht fun k ok hk hok hlk => hno k ok hk hok (by
                by_cases hki : i = k
                · rw [← hki, getD_set_self hil]
                · rw [getD_set_ne false hki]; exact hlk)
              refine ⟨v2, ?_, RD_below e2 hb⟩
              have hne2 := hno i o him ho (getD_set_self hil false)
              cases hod : o.dst with
              | none => exact e1
              | some t2 =>
                have : t2 ≠ t := fun e => hne2 (by rw [hod, e])
                simp only [Act.put]
                rw [Array.getElem?_setIfInBounds_ne this]
                exact e1
            · have hf := countP_flip (p := fun j => !(listed.getD j true)) (q := fun j => !((listed.setIfInBounds i true).getD j true)) (i := i) (by simp [hun]) (by simp [getD_set_self hil]) (fun j hj => by show (!((listed.setIfInBounds i true).getD j true)) = (!(listed.getD j true)); rw [getD_set_ne true (fun e => hj e.symm)]) m him
              omega)
          unfold wpOp
          simp only [ho]
          split
          · rename_i hw
            rw [if_pos hw] at hgo
            exact .inl hgo
          · rename_i hw
            rw [if_neg hw] at hgo
            exact hgo
      have hw1 : Below w.heap.size w { w with drawn := w.drawn + 1 } := (Below.refl w.heap.size w).drew
      refine wp_region_any hc.mixed ?_
      have iv0 : Iv c S0 base N w0 L β H .any ops m T ds (Array.replicate ops.size false) a { w with drawn := w.drawn + 1 } := by
        have hfalse : ∀ j, (Array.replicate ops.size false).getD j false = false := fun j => getD_replicate_false _ _
        refine ⟨⟨hs.rel.below hw1, hs.gl.st (stab_below hw1), hs.size, hs.defers, hs.low.trans (hw1.bel hs.rel.base_le)⟩, by simp, fun j _ => hfalse j, fun k o _ (hlk : (Array.replicate ops.size false).getD k false = true) => (by rw [hfalse] at hlk; cases hlk), fun k o d t _ _ _ (hlk : (Array.replicate ops.size false).getD k false = true) => (by rw [hfalse] at hlk; cases hlk), fun t d ht _ => ?_⟩
        obtain ⟨v, e1, e2⟩ := hs.tmp t d ht
        exact ⟨v, e1, RD_below e2 hw1⟩
      have hcount : (List.range m).countP (fun i => !((Array.replicate ops.size false).getD i true)) = m := by
        have : (List.range m).countP (fun i => !((Array.replicate ops.size false).getD i true)) = (List.range m).length := by
          rw [List.countP_eq_length]
          intro i hi
          rw [List.mem_range] at hi
          rw [getD_tf (by simp; omega) true false, getD_replicate_false]
          rfl
        rw [this, List.length_range]
      have := walk m _ _ _ iv0 hcount
      rwa [show m + (ops.size - m) = ops.size by omega] at this
/-- A FUNCTION's CONTRACT OUT OF THE EVALUATOR's ANSWERS. -/
theorem PFun.ev {as : List Sh} {rs : Rs} (hc : CfgOk P c) (h : Hint) {f : FuncId} {fn : Func} {b : Code} (hf : P.funcs[f]? = some fn) (hb : fn.body = some b) (hn : (fn.name == "runtime.NumGoroutine") = false) (hN : codeOk fn.ntmps b = true) (ha : as.length ≤ fn.ntmps) {X : Shs.den as → Option rs.den}
    (hX : ∀ x y, X x = some y → ∃ n, evF c h fn as rs n x = some y) (h0 : c.nfix = 0 := by rfl) : PFun P c.gl f as rs X := PFun.of_ev h0 hc (regionSound hc) hf hb hn hN ha hX
end
#print axioms PFun.ev
end Go.Eng
/- Functions that write into what their arguments own: from the evaluator's answer to a contract. -/
namespace Go.Eng
open Go.RowKit
open Classical
set_option linter.unusedVariables false
set_option linter.unusedSimpArgs false
set_option linter.unusedSectionVars false
def mvRsM (rs : Rs) (as : List Sh) (ds0 : List D) (ds : List D) (H : List E) : Option (rs.den × Shs.den as) :=
  match rs, ds with
  | .one s, [d] => match mvSh s d H with
    | some (x, H2) => match mvShs as ds0 H2 with
      | some (x', _) => some (x, x')
      | none => none
    | none => none
  | .tup ss, ds => bif Nat.beq ds.length 1 then none else match mvShs ss ds H with
    | some (x, H2) => match mvShs as ds0 H2 with
      | some (x', _) => some (x, x')
      | none => none
    | none => none
  | _, _ => none
/-- A function's answer, and what its arguments hold then. -/
noncomputable def evM (c : Cfg) (h : Hint) (fn : Func) (as : List Sh) (rs : Rs) (n : Nat) (x : Shs.den as) : Option (rs.den × Shs.den as) :=
  match fn.body with
  | some b => match inShs as x [] with
    | some (ds0, H0) => codeK c h n b (argT 0 ds0) H0 (endK c fn (mvRsM rs as ds0))
    | none => none
  | none => none
theorem inCells_arr : ∀ (t : Ty) {x : t.den} {H : List E}, (∀ e ∈ H, ∃ (s : Ty) (l : List s.den), e = .arr s l) → ∀ e ∈ (inCells t x H).2, ∃ (s : Ty) (l : List s.den), e = .arr s l
  | .unit, x, H, h => h
  | .int k, x, H, h => h
  | .bool, x, H, h => h
  | .str, x, H, h => h
  | .sl false t, x, H, h => h
  | .sl true t, x, H, h => fun e he => by
    rcases List.mem_append.1 (show e ∈ H ++ [.arr t x] from he) with he | he
    · exact h e he
    · rw [List.mem_singleton] at he; exact ⟨t, x, he⟩
  | .pair a b, x, H, h => inCells_arr b (inCells_arr a h)
theorem inSh_arr {s : Sh} {x : s.ty.den} {H H2 : List E} {d : D} (hi : inSh s x H = some (d, H2)) (h : ∀ e ∈ H, ∃ (s : Ty) (l : List s.den), e = .arr s l) : ∀ e ∈ H2, ∃ (s : Ty) (l : List s.den), e = .arr s l := by
  cases s with
  | agg t =>
    simp only [inSh, Option.some.injEq, Prod.mk.injEq] at hi
    rw [← hi.2]; exact inCells_arr t h
  | one t =>
    simp only [inSh] at hi
    split at hi
    · simp only [Option.some.injEq, Prod.mk.injEq] at hi
      rw [← hi.2]; exact inCells_arr t h
    · cases hi
theorem inShs_arr : ∀ (ss : List Sh) {x : Shs.den ss} {H H2 : List E} {ds : List D}, inShs ss x H = some (ds, H2) → (∀ e ∈ H, ∃ (s : Ty) (l : List s.den), e = .arr s l) → ∀ e ∈ H2, ∃ (s : Ty) (l : List s.den), e = .arr s l
  | [], x, H, H2, ds, hi, h => by
    simp only [inShs, Option.some.injEq, Prod.mk.injEq] at hi
    rw [← hi.2]; exact h
  | s :: ss, x, H, H2, ds, hi, h => by
    simp only [inShs, Option.bind_eq_some_iff] at hi
    obtain ⟨⟨d, H3⟩, h3, ⟨es, H4⟩, h4, h5⟩ := hi
    simp only [Option.some.injEq, Prod.mk.injEq] at h5
    rw [← h5.2]
    exact inShs_arr ss h4 (inSh_arr h3 h)
theorem RTup_len {w : World} {S : Nat → Prop} : ∀ (ss : List Sh) {ok : Nat → Prop} {vs : List Value} {x : Shs.den ss}, RTup w S ss ok vs x → vs.length = ss.length
  | [], _, vs, _, h => by rw [show vs = [] from h]; rfl
  | s :: r, _, _, _, h => by
    obtain ⟨p, v, vr, rfl, _, h2⟩ := h
    rw [List.length_cons, List.length_cons, RTup_len r h2]
section
variable {P : Program} {c : Cfg} {h : Hint}
/-- A FUNCTION's CONTRACT, OF ONE THAT WRITES INTO ITS ARGUMENTS, OUT OF THE EVALUATOR's ANSWERS. -/
theorem PMut.ev {as : List Sh} {rs : Rs} (hc : CfgOk P c) (h : Hint) {f : FuncId} {fn : Func} {b : Code} (hf : P.funcs[f]? = some fn) (hb : fn.body = some b) (hn : (fn.name == "runtime.NumGoroutine") = false) (hN : codeOk fn.ntmps b = true) (ha : as.length ≤ fn.ntmps) {X : Shs.den as → Option (rs.den × Shs.den as)}
    (hX : ∀ x y, X x = some y → ∃ n, evM c h fn as rs n x = some y) (hnf : ∀ x ds0 H0, inShs as x [] = some (ds0, H0) → H0.length = c.nfix) : PMut P c.gl f as rs X := by
  refine ⟨⟨fn, hf, by rw [hb]; rfl, hn⟩, fun w S ok0 args x y x' hS hok0 hg hargs hxy => ?_⟩
  obtain ⟨n, hev⟩ := hX x (y, x') hxy
  unfold evM at hev
  rw [hb] at hev
  simp only at hev
  split at hev
  case h_2 => cases hev
  rename_i ds0 H0 hin
  have hr0 : Rel S (fun k => k < w.heap.size ∧ ¬ ok0 k) w (fun k => if ok0 k then 1 else 0) (fun _ => .non) [] := by
    refine ⟨fun k hk => hk.1, fun k hk => if_neg hk.2, fun k hk => if_neg (fun h => by have := hok0 k h; omega), fun k => ?_, fun _ _ => rfl, fun id e he => by simp at he⟩
    show (if ok0 k then 1 else 0) < 2
    split <;> omega
  have hs0 : ∀ k, S k → stab S (fun k => k < w.heap.size ∧ ¬ ok0 k) w (fun k => if ok0 k then 1 else 0) k := fun k hk => ⟨fun _ => hk, (hS k hk).1, if_neg (hS k hk).2⟩
  obtain ⟨L1, β1, r1, r2, r3, r4, r5, r6⟩ := inShs_sound as hr0 (fun k hk => if_pos hk) (RTup_upS hs0 as hargs) hin
  have hasz : args.size = as.length := by have := RTup_len as hargs; simpa using this
  have hl : H0.length = c.nfix := hnf x ds0 H0 hin
  have harr := inShs_arr as hin (by simp)
  have hst0 : ∀ k, stab S (fun k => k < w.heap.size ∧ ¬ ok0 k) w L1 k → S k ∧ ¬ ok0 k ∧ k < w.heap.size := fun k hk => by
    have h2 : ¬ ok0 k := fun ho => by
      rcases r3 k with h3 | h3
      · have h4 := hk.2.2
        rw [h3, if_pos ho] at h4
        cases h4
      · have := hk.2.2; omega
    exact ⟨hk.1 ⟨hk.2.1, h2⟩, h2, hk.2.1⟩
  have hSR : SR c β1 S (fun k => k < w.heap.size ∧ ¬ ok0 k) fn.ntmps w w L1 β1 H0 { tmps := args ++ Array.replicate (fn.ntmps - args.size) undef, defers := [] } (argT 0 ds0) := by
    refine ⟨r1, fun t d ht => ?_, fun g cs h β => RD_grow (hg g cs h β) (fun k hk => ⟨(stab_mv r2 k (hs0 k hk)).1, rfl⟩) (fun _ _ => rfl), by simp; omega, rfl, Bel.refl _ _, fun _ _ => rfl, fun id hid => ?_⟩
    · obtain ⟨i, rfl, hd⟩ := look_argT ht
      rw [Nat.zero_add]
      have hi : i < args.size := by
        have h1 : i < ds0.length := (List.getElem?_eq_some_iff.1 hd).1
        have h2 : args.toList.length = ds0.length := r5
        rw [← h2] at h1
        simpa using h1
      refine ⟨args[i], ?_, r6 i _ d (by simp [hi]) hd⟩
      rw [Array.getElem?_append_left hi]
      exact Array.getElem?_eq_getElem hi
    · rw [← hl] at hid
      obtain ⟨s, l, he⟩ := harr _ (List.getElem_mem hid)
      obtain ⟨A, cap, e1, _⟩ := r1.ent id (.arr s l) (by rw [List.getElem?_eq_getElem hid, he])
      rw [e1]; simp
  refine calls_of_wp hf hb (codeK_sound hc (regionSound hc) b hN hSR hev fun ex w' L' β' H' a' T' hs hk => ?_)
  have fin : (resD c T' H' fn.results.toList).bind (fun ds => mvRsM rs as ds0 ds H') = some (y, x') → a'.defers = [] ∧ ∃ v, (results fn a'.tmps).run P w' = .ok v w' ∧ ∃ (v2 : Value) (ok1 ok2 : Nat → Prop), Ending.returned v = .returned v2 ∧ Bel (fun k => k < w.heap.size ∧ ¬ ok0 k) w w' ∧ (∀ k, ok1 k ∨ ok2 k → k < w'.heap.size ∧ (k < w.heap.size → ok0 k)) ∧ (∀ k, ok1 k → ¬ ok2 k) ∧
      RRes w' (fun k => S k ∨ (k < w'.heap.size ∧ (k < w.heap.size → ok0 k) ∧ ¬ ok1 k ∧ ¬ ok2 k)) rs ok2 v2 y ∧ RTup w' (fun k => S k ∨ (k < w'.heap.size ∧ (k < w.heap.size → ok0 k) ∧ ¬ ok1 k ∧ ¬ ok2 k)) as ok1 args.toList x' := fun hk => by
    rw [Option.bind_eq_some_iff] at hk
    obtain ⟨ds, h1, h2⟩ := hk
    obtain ⟨vs, p1, p2, p3⟩ := results_run hc hs h1
    refine ⟨hs.defers, _, p1, ?_⟩
    refine ⟨if hh : vs.toArray.size = 1 then vs.toArray[0] else .tuple vs.toArray, ?_⟩
    -- the arguments, behind the results
    have args2 : ∀ {L2 : Nat → Nat} {H2 : List E} {ok2 : Nat → Prop} {z : Shs.den as} {H3 : List E}, Rel S (fun k => k < w.heap.size ∧ ¬ ok0 k) w' L2 β' H2 → Mv L' L2 H2 ok2 → mvShs as ds0 H2 = some (z, H3) →
        ∃ ok1 : Nat → Prop, (∀ k, ok1 k ∨ ok2 k → k < w'.heap.size ∧ (k < w.heap.size → ok0 k)) ∧ (∀ k, ok1 k → ¬ ok2 k) ∧ (∀ k, stab S (fun k => k < w.heap.size ∧ ¬ ok0 k) w' L2 k → (S k ∨ (k < w'.heap.size ∧ (k < w.heap.size → ok0 k) ∧ ¬ ok1 k ∧ ¬ ok2 k))) ∧ RTup w' (fun k => S k ∨ (k < w'.heap.size ∧ (k < w.heap.size → ok0 k) ∧ ¬ ok1 k ∧ ¬ ok2 k)) as ok1 args.toList z := fun {L2 H2 ok2 z H3} hr2 hm2 hmv => by
      obtain ⟨L3, ok1, q1, q2, q3, q4⟩ := mvShs_sound as hr2 r5 (fun i v d hv hd => RD_grow (r6 i v d hv hd) (fun k hk => by
        obtain ⟨e1, e2, e3⟩ := hst0 k hk
        exact ⟨⟨fun _ => e1, Nat.lt_of_lt_of_le e3 hs.low.size, hm2.zero k (hs.rel.low k ⟨e3, e2⟩)⟩, hs.low.block k ⟨e3, e2⟩⟩) (fun id hne => hs.fix id (by
          rcases Nat.lt_or_ge id c.nfix with h5 | h5
          · exact h5
          · exact absurd (r1.non id (by omega)) hne))) hmv
      have lab : ∀ k, L' k ≠ 0 → k < w'.heap.size ∧ (k < w.heap.size → ok0 k) := fun k hk => by
        refine ⟨?_, fun hlt => ?_⟩
        · rcases Nat.lt_or_ge k w'.heap.size with h5 | h5
          · exact h5
          · exact absurd (hs.rel.hi k h5) hk
        · by_cases ho : ok0 k
          · exact ho
          · exact absurd (hs.rel.low k ⟨hlt, ho⟩) hk
      have sub : ∀ (L4 : Nat → Nat) k, (k < w.heap.size ∧ ¬ ok0 k → S k) ∧ k < w'.heap.size ∧ ¬ ok1 k ∧ ¬ ok2 k → (S k ∨ (k < w'.heap.size ∧ (k < w.heap.size → ok0 k) ∧ ¬ ok1 k ∧ ¬ ok2 k)) := fun L4 k hk => by
        by_cases hb : k < w.heap.size ∧ ¬ ok0 k
        · exact .inl (hk.1 hb)
        · exact .inr ⟨hk.2.1, fun hlt => by
            by_cases ho : ok0 k
            · exact ho
            · exact absurd ⟨hlt, ho⟩ hb, hk.2.2⟩
      refine ⟨ok1, fun k hk => ?_, fun k h5 h6 => ?_, fun k hk => sub L2 k ⟨hk.1, hk.2.1, fun h5 => ?_, fun h5 => ?_⟩, RTup_upS (fun k hk => sub L3 k ⟨hk.1, hk.2.1, fun h5 => ?_, fun h5 => ?_⟩) as q4⟩
      · rcases hk with hk | hk
        · obtain ⟨_, id, e1, _⟩ := q2.got k hk
          exact lab k (by rw [← hm2.kept k (by omega)]; omega)
        · obtain ⟨_, id, e1, _⟩ := hm2.got k hk
          exact lab k (by omega)
      · obtain ⟨_, id, e1, _⟩ := q2.got k h5
        have := (hm2.got k h6).1
        omega
      · obtain ⟨_, id, e1, _⟩ := q2.got k h5
        have := hk.2.2
        omega
      · have := (hm2.got k h5).1
        have := hk.2.2
        omega
      · have := (q2.got k h5).1
        have := hk.2.2
        omega
      · have := q2.one k (hm2.got k h5).1
        have := hk.2.2
        omega
    cases rs with
    | one s =>
      cases ds with
      | nil => cases h2
      | cons d ds =>
        cases ds with
        | cons d2 ds => cases h2
        | nil =>
          cases vs with
          | nil => simp at p2
          | cons v vs =>
            have : vs = [] := List.eq_nil_of_length_eq_zero (by simpa using p2)
            subst this
            simp only [mvRsM] at h2
            split at h2
            · rename_i x2 H2 hmv
              split at h2
              · rename_i x3 H3 hmv2
                cases h2
                obtain ⟨L2, ok2, q1, q2, q3, q4⟩ := mvSh_sound hs.rel (p3 0 v d rfl rfl) hmv
                obtain ⟨ok1, g1, g2, g3, g4⟩ := args2 q1 q2 hmv2
                exact ⟨ok1, ok2, rfl, hs.low, g1, g2, RSh_upS q4 g3, g4⟩
              · cases h2
            · cases h2
    | tup ss =>
      simp only [mvRsM] at h2
      cases hb1 : Nat.beq ds.length 1 with
      | true => rw [hb1] at h2; cases h2
      | false =>
        rw [hb1, cond_false] at h2
        split at h2
        · rename_i x2 H2 hmv
          split at h2
          · rename_i x3 H3 hmv2
            cases h2
            obtain ⟨L2, ok2, q1, q2, q3, q4⟩ := mvShs_sound ss hs.rel p2 p3 hmv
            obtain ⟨ok1, g1, g2, g3, g4⟩ := args2 q1 q2 hmv2
            have hne : ds.length ≠ 1 := fun e => by rw [e] at hb1; cases hb1
            have hss : ss.length = ds.length := mvShs_len ss hmv
            refine ⟨ok1, ok2, rfl, hs.low, g1, g2, ?_, g4⟩
            rw [dif_neg (by simp; omega)]
            exact ⟨by omega, _, rfl, RTup_upS g3 ss (by simpa using q4)⟩
          · cases h2
        · cases h2
  cases ex with
  | exit i => cases hk
  | nrm => exact fin hk
  | ret => exact fin hk
end
#print axioms PMut.ev
end Go.Eng
/- A law's row over its contract: arguments that can be read as data are arguments of the contract; behind the call they read as before. -/
namespace Go.Eng
open Go.RowKit Go.ChangeShapes Go.WideShapes
open Classical
set_option linter.unusedVariables false
set_option linter.unusedSimpArgs false
set_option linter.unusedSectionVars false
/-- The pure type of a type's fields. -/
def tysP (P : Program) (rec : TypeId → Option Ty) : List Field → Nat → Option Ty
  | [], _ => some .unit
  | f :: r, off => bif Nat.beq f.offset off then
      match rec f.type with
      | some a => bif Nat.beq a.width (P.cellsOf f.type) then (match tysP P rec r (off + a.width) with | some b => some (.pair a b) | none => none) else none
      | none => none
    else none
/-- The pure type of a type, nothing of it owned. -/
def tyP (P : Program) : Nat → TypeId → Option Ty
  | 0, _ => none
  | n + 1, t => match P.underlying t with
    | some .bool => some .bool
    | some (.int k) => some (.int k)
    | some .string => some .str
    | some (.slice e) => match tyP P n e with
      | some τ => bif Nat.beq τ.width (P.cellsOf e) && Nat.ble 1 τ.width then some (.sl false τ) else none
      | none => none
    | some (.struct fs) => match tysP P (tyP P n) fs.toList 0 with
      | some τ => bif Nat.beq τ.width (P.cellsOf t) then some τ else none
      | none => none
    | _ => none
/-- What holds of every value that can be read. -/
def WF : (t : Ty) → t.den → Prop
  | .int k, x => (Lit.int k x).wf = true
  | .bool, _ => True
  | .str, x => ByteArray.size x ≤ maxLen
  | .unit, _ => True
  | .pair a b, x => WF a x.1 ∧ WF b x.2
  | .sl _ t, l => l.length ≤ maxLen ∧ ∀ x ∈ l, WF t x
def WFs : (ss : List Sh) → Shs.den ss → Prop
  | [], _ => True
  | s :: r, x => WF s.ty x.1 ∧ WFs r x.2
section
variable {H : Type} {enc : TypeId × Value → H} {P : Program} {w : World} {sp : Nat → Bool} {held : Bool}
theorem list_of2 {α : Type} {Q : Nat → α → Prop} {n : Nat} (h : ∀ m, m < n → ∃ u, Q m u) : ∃ us : List α, us.length = n ∧ ∀ (m : Nat) u, us[m]? = some u → Q m u := by
  induction n generalizing Q with
  | zero => exact ⟨[], rfl, fun m u hu => by simp at hu⟩
  | succ n ih =>
    obtain ⟨u, hu⟩ := h 0 (by omega)
    obtain ⟨us, h1, h2⟩ := ih (Q := fun m => Q (m + 1)) (fun m hm => h (m + 1) (by omega))
    refine ⟨u :: us, by simp [h1], fun m v hv => ?_⟩
    cases m with
    | zero => simp at hv; subst hv; exact hu
    | succ m => exact h2 m v (by simpa using hv)
theorem cells?_get {a : Addr} {n : Nat} {cs : List Value} (h : w.cells? 0 a n = some cs) : cs.length = n ∧ ∀ (i : Nat) v, cs[i]? = some v → w.cell? (a.add i) = some v := by
  unfold World.cells? at h
  rw [if_pos (Nat.zero_le _)] at h
  have key : ∀ (l : List Nat) (cs : List Value), l.mapM (fun i => w.cell? (a.add i)) = some cs → cs.length = l.length ∧ ∀ (i : Nat) v, cs[i]? = some v → ∃ j, l[i]? = some j ∧ w.cell? (a.add j) = some v := by
    intro l
    induction l with
    | nil => intro cs h; simp at h; subst h; exact ⟨rfl, fun i v hv => by simp at hv⟩
    | cons j l ih =>
      intro cs h
      rw [List.mapM_cons] at h
      cases hj : w.cell? (a.add j) with
      | none => rw [hj] at h; cases h
      | some v =>
        rw [hj] at h
        cases hl : l.mapM (fun i => w.cell? (a.add i)) with
        | none => rw [hl] at h; cases h
        | some vs =>
          rw [hl] at h
          cases h
          obtain ⟨h1, h2⟩ := ih vs hl
          refine ⟨by simp [h1], fun i u hu => ?_⟩
          cases i with
          | zero => simp at hu; subst hu; exact ⟨j, rfl, hj⟩
          | succ i => exact h2 i u (by simpa using hu)
  obtain ⟨h1, h2⟩ := key _ _ h
  refine ⟨by simpa using h1, fun i v hv => ?_⟩
  obtain ⟨j, h3, h4⟩ := h2 i v hv
  obtain ⟨h5, h6⟩ := List.getElem?_eq_some_iff.1 h3
  rw [List.getElem_range] at h6
  rw [h6]; exact h4
/-- What can be read as data reads as a pure value. -/
theorem trod_RT : ∀ (n : Nat) (t : TypeId) (τ : Ty), tyP P n t = some τ → ∀ (m : Nat) (cs : List Value) (x : DataW H × List MemPlace), DataW.trod enc P w 0 sp held m t cs = some x → ∃ y : τ.den, RT w (fun k => k < w.heap.size) false τ (fun _ => False) cs y ∧ WF τ y
  | 0, t, τ, ht, _, _, _, _ => by cases ht
  | n + 1, t, τ, ht, m, cs, x, hx => by
    unfold tyP at ht
    split at ht
    · rename_i hu
      cases ht
      obtain ⟨b, rfl, _⟩ := DataW.trod_bool hu hx
      exact ⟨b, by rw [RT], trivial⟩
    · rename_i k hu
      cases ht
      obtain ⟨z, rfl, _, hw⟩ := DataW.trod_int hu hx
      exact ⟨z, by rw [RT], hw⟩
    · rename_i hu
      cases ht
      obtain ⟨s, rfl, _, hs⟩ := DataW.trod_string hu hx
      exact ⟨s, by rw [RT], hs⟩
    · rename_i e hu
      split at ht
      · rename_i τe he
        cases hb : (Nat.beq τe.width (P.cellsOf e) && Nat.ble 1 τe.width) with
        | false => rw [hb] at ht; cases ht
        | true =>
          rw [hb, cond_true] at ht
          cases ht
          rw [Bool.and_eq_true] at hb
          have hw1 := Nat.le_of_ble_eq_true hb.2
          have hb := Nat.eq_of_beq_eq_true hb.1
          rcases DataW.trod_slice hu hx with ⟨rfl, _⟩ | ⟨a, len, cap, elems, rest, m2, _, rfl, _, _, hlc, hcm, hel, hrow, _⟩
          · refine ⟨[], ?_, Nat.zero_le _, fun x hx => by cases hx⟩
            rw [RT]
            exact ⟨none, 0, rfl, Nat.le_refl _, by rw [if_neg (by simp)]; exact fun h => absurd rfl h⟩
          · have step : ∀ j, j < len → ∃ y : τe.den, (∃ c : List Value, (∀ (i : Nat) v, c[i]? = some v → w.cell? (a.add (j * τe.width + i)) = some v) ∧ c.length = τe.width ∧ RT w (fun k => k < w.heap.size) false τe (fun _ => False) c y) ∧ WF τe y := fun j hj => by
              have h1 := hrow j hj
              rw [List.getElem?_eq_getElem (by omega)] at h1
              rw [Option.bind_eq_some_iff] at h1
              obtain ⟨c, h2, h3⟩ := h1
              obtain ⟨h4, h5⟩ := cells?_get h2
              obtain ⟨y, h6, h7⟩ := trod_RT n e τe he m2 c _ h3
              refine ⟨y, ⟨c, fun i v hv => ?_, by rw [h4, hb], h6⟩, h7⟩
              have := h5 i v hv
              rwa [add_add2, ← hb] at this
            obtain ⟨l, hl1, hl2⟩ := list_of2 step
            refine ⟨l, ?_, by omega, fun x hx => ?_⟩
            · rw [RT]
              refine ⟨some a, cap, by rw [hl1], by omega, ?_⟩
              rw [if_neg (by simp)]
              intro hne
              refine ⟨a, rfl, ?_, fun j y hy => ?_⟩
              · obtain ⟨⟨c, hc, hcl, _⟩, _⟩ := hl2 0 _ (List.getElem?_eq_getElem (List.length_pos_iff.2 hne))
                have h0 := hc 0 _ (List.getElem?_eq_getElem (by omega))
                rw [Nat.zero_mul, Nat.zero_add, show a.add 0 = a from rfl] at h0
                rcases Nat.lt_or_ge a.block w.heap.size with h1 | h1
                · exact h1
                · unfold World.cell? at h0
                  rw [Array.getElem?_eq_none h1] at h0
                  cases h0
              · obtain ⟨⟨c, c1, c2, c3⟩, _⟩ := hl2 j y hy
                exact ⟨c, c1, c3⟩
            · obtain ⟨j, hj⟩ := List.getElem?_of_mem hx
              exact (hl2 j x hj).2
      · cases ht
    · rename_i fs hu
      split at ht
      · rename_i τs hs
        cases hb : Nat.beq τs.width (P.cellsOf t) with
        | false => rw [hb] at ht; cases ht
        | true =>
          rw [hb, cond_true] at ht
          cases ht
          have hb := Nat.eq_of_beq_eq_true hb
          obtain ⟨xs, m2, _, _, hcl, hxl, hf⟩ := DataW.trod_struct hu hx
          have key : ∀ (l : List Field) (off : Nat) (σ : Ty), tysP P (tyP P n) l off = some σ → (∀ f ∈ l, ∃ z, DataW.trod enc P w 0 sp held m2 f.type ((cs.drop f.offset).take (P.cellsOf f.type)) = some z) → off + σ.width ≤ cs.length → ∃ y : σ.den, RT w (fun k => k < w.heap.size) false σ (fun _ => False) ((cs.drop off).take σ.width) y ∧ WF σ y := by
            intro l
            induction l with
            | nil =>
              intro off σ h1 _ _
              cases h1
              exact ⟨(), by rw [RT]; simp [Ty.width], trivial⟩
            | cons f l ih =>
              intro off σ h1 h2 h3
              unfold tysP at h1
              cases hbo : Nat.beq f.offset off with
              | false => rw [hbo] at h1; cases h1
              | true =>
                rw [hbo, cond_true] at h1
                have hbo := Nat.eq_of_beq_eq_true hbo
                split at h1
                · rename_i τa ha
                  cases hbw : Nat.beq τa.width (P.cellsOf f.type) with
                  | false => rw [hbw] at h1; cases h1
                  | true =>
                    rw [hbw, cond_true] at h1
                    have hbw := Nat.eq_of_beq_eq_true hbw
                    split at h1
                    · rename_i τb hb2
                      cases h1
                      simp only [Ty.width] at h3
                      obtain ⟨z, hz⟩ := h2 f (by simp)
                      obtain ⟨y1, q1, q2⟩ := trod_RT n f.type τa ha m2 _ z hz
                      obtain ⟨y2, r1, r2⟩ := ih (off + τa.width) τb hb2 (fun g hg => h2 g (by simp [hg])) (by omega)
                      refine ⟨(y1, y2), ?_, q2, r2⟩
                      rw [RT]
                      refine ⟨fun _ => True, (cs.drop off).take τa.width, (cs.drop (off + τa.width)).take τb.width, ?_, ?_, ?_⟩
                      · simp only [Ty.width]
                        rw [List.take_add, List.drop_drop]
                      · rw [hbo, ← hbw] at q1
                        exact RT_mono τa q1 (fun k hk => ⟨hk, rfl⟩) (fun k hk => hk.elim)
                      · exact RT_mono τb r1 (fun k hk => ⟨hk, rfl⟩) (fun k hk => hk.elim)
                    · cases h1
                · cases h1
          obtain ⟨y, q1, q2⟩ := key fs.toList 0 τ hs (fun f hf2 => by
            obtain ⟨i, hi⟩ := List.getElem?_of_mem hf2
            have hi2 : fs[i]? = some f := by rw [← Array.getElem?_toList]; exact hi
            have hlt : i < xs.length := by rw [hxl]; exact (Array.getElem?_eq_some_iff.1 hi2).1
            exact ⟨_, (hf i f hi2).trans (List.getElem?_eq_getElem hlt)⟩) (by rw [hcl, hb]; omega)
          refine ⟨y, ?_, q2⟩
          rw [List.drop_zero, List.take_of_length_le (by rw [hcl, hb]; exact Nat.le_refl _)] at q1
          exact q1
      · cases ht
    · cases ht
/-- The shape of an argument. -/
def shP (P : Program) (n : Nat) (t : TypeId) : Option Sh :=
  match P.underlying t with
  | some (.struct _) => (tyP P n t).map .agg
  | _ => (tyP P n t).map .one
def shsP (P : Program) (n : Nat) : List TypeId → Option (List Sh)
  | [] => some []
  | t :: ts => match shP P n t, shsP P n ts with
    | some s, some ss => some (s :: ss)
    | _, _ => none
theorem trod_RSh {n : Nat} {t : TypeId} {s : Sh} (hs : shP P n t = some s) {r : Reach} {b0 : Nat} {v : Value} {d : DataW H} {ps : List MemPlace} (hv : Value.okWide P w r b0 t v) (hd : DataW.Trod enc P w 0 sp held t v d ps) :
    ∃ y : s.ty.den, RSh w (fun k => k < w.heap.size) false s (fun _ => False) v y ∧ WF s.ty y := by
  obtain ⟨m, hm⟩ := hd
  unfold shP at hs
  split at hs
  · rename_i fs hu
    rw [Option.map_eq_some_iff] at hs
    obtain ⟨τ, h1, rfl⟩ := hs
    obtain ⟨y, q1, q2⟩ := trod_RT n t τ h1 m _ _ hm
    unfold Value.okWide at hv
    rw [hu] at hv
    obtain ⟨cs, rfl, _⟩ := hv
    exact ⟨y, ⟨cs, rfl, q1⟩, q2⟩
  · rename_i hne
    rw [Option.map_eq_some_iff] at hs
    obtain ⟨τ, h1, rfl⟩ := hs
    obtain ⟨y, q1, q2⟩ := trod_RT n t τ h1 m _ _ hm
    have one : v.cells.toList = [v] ∧ τ.width = 1 := by
      cases n with
      | zero => cases h1
      | succ n =>
        unfold tyP at h1
        split at h1
        · rename_i hu
          cases h1
          obtain ⟨b, rfl⟩ := okWide_bool hu hv
          exact ⟨rfl, rfl⟩
        · rename_i k hu
          cases h1
          obtain ⟨b, rfl⟩ := okWide_int hu hv
          exact ⟨rfl, rfl⟩
        · rename_i hu
          cases h1
          obtain ⟨b, rfl⟩ := okWide_string hu hv
          exact ⟨rfl, rfl⟩
        · rename_i e hu
          split at h1
          · rename_i τe _
            cases hb : (Nat.beq τe.width (P.cellsOf e) && Nat.ble 1 τe.width) with
            | false => rw [hb] at h1; cases h1
            | true =>
              rw [hb, cond_true] at h1
              cases h1
              obtain ⟨a, len, cap, rfl⟩ := okWide_slice hu hv
              exact ⟨rfl, rfl⟩
          · cases h1
        · rename_i fs hu
          exact absurd hu (hne fs)
        · cases h1
    rw [one.1] at q1
    exact ⟨y, ⟨one.2, q1⟩, q2⟩
theorem trod_RArgs {n : Nat} : ∀ {ts : List TypeId} {ss : List Sh}, shsP P n ts = some ss → ∀ {r : Reach} {b0 : Nat} {vs : List Value} {ds : List (DataW H)} {ps : List MemPlace}, (∀ (j : Nat) t v, ts[j]? = some t → vs[j]? = some v → Value.okWide P w r b0 t v) → DataW.TrodAll enc P w 0 sp held ts vs ds ps →
    ∃ y : Shs.den ss, RArgs w (fun k => k < w.heap.size) ss vs y ∧ WFs ss y
  | [], ss, hs, r, b0, vs, ds, ps, hv, hd => by
    cases hs
    cases vs with
    | nil => exact ⟨(), rfl, trivial⟩
    | cons v vs => cases ds <;> exact hd.elim
  | t :: ts, ss, hs, r, b0, vs, ds, ps, hv, hd => by
    unfold shsP at hs
    split at hs
    · rename_i s sr h1 h2
      cases hs
      cases vs with
      | nil => exact hd.elim
      | cons v vs =>
        cases ds with
        | nil => exact hd.elim
        | cons d ds =>
          obtain ⟨p, q, h3, h4, _⟩ := hd
          obtain ⟨y1, e1, e2⟩ := trod_RSh h1 (hv 0 t v rfl rfl) h3
          obtain ⟨y2, f1, f2⟩ := trod_RArgs h2 (fun j t v h5 h6 => hv (j + 1) t v (by simpa using h5) (by simpa using h6)) h4
          exact ⟨(y1, y2), ⟨v, vs, rfl, e1, f1⟩, e2, f2⟩
    · cases hs
end
section
variable {H : Type} {enc : TypeId × Value → H} {P : Program} {W W' : World}
/-- What could be read can be read as it was, where no old block has turned. -/
theorem trodAll_below (hl : laidOutB P = true) (hb : Below W.heap.size W W') : ∀ {ts : List TypeId} {vs : List Value} {ds : List (DataW H)} {ps : List MemPlace}, (∀ t ∈ ts, P.readableRec t = true ∧ t < P.types.size) → DataW.TrodAll enc P W 0 (fun _ => true) true ts vs ds ps →
    DataW.TrodAll enc P W' 0 (fun b => decide (b < W.heap.size)) true ts vs ds ps
  | [], [], [], ps, _, h => h
  | [], [], _ :: _, _, _, h => h.elim
  | [], _ :: _, _, _, _, h => h.elim
  | _ :: _, [], _, _, _, h => h.elim
  | _ :: _, _ :: _, [], _, _, h => h.elim
  | t :: ts, v :: vs, d :: ds, ps, hr, h => by
    obtain ⟨p, q, h1, h2, h3⟩ := h
    obtain ⟨r1, r2⟩ := hr t (by simp)
    have hlt : ∀ x ∈ p, x.block < W.heap.size := by obtain ⟨m, hm⟩ := h1; exact DataW.trod_lt m _ _ _ hm
    exact ⟨p, q, Below.trod hl r1 r2 h1 hb hlt, trodAll_below hl hb (fun t ht => hr t (by simp [ht])) h2, h3⟩
theorem trodVars_below (hl : laidOutB P = true) (hb : Below W.heap.size W W') : ∀ {ns : List String} {gs : List (DataW H)} {ps : List MemPlace}, (∀ n ∈ ns, ∀ g t, P.globalNamed n = some g → (P.globals[g]?).map (·.type) = some t → P.readableRec t = true ∧ t < P.types.size) → DataW.TrodVars enc P W (fun _ => true) ns gs ps →
    DataW.TrodVars enc P W' (fun b => decide (b < W.heap.size)) ns gs ps
  | [], [], ps, _, h => h
  | [], _ :: _, _, _, h => h.elim
  | _ :: _, [], _, _, h => h.elim
  | n :: ns, d :: gs, ps, hr, h => by
    obtain ⟨g, t, cs, fuel, p, q, h1, h2, h3, h4, h5, h6⟩ := h
    obtain ⟨r1, r2⟩ := hr n (by simp) g t h1 h2
    have hlt : ∀ x ∈ p, x.block < W.heap.size := DataW.trod_lt fuel _ _ _ h4
    obtain ⟨fuel2, h7⟩ := Below.trod hl r1 r2 (v := .agg cs) ⟨fuel, h4⟩ hb hlt
    refine ⟨g, t, cs, fuel2, p, q, h1, h2, ?_, h7, trodVars_below hl hb (fun n hn => hr n (by simp [hn])) h5, h6⟩
    unfold World.var? at h3 ⊢
    rw [h1] at h3 ⊢
    simp only [Option.bind_some] at h3 ⊢
    have hg : g < W.heap.size := by
      rcases Nat.lt_or_ge g W.heap.size with h8 | h8
      · exact h8
      · rw [Array.getElem?_eq_none h8] at h3; cases h3
    rw [hb.block g hg]; exact h3
/-- A LAW OVER ITS CONTRACTS: for all arguments that can be read some contract answers true: then it returns true, and all reads as before. -/
theorem law_frame {ss : List Sh} {X : Nat → Shs.den ss → Option Bool} {f : FuncId} {fn : Func} {gl : Nat → Option (List D)} {n : Nat} (hX : ∀ N, PFun P gl f ss (.one (.one .bool)) (X N)) (hpure : ∀ x, WFs ss x → ∃ N, X N x = some true) (hgl : ∀ (w : World) (S : Nat → Prop), GlOk gl w S)
    (hl : laidOutB P = true) (has : shsP P n fn.params.toList = some ss) (hr : ∀ t ∈ fn.params.toList, P.readableRec t = true ∧ t < P.types.size) {spec : ChangeSpec} (hvr : ∀ n ∈ spec.vars, ∀ g t, P.globalNamed n = some g → (P.globals[g]?).map (·.type) = some t → P.readableRec t = true ∧ t < P.types.size)
    {tb : TypeId} (hres : fn.resultTypes.toList = [tb]) (htb : P.underlying tb = some .bool) {r : Reach} {b0 : Nat} {args : Array Value} {ds gs : List (DataW H)} {before : List MemPlace}
    (hval : ∀ (j : Nat) t v, fn.params[j]? = some t → args[j]? = some v → Value.okWide P W r b0 t v) (hW : DataW.Whole enc P fn.params.toList spec.vars false W args.toList ds gs before) (hspec : spec.fn H (ds ++ gs) = { results := [.lit (.bool true)], args := ds, vars := gs }) :
    Calls P f args W fun e W' => ∃ v, e = .returned v ∧ spec.post enc P fn false true false false W args v W' := by
  obtain ⟨p, q, hA, hV, hpq, hfz, hnd⟩ := hW
  obtain ⟨x, h1, h2⟩ := trod_RArgs has (fun j t v h3 h4 => hval j t v (by rw [← Array.getElem?_toList]; exact h3) (by rw [← Array.getElem?_toList]; exact h4)) hA
  obtain ⟨N, hN⟩ := hpure x h2
  refine ((hX N).call W (fun k => k < W.heap.size) args x true (fun k hk => hk) (hgl _ _) h1 hN).mono fun e W' h => ?_
  obtain ⟨v, ok, rfl, hb, _, hv⟩ := h
  obtain ⟨_, hv⟩ := hv
  rw [RT] at hv
  simp only [List.cons.injEq, and_true] at hv
  subst hv
  have hrs : fn.resultTypes.size = 1 := by rw [← Array.length_toList, hres]; rfl
  refine ⟨_, rfl, ds, gs, before, [], p, q, ⟨p, q, hA, hV, hpq, hfz, hnd⟩, ?_, ?_, ?_, hb.frame _, fun h => by cases h⟩
  · rw [hspec, hres, hrs]
    exact trodAll_mk1 (shut_bool htb true)
  · rw [hspec]; exact trodAll_below hl hb hr hA
  · rw [hspec]; exact trodVars_below hl hb hvr hV
end
end Go.Eng
/- What the evaluator's setting says of the program, checked. -/
namespace Go.Eng
open Go.RowKit
set_option linter.unusedVariables false
def descB (P : Program) (t : TypeId) (i : TI) : Bool :=
  match i.kind with
  | .cell => match P.underlying t with
    | some d => (match d with | .struct _ | .array _ _ => false | .interface _ => false | _ => true) &&
        (match i.ty, d with | .int k, .int k2 => decide (k2 = k) | .str, .string => true | .bool, .bool => true | .int _, _ => false | .str, _ => false | .bool, _ => false | _, _ => true)
    | none => false
  | .iface => match P.underlying t with | some (.interface _) => true | _ => false
  | .slice e => match P.underlying t with | some (.slice e2) => Nat.beq e e2 | _ => false
  | .struct fs => match P.underlying t with
    | some (.struct fields) => Nat.beq fields.size fs.length && (List.range fs.length).all fun j => match fields[j]?, fs[j]? with
      | some f, some b => Nat.beq f.offset b.1 && (match P.info? f.type with | some q => Nat.beq q.size b.2.1 | none => false) &&
          (match P.underlying f.type with | some d => (match d with | .struct _ | .array _ _ => b.2.2 | _ => !b.2.2) | none => false)
      | _, _ => false
    | _ => false
theorem descOk {P : Program} {t : TypeId} {i : TI} (h : descB P t i = true) : match i.kind with
    | .cell => ∃ d, P.underlying t = some d ∧ (match d with | .struct _ | .array _ _ => False | _ => True) ∧ (∀ k, i.ty = .int k → d = .int k) ∧ (i.ty = .str → d = .string) ∧ (i.ty = .bool → d = .bool) ∧ (∀ ms, d = .interface ms → False)
    | .iface => ∃ ms, P.underlying t = some (.interface ms)
    | .slice e => P.underlying t = some (.slice e)
    | .struct fs => ∃ fields : Array Field, P.underlying t = some (.struct fields) ∧ fields.size = fs.length ∧ ∀ (j : Nat) f, fields[j]? = some f → ∃ b, fs[j]? = some (f.offset, b) ∧ (P.info? f.type).map (·.size) = some b.1 ∧ ∃ d, P.underlying f.type = some d ∧ b.2 = (match d with | .struct _ | .array _ _ => true | _ => false) := by
  unfold descB at h
  split at h
  · rename_i hk
    split at h
    · rename_i d hd
      rw [Bool.and_eq_true] at h
      refine ⟨d, hd, ?_, fun k e => ?_, fun e => ?_, fun e => ?_, fun ms e => ?_⟩
      · have := h.1
        split at this <;> first | cases this | skip
        all_goals (split <;> first | trivial | (simp_all; done))
      · have := h.2; rw [e] at this; cases d <;> first | (rw [of_decide_eq_true this]; done) | cases this
      · have := h.2; rw [e] at this; cases d <;> first | rfl | cases this
      · have := h.2; rw [e] at this; cases d <;> first | rfl | cases this
      · subst e; have := h.1; cases this
    · cases h
  · split at h
    · rename_i ms hms; exact ⟨ms, hms⟩
    · cases h
  · split at h
    · rename_i e2 he; rw [Nat.eq_of_beq_eq_true h]; exact he
    · cases h
  · split at h
    · rename_i fields hf
      simp only [Bool.and_eq_true, List.all_eq_true, List.mem_range] at h
      refine ⟨fields, hf, Nat.eq_of_beq_eq_true h.1, fun j f hj => ?_⟩
      have hlt : j < fields.size := (Array.getElem?_eq_some_iff.1 hj).1
      have := h.2 j (by rw [← Nat.eq_of_beq_eq_true h.1]; exact hlt)
      rw [hj] at this
      split at this
      · rename_i f2 b e1 hb
        cases e1
        simp only [Bool.and_eq_true] at this
        obtain ⟨⟨h1, h2⟩, h3⟩ := this
        refine ⟨b.2, ?_, ?_, ?_⟩
        · rw [hb, Nat.eq_of_beq_eq_true h1]
        · split at h2
          · rename_i q hq; rw [hq, ← Nat.eq_of_beq_eq_true h2]; rfl
          · cases h2
        · split at h3
          · rename_i d hd
            refine ⟨d, hd, ?_⟩
            split at h3 <;> simp_all
          · cases h3
      · cases this
    · cases h
/-- What is told of a type, checked: its zero value is looked at besides. -/
def tiB (P : Program) (t : TypeId) (i : TI) : Bool :=
  (match P.info? t with | some j => Nat.beq j.size i.size && Nat.beq j.bytes i.bytes | none => false) && Nat.beq i.zero.length i.size && descB P t i
theorem TIok.of {P : Program} {t : TypeId} {i : TI} (h : tiB P t i = true) (hz : (P.info? t).bind (fun j => j.zero.map fun v => v.cells.toList) = some i.zero) (hq : Eng.zeros i.ty = i.zero) : TIok P t i := by
  unfold tiB at h
  simp only [Bool.and_eq_true] at h
  obtain ⟨⟨h1, h2⟩, h3⟩ := h
  refine ⟨?_, descOk h3, Nat.eq_of_beq_eq_true h2, hq⟩
  split at h1
  · rename_i j hj
    rw [hj] at hz ⊢
    simp only [Bool.and_eq_true] at h1
    simp only [Option.bind_some] at hz
    simp only [Option.map_some, hz, Nat.eq_of_beq_eq_true h1.1, Nat.eq_of_beq_eq_true h1.2]
  · cases h1
theorem eqt_of {P : Program} {t : TypeId} {ks : List CK} (h1 : eqKinds P 64 t = some ks) (h2 : (match P.underlying t with | some (.struct _) => true | _ => false) = true) (h3 : P.eqGuardType P.depth t = false) :
    eqKinds P 64 t = some ks ∧ (∃ fs, P.underlying t = some (.struct fs)) ∧ P.eqGuardType P.depth t = false := by
  refine ⟨h1, ?_, h3⟩
  split at h2
  · rename_i fs hf; exact ⟨fs, hf⟩
  · cases h2
end Go.Eng
