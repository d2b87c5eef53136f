/- Part of the proof: the evaluator of typed functions, and that its answers are the contracts of the calls. -/
import Derived.Test.YtadefgfohmkheaaGreatDoorE2
import Derived.Laws.AppendOwn
import Derived.Laws.MakeOwn
/- Stores. -/
namespace Go.Eng
open Go.RowKit
open Classical
set_option linter.unusedVariables false
set_option linter.unusedSimpArgs false
set_option linter.unusedSectionVars false
theorem one_cell {v : Value} (h : one v = true) : v.oneCell' = true := by cases v <;> first | rfl | cases h
theorem run_u {P : Program} {x : Sem Unit} {w w' : World} (h : x.run P w = .ok () w') : (do x; pure Next.skip : Sem Next).run P w = .ok .skip w' := by
  rw [Sem.run_bind, h]; rfl
theorem run_storeAt {P : Program} {t e : TypeId} {i : TI} (hi : TIok P t i) {w : World} {g off : Nat} {arr : Array Value} {v : Value} (hb : w.heap[g]? = some (.cells arr e (0, 0))) (hsz : v.cells.toList.length = i.size) (hle : off + i.size ≤ arr.size) (h1 : ∀ u ∈ v.cells.toList, one u = true) :
    (Instr.storeAt t (.pointer (some ⟨g, off, none⟩)) v).run P w = .ok () (w.setRow g (arr.toList.take off ++ v.cells.toList ++ arr.toList.drop (off + v.cells.toList.length)).toArray) := by
  unfold Instr.storeAt
  simp only [Instr.sureAddr, Sem.run_bind, Sem.run_pure, Result.andThen_ok]
  unfold storeVar
  simp only [Sem.run_bind, hi.size_of w, Result.andThen_ok]
  rw [if_neg (by rw [← hsz]; simp)]
  have := run_storeCells_at (P := P) g off e v.cells.toList 0 arr w hb (by omega) (fun u hu => one_cell (h1 u hu))
  simpa using this
/-- Nothing of it is owned: it may be told as owned. -/
theorem RT_toOwn {w : World} {S : Nat → Prop} : ∀ (t : Ty) {ok ok' : Nat → Prop} {cs : List Value} {x : t.den}, t.strip = t → RT w S false t ok cs x → RT w S true t ok' cs x
  | .int _, _, _, _, _, _, h => by rw [RT] at h ⊢; exact h
  | .bool, _, _, _, _, _, h => by rw [RT] at h ⊢; exact h
  | .str, _, _, _, _, _, h => by rw [RT] at h ⊢; exact h
  | .unit, _, _, _, _, _, h => by rw [RT] at h ⊢; exact h
  | .pair a b, _, _, _, _, hs, h => by
    rw [RT] at h ⊢
    simp only [Ty.strip, Ty.pair.injEq] at hs
    obtain ⟨p, c1, c2, e, h1, h2⟩ := h
    exact ⟨p, c1, c2, e, RT_toOwn a hs.1 h1, RT_toOwn b hs.2 h2⟩
  | .sl own t, _, _, _, _, hs, h => by
    simp only [Ty.strip, Ty.sl.injEq] at hs
    have : own = false := hs.1.symm
    subst this
    exact RT_frz h
theorem oneOwn_lt : ∀ (t : Ty) {c : Nat}, oneOwn t c = true → c < t.width
  | .unit, _, h => by cases h
  | .int k, _, h => by cases h
  | .bool, _, h => by cases h
  | .str, _, h => by cases h
  | .sl false t, _, h => by cases h
  | .sl true t, c, h => by
    simp only [oneOwn] at h
    rw [Nat.eq_of_beq_eq_true h]; exact Nat.zero_lt_one
  | .pair a b, c, h => by
    simp only [oneOwn] at h
    simp only [Ty.width]
    cases hb : Nat.ble a.width c with
    | true =>
      rw [hb, cond_true, Bool.and_eq_true] at h
      have := oneOwn_lt b h.2
      have := Nat.le_of_ble_eq_true hb
      omega
    | false =>
      rw [hb, cond_false, Bool.and_eq_true] at h
      have := oneOwn_lt a h.1
      omega
theorem RT_put1 {w : World} {S : Nat → Prop} {s : Ty} {l : List s.den} {ok2 : Nat → Prop} {v : Value} (hs : RT w S true (.sl true s) ok2 [v] l) : ∀ (t : Ty) {ok : Nat → Prop} {cs : List Value} {x y : t.den} {c : Nat}, c < t.width → RT w S false t ok cs x → oneOwn t c = true → putSl s l t x c = some y →
    RT w S true t ok2 (cs.set c v) y
  | .unit, _, _, _, _, _, hc, h, hd, hp => by cases hp
  | .int k, _, _, _, _, _, hc, h, hd, hp => by cases hp
  | .bool, _, _, _, _, _, hc, h, hd, hp => by cases hp
  | .str, _, _, _, _, _, hc, h, hd, hp => by cases hp
  | .sl false t, _, _, _, _, _, hc, h, hd, hp => by cases hp
  | .sl true t, ok, cs, x, y, c, hc, h, hd, hp => by
    simp only [putSl] at hp
    split at hp
    · rename_i e
      subst e
      cases hp
      have hc0 : c = 0 := by simp only [Ty.width] at hc; omega
      subst hc0
      have hl := RT_len _ h
      obtain ⟨u, rfl⟩ := List.length_eq_one_iff.1 hl
      exact hs
    · cases hp
  | .pair a b, ok, cs, x, y, c, hc, h, hd, hp => by
    rw [RT] at h
    obtain ⟨p, c1, c2, rfl, h1, h2⟩ := h
    have w1 := RT_len a h1
    simp only [putSl] at hp
    simp only [oneOwn] at hd
    cases hb : Nat.ble a.width c with
    | true =>
      have hge := Nat.le_of_ble_eq_true hb
      rw [hb, cond_true] at hp hd
      simp only [Bool.and_eq_true, decide_eq_true_eq] at hd
      split at hp
      · rename_i y2 h3
        cases hp
        have := RT_put1 hs b (by simp only [Ty.width] at hc; omega) h2 hd.2 h3
        rw [List.set_append_right _ _ (by omega), w1, RT]
        exact ⟨fun _ => False, _, _, rfl, RT_toOwn a hd.1 h1, RT_mono b this (fun k hk => ⟨hk, rfl⟩) (fun k hk => ⟨⟨hk, fun h => h⟩, rfl⟩)⟩
      · cases hp
    | false =>
      have hlt : c < a.width := by
        rcases Nat.lt_or_ge c a.width with h3 | h3
        · exact h3
        · rw [Nat.ble_eq_true_of_le h3] at hb; cases hb
      rw [hb, cond_false] at hp hd
      simp only [Bool.and_eq_true, decide_eq_true_eq] at hd
      split at hp
      · rename_i y2 h3
        cases hp
        have := RT_put1 hs a hlt h1 hd.1 h3
        rw [List.set_append_left _ _ (by omega), RT]
        exact ⟨fun _ => True, _, _, rfl, RT_mono a this (fun k hk => ⟨hk, rfl⟩) (fun k hk => ⟨⟨hk, trivial⟩, rfl⟩), RT_toOwn b hd.2 h2⟩
      · cases hp
section
variable {P : Program} {c : Cfg} {h : Hint} {S0 : Nat → Prop} {base : Nat → Prop} {w w' : World} {L : Nat → Nat} {β : Nat → Real} {H : List E} {a : Act} {T : List (Nat × D)} {o : Oper} {R : Type} {r : R} {K : List (Nat × D) → List E → D → Option R}
/-- An entry's own blocks are written; blocks that were nobody's become its own. -/
theorem Rel.claim (hr : Rel S0 base w L β H) {id : Nat} {e : E} {ok : Nat → Prop} (hok : ∀ k, ok k → L k = 1) (hid : id < H.length) (hw : ∀ k, L k ≠ id + 2 → w'.heap[k]? = w.heap[k]?) (hsz : w'.heap.size = w.heap.size)
    (he : RE w' (stab S0 base w' fun k => if ok k then id + 2 else L k) β (fun k => (if ok k then id + 2 else L k) = id + 2) (β id) e) :
    Rel S0 base w' (fun k => if ok k then id + 2 else L k) β (H.set id e) ∧ ∀ k, stab S0 base w L k → stab S0 base w' (fun k => if ok k then id + 2 else L k) k ∧ w'.heap[k]? = w.heap[k]? := by
  have h0 : ∀ k, L k = 0 → (if ok k then id + 2 else L k) = 0 := fun k hk => by
    rw [if_neg (fun h => by have := hok k h; omega)]
    exact hk
  have hst : ∀ k, stab S0 base w L k → stab S0 base w' (fun k => if ok k then id + 2 else L k) k ∧ w'.heap[k]? = w.heap[k]? := fun k hk => ⟨⟨hk.1, by rw [hsz]; exact hk.2.1, h0 k hk.2.2⟩, hw k (by rw [hk.2.2]; omega)⟩
  refine ⟨⟨fun k hk => by rw [hsz]; exact hr.base_le k hk, fun k hk => h0 k (hr.low k hk), fun k hk => h0 k (hr.hi k (by rw [← hsz]; exact hk)), fun k => ?_, fun i hi => hr.non i (by simpa using hi), fun i e2 he2 => ?_⟩, hst⟩
  · have := hr.top k
    simp only [List.length_set]
    split <;> omega
  · rw [List.getElem?_set] at he2
    split at he2
    · rename_i hi
      subst hi
      cases he2
      exact he
    · rename_i hi
      refine RE_grow (hr.ent i e2 he2) hst (fun k hk => ⟨?_, hw k (by omega)⟩) (fun _ _ => rfl)
      show (if ok k then id + 2 else L k) = i + 2
      rw [if_neg (fun h => by have := hok k h; omega)]
      exact hk
/-- The row whose turn it is comes to own its slice. -/
theorem mix_store (hr : Rel S0 base w L β H) {id id2 j q : Nat} {t s : Ty} {l : List t.den} {l2 : List s.den} {x0 y0 : t.den} {u : Value} {ad : Addr} {n cap wd : Nat} (hH : H[id]? = some (.mix t l j)) (hH2 : H[id2]? = some (.arr s l2)) (hx0 : l[j]? = some x0) (h1 : oneOwn t q = true) (hq : q < t.width) (hp : putSl s l2 t x0 q = some y0) (hu : RD w (stab S0 base w L) β u (.ow id2)) (hβ : β id = .arr (some ad) n cap wd) :
    ∃ (g st : Nat) (arr : Array Value) (ty : TypeId), ad = ⟨g, st, none⟩ ∧ wd = t.width ∧ w.heap[g]? = some (.cells arr ty (0, 0)) ∧ st + (j * t.width + q) + 1 ≤ arr.size ∧ ∃ L2, Rel S0 base (w.setRow g (arr.toList.set (st + (j * t.width + q)) u).toArray) L2 β ((H.set id2 .dead).set id (.mix t (l.set j y0) (j + 1))) ∧
      (∀ k, stab S0 base w L k → stab S0 base (w.setRow g (arr.toList.set (st + (j * t.width + q)) u).toArray) L2 k ∧ (w.setRow g (arr.toList.set (st + (j * t.width + q)) u).toArray).heap[k]? = w.heap[k]?) ∧ Bel base w (w.setRow g (arr.toList.set (st + (j * t.width + q)) u).toArray) := by
  have hidl : id < H.length := (List.getElem?_eq_some_iff.1 hH).1
  have hne : id2 ≠ id := fun e => by rw [e, hH] at hH2; cases hH2
  obtain ⟨A, cap2, hre, hlc, hnl, hrow⟩ := hr.ent id _ hH
  rw [hβ] at hre
  cases hre
  have hjl : j < l.length := (List.getElem?_eq_some_iff.1 hx0).1
  rcases hrow with ⟨hA, _⟩ | ⟨g, st, arr, ty, lab, hA, hok, hbk, hf, hrow⟩
  · cases hA
  · cases hA
    have hlast : (j + 1) * t.width ≤ cap * t.width := Nat.mul_le_mul_right _ (by omega)
    rw [Nat.add_mul, Nat.one_mul] at hlast
    have hoff : st + (j * t.width + q) < arr.size := by omega
    have hok : L g = id + 2 := hok
    have hsame : ∀ k, k ≠ g → (w.setRow g (arr.toList.set (st + (j * t.width + q)) u).toArray).heap[k]? = w.heap[k]? := fun k hk => setRow_other w g k _ hk
    have h0 : ∀ k, L k = 0 → (if L k = id2 + 2 then id + 2 else L k) = 0 := fun k hk => by rw [if_neg (by omega)]; exact hk
    have hst : ∀ k, stab S0 base w L k → stab S0 base (w.setRow g (arr.toList.set (st + (j * t.width + q)) u).toArray) (fun k => if L k = id2 + 2 then id + 2 else L k) k ∧ (w.setRow g (arr.toList.set (st + (j * t.width + q)) u).toArray).heap[k]? = w.heap[k]? := fun k hk => ⟨⟨hk.1, by rw [setRow_size]; exact hk.2.1, h0 k hk.2.2⟩, hsame k (fun e => by have := hk.2.2; rw [e, hok] at this; omega)⟩
    have hbel : Bel base w (w.setRow g (arr.toList.set (st + (j * t.width + q)) u).toArray) := ⟨rfl, rfl, rfl, Nat.le_of_eq (setRow_size w g _).symm, fun k hk => hsame k (fun e => by have := hr.low k hk; rw [e, hok] at this; omega)⟩
    refine ⟨g, st, arr, ty, rfl, rfl, hbk, hoff, fun k => if L k = id2 + 2 then id + 2 else L k, ⟨fun k hk => by rw [setRow_size]; exact hr.base_le k hk, fun k hk => h0 k (hr.low k hk), fun k hk => h0 k (hr.hi k (by rw [setRow_size] at hk; exact hk)), fun k => ?_, fun i hi => hr.non i (by simpa using hi), fun i e2 he2 => ?_⟩, hst, hbel⟩
    · have := hr.top k
      simp only [List.length_set]
      split <;> omega
    · have hget : ∀ k, (arr.toList.set (st + (j * t.width + q)) u).toArray[k]? = if st + (j * t.width + q) = k then some u else arr[k]? := fun k => by
        rw [List.getElem?_toArray, List.getElem?_set]
        split
        · rename_i e
          rw [if_pos (by simpa using hoff)]
        · rw [Array.getElem?_toList]
      rw [List.getElem?_set] at he2
      split at he2
      · rename_i hi
        subst hi
        have hidl2 : id < (H.set id2 E.dead).length := by simpa using hidl
        simp only [hidl2, if_true, Option.some.injEq] at he2
        subst he2
        have hmem : ∀ k, L k = id + 2 → (if L k = id2 + 2 then id + 2 else L k) = id + 2 := fun k hk => by rw [if_neg (by omega)]; exact hk
        refine ⟨_, cap, by rw [List.length_set]; exact hβ, by rw [List.length_set]; exact hlc, by rw [List.length_set]; omega, .inr ⟨g, st, _, ty, fun k => if L k = id2 + 2 then j else lab k, rfl, hmem g hok, setRow_heap w g arr _ ty _ hbk, by simpa using hf, fun i y hy => ?_⟩⟩
        rw [List.getElem?_set] at hy
        split at hy
        · rename_i hij
          subst hij
          simp only [hjl, if_true, Option.some.injEq] at hy
          subst hy
          obtain ⟨c, c1, c2, c3⟩ := hrow j x0 hx0
          rw [if_neg (Nat.lt_irrefl j)] at c3
          refine ⟨c.set q u, by rw [List.length_set]; exact c1, fun q2 v hv => ?_, ?_⟩
          · rw [hget]
            rw [List.getElem?_set] at hv
            split at hv
            · rename_i e
              subst e
              rw [if_pos (by rw [c1]; exact hq)] at hv
              cases hv
              rw [if_pos rfl]
            · rename_i e
              rw [if_neg (by omega)]
              exact c2 q2 v hv
          · rw [if_pos (Nat.lt_succ_self j)]
            obtain ⟨A2, n2, cp, wd2, f1, f2⟩ := RD_ow hu
            obtain ⟨A3, cp3, f3, f4⟩ := hr.ent id2 _ hH2
            rw [f1] at f3
            cases f3
            rw [← f2] at f4
            have f5 := RT_put1 f4 t hq c3 h1 hp
            refine RT_mono t f5 hst (fun k hk => ?_)
            have hk : L k = id2 + 2 := hk
            have hkg : k ≠ g := fun e => by rw [e, hok] at hk; omega
            refine ⟨⟨by show (if L k = id2 + 2 then id + 2 else L k) = id + 2; rw [if_pos hk], hkg, by show (if L k = id2 + 2 then j else lab k) = j; rw [if_pos hk]⟩, hsame k hkg⟩
        · rename_i hij
          obtain ⟨c, c1, c2, c3⟩ := hrow i y hy
          refine ⟨c, c1, fun q2 v hv => ?_, ?_⟩
          · rw [hget]
            have hq2 : q2 < t.width := by rw [← c1]; exact (List.getElem?_eq_some_iff.1 hv).1
            rw [if_neg]
            · exact c2 q2 v hv
            · intro e
              rcases Nat.lt_or_ge i j with hlt | hge
              · have : (i + 1) * t.width ≤ j * t.width := Nat.mul_le_mul_right _ (by omega)
                rw [Nat.add_mul, Nat.one_mul] at this
                omega
              · have : (j + 1) * t.width ≤ i * t.width := Nat.mul_le_mul_right _ (by omega)
                rw [Nat.add_mul, Nat.one_mul] at this
                omega
          · have hlt : (i < j + 1) ↔ i < j := by omega
            by_cases hi : i < j
            · rw [if_pos hi] at c3
              rw [if_pos (by omega)]
              refine RT_mono t c3 hst (fun k hk => ⟨⟨hmem k hk.1, hk.2.1, ?_⟩, hsame k hk.2.1⟩)
              have h3 : L k = id + 2 := hk.1
              show (if L k = id2 + 2 then j else lab k) = i
              rw [if_neg (by omega)]; exact hk.2.2
            · rw [if_neg hi] at c3
              rw [if_neg (by omega)]
              exact RT_mono t c3 hst (fun k hk => hk.elim)
      · rename_i hi
        rw [List.getElem?_set] at he2
        split at he2
        · split at he2
          · cases he2; trivial
          · cases he2
        · rename_i hi2
          refine RE_grow (hr.ent i e2 he2) hst (fun k hk => ⟨?_, hsame k (fun e => by rw [e, hok] at hk; omega)⟩) (fun _ _ => rfl)
          show (if L k = id2 + 2 then id + 2 else L k) = i + 2
          rw [if_neg (by omega)]; exact hk
variable (hc : CfgOk P c) (hr : Rel S0 base w L β H) (hT : RTm w (stab S0 base w L) β a.tmps T) (hg : GlOk c.gl w (stab S0 base w L))
include hc hr hT hg
theorem k_store {t : TypeId} {x y : Operand} (ho : o.op = .store t x y) (h : opK c h o T H K = some r) : ∃ T2 H2 d, K T2 H2 d = some r ∧ KOk P c.nfix S0 base L β H o a w T2 H2 d := by
  unfold opK at h
  simp only [ho] at h
  split at h
  · rename_i i d v hi hd hv
    have hx := opd_RD hT hg hd
    have hy := opd_RD hT hg hv
    cases hb : (Nat.beq (dCells v).length i.size && Nat.ble 1 i.size) with
    | false => rw [hb] at h; cases h
    | true =>
      rw [hb, cond_true] at h
      simp only [Bool.and_eq_true] at hb
      have hb1 := Nat.eq_of_beq_eq_true hb.1
      have hb2 := Nat.le_of_ble_eq_true hb.2
      obtain ⟨v1, v2, v3⟩ := RD_cells hy (by intro e; rw [e] at hb1; simp at hb1; omega)
      have hC : CR w (stab S0 base w L) β (a.eval y).cells.toList (dCells v) := ⟨v1, v2, v3⟩
      have pre : ∀ ad w', (Instr.storeAt t (.pointer (some ad)) (a.eval y)).run P w = .ok () w' → a.eval x = .pointer (some ad) → (execOp a.eval o).run P w = .ok .skip w' := fun ad w' e e2 => by
        unfold execOp
        simp only [ho, e2]
        exact run_u e
      unfold stK at h
      split at h
      · rename_i id off
        obtain ⟨g, h1, e1⟩ := RD_bp hx
        split at h
        · rename_i cs hH
          cases hle : Nat.ble (off + (dCells v).length) cs.length with
          | false => rw [hle] at h; cases h
          | true =>
            rw [hle, cond_true] at h
            have hle := Nat.le_of_ble_eq_true hle
            refine ⟨_, _, _, h, ?_⟩
            obtain ⟨g2, arr, ty, hre, hok, hbk, hl, ho1, hcs⟩ := hr.ent id _ hH
            rw [hre] at h1
            cases h1
            have hCs : CR w (stab S0 base w L) β arr.toList cs := ⟨by simpa using hl, fun u hu => by
                obtain ⟨i2, hi2⟩ := List.getElem?_of_mem hu
                exact ho1 i2 u (by simpa using hi2), fun i u d hu hd => hcs i u d (by simpa using hu) hd⟩
            have hrun := run_storeAt (hc.ti t i hi) (v := a.eval y) (off := off) hbk (by rw [v1, hb1]) (by omega) v2
            have hsame : ∀ k, k ≠ g → (w.setRow g (arr.toList.take off ++ (a.eval y).cells.toList ++ arr.toList.drop (off + (a.eval y).cells.toList.length)).toArray).heap[k]? = w.heap[k]? := fun k hk => setRow_other w g k _ hk
            have hst0 : ∀ k, stab S0 base w L k → stab S0 base (w.setRow g (arr.toList.take off ++ (a.eval y).cells.toList ++ arr.toList.drop (off + (a.eval y).cells.toList.length)).toArray) L k ∧ (w.setRow g (arr.toList.take off ++ (a.eval y).cells.toList ++ arr.toList.drop (off + (a.eval y).cells.toList.length)).toArray).heap[k]? = w.heap[k]? := fun k hk => ⟨⟨hk.1, by rw [setRow_size]; exact hk.2.1, hk.2.2⟩, hsame k (fun e => by have := hk.2.2; rw [e, hok] at this; omega)⟩
            have hset : CR w (stab S0 base w L) β (arr.toList.take off ++ (a.eval y).cells.toList ++ arr.toList.drop (off + (a.eval y).cells.toList.length)) (setCells cs off (dCells v)) := by
              rcases CR_sets off hCs hC with h9 | h9
              · exact h9
              · exact absurd (by simp at v1 ⊢; omega) h9
            obtain ⟨q1, q2⟩ := hr.write (id := id) (e := .box (setCells cs off (dCells v))) (fun k hk => hsame k (fun e => hk (by rw [e]; exact hok))) (setRow_size w g _) ⟨g, _, ty, hre, hok, setRow_heap w g arr _ ty _ hbk, by simpa using hset.1, fun i u hu => hset.2.1 u (by rw [List.getElem?_toArray] at hu; exact List.mem_of_getElem? hu), fun i u d hu hd => RD_grow (hset.2.2 i u d (by simpa using hu) hd) hst0 (fun _ _ => rfl)⟩
            refine KOk.of_skip (pre _ _ hrun e1) ⟨q1, hT.mono fun v d h => RD_grow h q2 (fun _ _ => rfl), .tup rfl (fun i x d hx => by simp at hx), q2, ?_, fun _ _ _ => rfl⟩
            refine ⟨rfl, rfl, rfl, Nat.le_of_eq (setRow_size w g _).symm, fun k hk => hsame k (fun e => ?_)⟩
            have := hr.low k hk
            rw [e, hok] at this
            omega
        · cases h
      · rename_i id j q
        obtain ⟨ad, n, cap, wd, h1, e1⟩ := RD_ap hx
        split at h
        · rename_i t2 l hH
          cases hlt : Nat.blt q t2.width with
          | false => rw [hlt] at h; cases h
          | true =>
            rw [hlt] at h
            simp only [Bool.not_true, cond_false] at h
            have hlt : q < t2.width := Nat.lt_of_lt_of_le (Nat.lt_succ_self q) (Nat.le_of_ble_eq_true hlt)
            rw [Option.bind_eq_some_iff] at h
            obtain ⟨x0, hx0, h⟩ := h
            split at h
            · rename_i y0 H2 hmv
              split at h
              · rename_i t3 l3 hH2
                refine ⟨_, _, _, h, ?_⟩
                obtain ⟨A, cap2, hre, hrt⟩ := hr.ent id _ hH
                rw [hre] at h1
                cases h1
                have hrt0 := hrt
                rw [RT] at hrt
                obtain ⟨A2, cap3, hA, hlc, hrt⟩ := hrt
                simp only [List.cons.injEq, Value.slice.injEq, and_true] at hA
                obtain ⟨rfl, _, rfl⟩ := hA
                rw [if_pos (show (true && true) = true from rfl)] at hrt
                rcases hrt with ⟨hA, _⟩ | ⟨g, st, arr, ty, lab, hA, hok, hbk, hf, hrow⟩
                · cases hA
                · cases hA
                  obtain ⟨cs, c1, c2, c3⟩ := hrow j x0 hx0
                  have hng : ¬ Gone H2 id := by
                    rintro (h | ⟨_, _, h⟩) <;> rw [hH2] at h <;> cases h
                  obtain ⟨L2, okm, m1, m2, m3, m4, m5, m6⟩ := mvCells_sound t2 (id + 2) hr c3 hC (.inl hlt) hmv (fun k hk => hk.1) (fun i2 h2 e => hng (by rw [show id = i2 by omega]; exact h2))
                  have hdl : (dCells v).length ≤ t2.width - q := by
                    have : ((dCells v).drop (t2.width - q)).length = 0 := by rw [← m5]; rfl
                    simp at this; omega
                  have hjl : j < l.length := (List.getElem?_eq_some_iff.1 hx0).1
                  have hlast : st + (j * t2.width + t2.width) ≤ arr.size := by
                    have : (j + 1) * t2.width ≤ cap * t2.width := Nat.mul_le_mul_right _ (by omega)
                    rw [Nat.add_mul, Nat.one_mul] at this
                    omega
                  rw [add_at] at e1
                  have hus : (a.eval y).cells.toList.length = i.size := by rw [v1, hb1]
                  have hrun := run_storeAt (hc.ti t i hi) (v := a.eval y) (off := st + (j * t2.width + q)) hbk hus (by omega) v2
                  generalize hus2 : (a.eval y).cells.toList = us at *
                  have hle2 : us.length ≤ t2.width - q := by rw [v1]; exact hdl
                  have hL2id : ∀ k, L k = id + 2 → L2 k = id + 2 := fun k hk => by
                    rcases m2.alt k with h | ⟨i2, h2, h3⟩
                    · rw [h]; exact hk
                    · exact absurd (by rw [show id = i2 by omega]; exact h3) hng
                  have hnok : ∀ k, L k = id + 2 → ¬ okm k := fun k hk h => by
                    obtain ⟨_, i2, h2, h3⟩ := m2.got k h
                    exact hng (by rw [show id = i2 by omega]; exact h3)
                  have hsame : ∀ k, k ≠ g → (w.setRow g (arr.toList.take (st + (j * t2.width + q)) ++ us ++ arr.toList.drop (st + (j * t2.width + q) + us.length)).toArray).heap[k]? = w.heap[k]? := fun k hk => setRow_other w g k _ hk
                  have hget : ∀ m, (arr.toList.take (st + (j * t2.width + q)) ++ us ++ arr.toList.drop (st + (j * t2.width + q) + us.length))[m]? = if m < st + (j * t2.width + q) then arr[m]? else if m < st + (j * t2.width + q) + us.length then us[m - (st + (j * t2.width + q))]? else arr[m]? := fun m => by
                    have l1 : (arr.toList.take (st + (j * t2.width + q))).length = st + (j * t2.width + q) := by simp; omega
                    rw [List.append_assoc, List.getElem?_append, l1]
                    split
                    · rename_i hm
                      rw [List.getElem?_take, if_pos hm, Array.getElem?_toList]
                    · rename_i hm
                      rw [List.getElem?_append]
                      split
                      · rename_i hm2
                        rw [if_pos (by omega)]
                      · rename_i hm2
                        rw [if_neg (by omega), List.getElem?_drop, Array.getElem?_toList]
                        congr 1
                        omega
                  have hstL : ∀ k, stab S0 base w L k → stab S0 base w L2 k := fun k hk => (stab_mv m2.zero k hk).1
                  have hst2 : ∀ k, stab S0 base w L2 k → stab S0 base (w.setRow g (arr.toList.take (st + (j * t2.width + q)) ++ us ++ arr.toList.drop (st + (j * t2.width + q) + us.length)).toArray) (fun k => if okm k then id + 2 else L2 k) k ∧ (w.setRow g (arr.toList.take (st + (j * t2.width + q)) ++ us ++ arr.toList.drop (st + (j * t2.width + q) + us.length)).toArray).heap[k]? = w.heap[k]? := fun k hk => by
                    refine ⟨⟨hk.1, by rw [setRow_size]; exact hk.2.1, ?_⟩, hsame k (fun e => by have := hk.2.2; rw [e, hL2id g hok] at this; omega)⟩
                    show (if okm k then id + 2 else L2 k) = 0
                    rw [if_neg (fun h => by have := (m2.got k h).1; have := hk.2.2; omega)]
                    exact hk.2.2
                  have hent : RE (w.setRow g (arr.toList.take (st + (j * t2.width + q)) ++ us ++ arr.toList.drop (st + (j * t2.width + q) + us.length)).toArray) (stab S0 base (w.setRow g (arr.toList.take (st + (j * t2.width + q)) ++ us ++ arr.toList.drop (st + (j * t2.width + q) + us.length)).toArray) fun k => if okm k then id + 2 else L2 k) β (fun k => (if okm k then id + 2 else L2 k) = id + 2) (β id) (.arr t2 (l.set j y0)) := by
                    refine ⟨some ⟨g, st, none⟩, cap, by rw [hre, List.length_set], ?_⟩
                    rw [RT]
                    refine ⟨_, cap, rfl, by rw [List.length_set]; exact hlc, ?_⟩
                    rw [if_pos (show (true && true) = true from rfl)]
                    refine .inr ⟨g, st, _, ty, fun k => if okm k then j else lab k, rfl, ?_, setRow_heap w g arr _ ty _ hbk, by simp; omega, fun j2 x2 hx2 => ?_⟩
                    · show (if okm g then id + 2 else L2 g) = id + 2
                      split
                      · rfl
                      · exact hL2id g hok
                    · rw [List.getElem?_set] at hx2
                      split at hx2
                      · rename_i ej
                        subst ej
                        cases hx2
                        refine ⟨ov cs q us, by rw [ov_len]; exact c1, fun m u hu => ?_, RT_mono t2 m6 hst2 (fun k hk => ?_)⟩
                        · rw [ov_get] at hu
                          simp only [List.getElem?_toArray]
                          rw [hget]
                          cases hcm : cs[m]? with
                          | none => rw [hcm] at hu; cases hu
                          | some u0 =>
                            rw [hcm] at hu
                            simp only [Option.map_some, Option.some.injEq] at hu
                            have hc2 := c2 m u0 hcm
                            have hm : m < t2.width := by rw [← c1]; exact (List.getElem?_eq_some_iff.1 hcm).1
                            by_cases hmq : m < q
                            · rw [if_neg (by omega)] at hu
                              subst hu
                              rw [if_pos (by omega)]
                              exact hc2
                            · rw [if_pos (by omega)] at hu
                              rw [if_neg (by omega)]
                              by_cases hm2 : m - q < us.length
                              · rw [if_pos (by omega), show st + (j * t2.width + m) - (st + (j * t2.width + q)) = m - q by omega]
                                rw [List.getElem?_eq_getElem hm2] at hu ⊢
                                simp only [Option.getD_some] at hu
                                rw [hu]
                              · rw [if_neg (by omega)]
                                rw [List.getElem?_eq_none (by omega)] at hu
                                simp only [Option.getD_none] at hu
                                subst hu
                                exact hc2
                        · rcases hk with hk | hk
                          · refine ⟨⟨?_, hk.2.1, ?_⟩, hsame k hk.2.1⟩
                            · show (if okm k then id + 2 else L2 k) = id + 2
                              rw [if_neg (hnok k hk.1)]
                              exact hL2id k hk.1
                            · show (if okm k then j else lab k) = j
                              rw [if_neg (hnok k hk.1)]
                              exact hk.2.2
                          · have hkg : k ≠ g := fun e => hnok g hok (by rw [← e]; exact hk)
                            refine ⟨⟨?_, hkg, ?_⟩, hsame k hkg⟩
                            · show (if okm k then id + 2 else L2 k) = id + 2
                              rw [if_pos hk]
                            · show (if okm k then j else lab k) = j
                              rw [if_pos hk]
                      · rename_i ej
                        obtain ⟨cs2, d1, d2, d3⟩ := hrow j2 x2 hx2
                        refine ⟨cs2, d1, fun m u hu => ?_, RT_mono t2 d3 (fun k hk => hst2 k (hstL k hk)) (fun k hk => ?_)⟩
                        · simp only [List.getElem?_toArray]
                          rw [hget]
                          have hm : m < t2.width := by rw [← d1]; exact (List.getElem?_eq_some_iff.1 hu).1
                          have h2 := d2 m u hu
                          rcases Nat.lt_or_gt_of_ne ej with hj2 | hj2
                          · have : (j + 1) * t2.width ≤ j2 * t2.width := Nat.mul_le_mul_right _ (by omega)
                            rw [Nat.add_mul, Nat.one_mul] at this
                            rw [if_neg (by omega), if_neg (by omega)]
                            exact h2
                          · have : (j2 + 1) * t2.width ≤ j * t2.width := Nat.mul_le_mul_right _ (by omega)
                            rw [Nat.add_mul, Nat.one_mul] at this
                            rw [if_pos (by omega)]
                            exact h2
                        · refine ⟨⟨?_, hk.2.1, ?_⟩, hsame k hk.2.1⟩
                          · show (if okm k then id + 2 else L2 k) = id + 2
                            rw [if_neg (hnok k hk.1)]
                            exact hL2id k hk.1
                          · show (if okm k then j else lab k) = j2
                            rw [if_neg (hnok k hk.1)]
                            exact hk.2.2
                  obtain ⟨q1, q2⟩ := m1.claim (id := id) (ok := okm) (fun k hk => (m2.got k hk).1) (by exact (List.getElem?_eq_some_iff.1 hH2).1) (fun k hk => hsame k (fun e => hk (by rw [e]; exact hL2id g hok))) (setRow_size w g _) hent
                  refine KOk.of_skip (pre _ _ hrun e1) ⟨q1, hT.mono fun v d h => RD_grow h (fun k hk => q2 k (hstL k hk)) (fun _ _ => rfl), .tup rfl (fun i x d hx => by simp at hx), fun k hk => q2 k (hstL k hk), ?_, fun _ _ _ => rfl⟩
                  refine ⟨rfl, rfl, rfl, Nat.le_of_eq (setRow_size w g _).symm, fun k hk => hsame k (fun e => ?_)⟩
                  have := hr.low k hk
                  rw [e, hok] at this
                  omega
              · cases h
            · cases h
        · rename_i t2 l m hH
          split at h
          · rename_i id2 hdc
            split at h
            · rename_i s l2 hH2
              cases hone : oneOwn t2 q with
              | false => rw [hone] at h; cases h
              | true =>
                rw [hone, cond_true, Option.bind_eq_some_iff] at h
                obtain ⟨x0, hx0, h⟩ := h
                split at h
                · rename_i y0 hput
                  split at h
                  · rename_i hjm
                    subst hjm
                    refine ⟨_, _, _, h, ?_⟩
                    obtain ⟨u, hus⟩ : ∃ u, (a.eval y).cells.toList = [u] := List.length_eq_one_iff.1 (by rw [v1, hdc]; rfl)
                    have hru : RD w (stab S0 base w L) β u (.ow id2) := v3 0 u _ (by rw [hus]; rfl) (by rw [hdc]; rfl)
                    obtain ⟨g, st, arr, ty, rfl, rfl, hbk, hoff, L2, q1, q2, q3⟩ := mix_store hr hH hH2 hx0 hone (oneOwn_lt t2 hone) hput hru h1
                    rw [add_at] at e1
                    have hrun := run_storeAt (hc.ti t i hi) (v := a.eval y) (off := st + (j * t2.width + q)) hbk (by rw [v1, hb1]) (by rw [← hb1, hdc]; simpa using hoff) v2
                    have hset : arr.toList.take (st + (j * t2.width + q)) ++ (a.eval y).cells.toList ++ arr.toList.drop (st + (j * t2.width + q) + (a.eval y).cells.toList.length) = arr.toList.set (st + (j * t2.width + q)) u := by
                      rw [hus, List.set_eq_take_append_cons_drop, if_pos (by simp; omega)]
                      simp
                    rw [hset] at hrun
                    exact KOk.of_skip (pre _ _ hrun e1) ⟨q1, hT.mono fun v d h => RD_grow h q2 (fun _ _ => rfl), .tup rfl (fun i x d hx => by simp at hx), q2, q3, fun _ _ _ => rfl⟩
                  · cases h
                · cases h
            · cases h
          · cases h
        · cases h
      · cases h
  · cases h
end
end Go.Eng
/- Rows of cells; what append does to the machine. -/
namespace Go.Eng
open Go.RowKit
open Classical
set_option linter.unusedVariables false
set_option linter.unusedSimpArgs false
set_option linter.unusedSectionVars false
theorem flatten_len {wd : Nat} : ∀ {rows : List (List Value)}, (∀ r ∈ rows, r.length = wd) → rows.flatten.length = rows.length * wd
  | [], _ => by simp
  | r :: rows, h => by
    rw [List.flatten_cons, List.length_append, h r (by simp), flatten_len (fun r hr => h r (by simp [hr])), List.length_cons, Nat.add_mul, Nat.one_mul, Nat.add_comm]
theorem flatten_get {wd : Nat} : ∀ {rows : List (List Value)}, (∀ r ∈ rows, r.length = wd) → ∀ {j i : Nat} {r : List Value}, rows[j]? = some r → i < wd → rows.flatten[j * wd + i]? = r[i]?
  | [], _, j, i, r, hr, _ => by simp at hr
  | q :: rows, h, j, i, r, hr, hi => by
    have hq := h q (by simp)
    cases j with
    | zero =>
      simp only [List.getElem?_cons_zero, Option.some.injEq] at hr
      subst hr
      rw [List.flatten_cons, Nat.zero_mul, Nat.zero_add, List.getElem?_append_left (by omega)]
    | succ j =>
      rw [List.flatten_cons, List.getElem?_append_right (by rw [hq, Nat.add_mul, Nat.one_mul]; omega), hq]
      rw [show (j + 1) * wd + i - wd = j * wd + i by rw [Nat.add_mul, Nat.one_mul]; omega]
      exact flatten_get (fun r hr => h r (by simp [hr])) (by simpa using hr) hi
theorem flatten_at {wd : Nat} {rows : List (List Value)} (h : ∀ r ∈ rows, r.length = wd) {k : Nat} {u : Value} (hk : rows.flatten[k]? = some u) : 0 < wd ∧ ∃ r, rows[k / wd]? = some r ∧ r[k % wd]? = some u := by
  have hlt : k < rows.length * wd := by rw [← flatten_len h]; exact (List.getElem?_eq_some_iff.1 hk).1
  have hw : 0 < wd := by
    rcases Nat.eq_zero_or_pos wd with h0 | h0
    · rw [h0] at hlt; simp at hlt
    · exact h0
  have hj : k / wd < rows.length := Nat.div_lt_of_lt_mul (by rw [Nat.mul_comm]; exact hlt)
  refine ⟨hw, rows[k / wd], List.getElem?_eq_getElem hj, ?_⟩
  rw [← flatten_get h (List.getElem?_eq_getElem hj) (Nat.mod_lt k hw), ← hk]
  congr 1
  rw [Nat.mul_comm]
  exact Nat.div_add_mod k wd
/-- The rows of cells of a list's elements. -/
theorem rows_of {α : Type} {Q : Nat → α → List Value → Prop} : ∀ (l : List α) (b : Nat), (∀ j x, l[j]? = some x → ∃ c, Q (b + j) x c) → ∃ rows : List (List Value), rows.length = l.length ∧ ∀ (j : Nat) x c, l[j]? = some x → rows[j]? = some c → Q (b + j) x c
  | [], b, _ => ⟨[], rfl, fun j x c hx => by simp at hx⟩
  | x :: l, b, h => by
    obtain ⟨c, hc⟩ := h 0 x rfl
    obtain ⟨rows, h1, h2⟩ := rows_of l (b + 1) (fun j y hy => by
      obtain ⟨c, hc⟩ := h (j + 1) y (by simpa using hy)
      exact ⟨c, by rw [Nat.add_assoc, Nat.add_comm 1 j]; exact hc⟩)
    refine ⟨c :: rows, by simp [h1], fun j y d hy hd => ?_⟩
    cases j with
    | zero => simp at hy hd; subst hy; subst hd; exact hc
    | succ j =>
      have := h2 j y d (by simpa using hy) (by simpa using hd)
      rw [Nat.add_assoc, Nat.add_comm 1 j] at this
      exact this
section
variable {P : Program} (w : World)
theorem run_append_zero (t ty e : TypeId) (i : TypeInfo) (ht : P.underlying t = some (.slice e)) (hi : P.info? e = some i) (A X : Option Addr) (n cap c : Nat) (hn : n ≤ cap) :
    (Builtin.append_ #[t, t] ty #[.slice A n cap, .slice X 0 c]).run P w = .ok (.slice A n cap) w := by
  have hf : (Builtin.firstCells i.size 0 (.slice X 0 c)).run P w = .ok #[] w := by
    cases X with
    | none => rfl
    | some a => simp [Builtin.firstCells, loadCells, loadCellsFrom]
  cases A with
  | none => simp [Builtin.append_, run_underlying ht, sizeOf, typeInfo, hi, Builtin.lenOf, hn, hf]
  | some a => simp [Builtin.append_, run_underlying ht, sizeOf, typeInfo, hi, Builtin.lenOf, hn, hf, storeCells]
theorem run_append_room2 (t ty e e2 : TypeId) (i : TypeInfo) (ht : P.underlying t = some (.slice e)) (hi : P.info? e = some i)
    (g st sLen sCap : Nat) (cur : Array Value) (hg : w.heap[g]? = some (.cells cur e2 (0, 0)))
    (a : Addr) (m c : Nat) (news : List Value) (hl : news.length = m * i.size) (hnews : ∀ j u, news[j]? = some u → w.cell? (a.add j) = some u) (h1 : ∀ u ∈ news, u.oneCell' = true)
    (hroom : sLen + m ≤ sCap) (hfit : st + sLen * i.size + news.length ≤ cur.size) :
    (Builtin.append_ #[t, t] ty #[.slice (some ⟨g, st, none⟩) sLen sCap, .slice (some a) m c]).run P w =
      .ok (.slice (some ⟨g, st, none⟩) (sLen + m) sCap) (w.setRow g (cur.toList.take (st + sLen * i.size) ++ news ++ cur.toList.drop (st + sLen * i.size + news.length)).toArray) := by
  have hf := run_firstCells_some (P := P) w i.size m a m c news hl hnews
  have hst := run_storeCells_at (P := P) g (st + sLen * i.size) e2 news 0 cur w hg (by simpa using hfit) h1
  simp only [Nat.add_zero] at hst
  simp [Builtin.append_, run_underlying ht, sizeOf, typeInfo, hi, Builtin.lenOf, hroom, hf, add_at, hst]
/-- What append does, to a slice of the call's own. -/
theorem append_run (t ty e : TypeId) (i : TypeInfo) (z : Value) (ht : P.underlying t = some (.slice e)) (hi : P.info? e = some i) (hz : i.zero = some z) (hzs : z.cells.size = i.size)
    {A X : Option Addr} {n cap m c wd : Nat} (hwd : i.size = wd) {olds news : List Value} (hl1 : olds.length = n * wd) (hl2 : news.length = m * wd)
    (hA : (A = none ∧ cap = 0 ∧ n = 0) ∨ ∃ g st arr e2, A = some ⟨g, st, none⟩ ∧ w.heap[g]? = some (.cells arr e2 (0, 0)) ∧ n ≤ cap ∧ st + cap * wd ≤ arr.size ∧ ∀ (k : Nat) u, olds[k]? = some u → arr[st + k]? = some u)
    (hX : m = 0 ∨ ∃ a, X = some a ∧ ∀ j u, news[j]? = some u → w.cell? (a.add j) = some u) (h1 : ∀ u ∈ news, one u = true) (h63 : n + m ≤ 9223372036854775807) (hbytes : (n + m) * i.bytes ≤ 140737488355328) :
    ∃ A' cap' w', (Builtin.append_ #[t, t] ty #[.slice A n cap, .slice X m c]).run P w = .ok (.slice A' (n + m) cap') w' ∧ w'.os = w.os ∧ w'.tape = w.tape ∧ w'.output = w.output ∧
      ((A' = none ∧ cap' = 0 ∧ n + m = 0 ∧ w' = w) ∨ ∃ g st arr e2, A' = some ⟨g, st, none⟩ ∧ w'.heap[g]? = some (.cells arr e2 (0, 0)) ∧ n + m ≤ cap' ∧ st + cap' * wd ≤ arr.size ∧ (∀ (k : Nat) u, (olds ++ news)[k]? = some u → arr[st + k]? = some u) ∧
        ((∃ st0, A = some ⟨g, st0, none⟩ ∧ w'.heap.size = w.heap.size) ∨ (g = w.heap.size ∧ w'.heap.size = w.heap.size + 1)) ∧ ∀ k, k < w.heap.size → k ≠ g → w'.heap[k]? = w.heap[k]?) := by
  subst hwd
  by_cases hm : m = 0
  · subst hm
    have hnn : news = [] := List.eq_nil_of_length_eq_zero (by simpa using hl2)
    subst hnn
    rcases hA with ⟨rfl, rfl, rfl⟩ | ⟨g, st, arr, e2, rfl, hb, hnc, hf, hold⟩
    · exact ⟨none, 0, w, run_append_zero w t ty e i ht hi _ _ 0 0 c (Nat.le_refl _), rfl, rfl, rfl, .inl ⟨rfl, rfl, rfl, rfl⟩⟩
    · refine ⟨_, cap, w, run_append_zero w t ty e i ht hi _ _ n cap c hnc, rfl, rfl, rfl, .inr ⟨g, st, arr, e2, rfl, hb, hnc, hf, by simpa using hold, .inl ⟨st, rfl, rfl⟩, fun _ _ _ => rfl⟩⟩
  · obtain ⟨a, rfl, hnews⟩ := hX.resolve_left hm
    have grown : ∀ (old : Nat), ∃ arr, (arr = olds.toArray ++ news.toArray ++ Builtin.zeroCells z.cells (grownCap w (n + m) old e - (n + m))) ∧ 0 + grownCap w (n + m) old e * i.size ≤ arr.size ∧ (∀ (k : Nat) u, (olds ++ news)[k]? = some u → arr[0 + k]? = some u) := by
      intro old
      refine ⟨_, rfl, ?_, fun k u hk => ?_⟩
      · have hge := grownCap_ge w (n + m) old e
        simp only [Array.size_append, List.size_toArray, size_zeroCells, hzs, hl1, hl2, ← Nat.add_mul, Nat.zero_add]
        apply Nat.mul_le_mul_right
        omega
      · rw [Nat.zero_add, Array.getElem?_append_left]
        · rw [← hk]; simp
        · have := (List.getElem?_eq_some_iff.1 hk).1
          simpa using this
    rcases hA with ⟨rfl, rfl, rfl⟩ | ⟨g, st, arr, e2, rfl, hb, hnc, hf, hold⟩
    · have hr := run_append_nil (P := P) w t ty e i z ht hi hz a m c news hl2 hnews (by omega) (by omega) (by have hb := hbytes; simp only [Nat.zero_add] at hb; omega)
      obtain ⟨arr, ha, h4, h5⟩ := grown 0
      have ho : olds = [] := List.eq_nil_of_length_eq_zero (by simpa using hl1)
      subst ho
      simp only [Nat.zero_add, Array.empty_append] at ha
      rw [← ha] at hr
      refine ⟨some ⟨w.heap.size, 0, none⟩, grownCap w m 0 e, w.drew.alloc (.cells arr e), by rw [hr, Nat.zero_add], rfl, rfl, rfl, .inr ⟨w.heap.size, 0, arr, e, rfl, heap_alloc_new w.drew _, ?_, by simpa using h4, h5, .inr ⟨rfl, by simp⟩, fun k hk _ => heap_alloc_old w.drew _ k hk⟩⟩
      rw [Nat.zero_add]
      exact grownCap_ge w m 0 e
    · by_cases hroom : n + m ≤ cap
      · have hmul : (n + m) * i.size ≤ cap * i.size := Nat.mul_le_mul_right _ hroom
        rw [Nat.add_mul] at hmul
        have hr := run_append_room2 (P := P) w t ty e e2 i ht hi g st n cap arr hb a m c news hl2 hnews (fun u hu => one_cell (h1 u hu)) hroom (by rw [hl2]; omega)
        refine ⟨_, _, _, hr, rfl, rfl, rfl, .inr ⟨g, st, _, e2, rfl, setRow_heap w g arr _ e2 _ hb, hroom, ?_, fun k u hk => ?_, .inl ⟨st, rfl, setRow_size w g _⟩, fun k _ hk => setRow_other w g k _ hk⟩⟩
        · simp; omega
        · simp only [List.getElem?_toArray]
          have l1 : (arr.toList.take (st + n * i.size)).length = st + n * i.size := by simp; omega
          rw [List.append_assoc]
          rcases Nat.lt_or_ge k olds.length with hk2 | hk2
          · rw [List.getElem?_append_left hk2] at hk
            rw [List.getElem?_append_left (by omega), List.getElem?_take, if_pos (by omega), Array.getElem?_toList]
            exact hold k u hk
          · rw [List.getElem?_append_right hk2] at hk
            rw [List.getElem?_append_right (by omega), l1, show st + k - (st + n * i.size) = k - olds.length by omega]
            rw [List.getElem?_append_left (List.getElem?_eq_some_iff.1 hk).1]
            exact hk
      · have holds : ∀ j u, olds[j]? = some u → w.cell? ((⟨g, st, none⟩ : Addr).add j) = some u := fun j u hu => by
          rw [add_at, cell_blk hb]
          exact hold j u hu
        have hr := run_append_grow (P := P) w t ty e i z ht hi hz ⟨g, st, none⟩ n cap olds hl1 holds a m c news hl2 hnews (by omega) (by omega) (growslice_fits (by omega) hbytes)
        obtain ⟨arr2, ha, h4, h5⟩ := grown cap
        rw [← ha] at hr
        exact ⟨_, _, _, hr, rfl, rfl, rfl, .inr ⟨w.heap.size, 0, arr2, e, rfl, heap_alloc_new w.drew _, grownCap_ge w (n + m) cap e, h4, h5, .inr ⟨rfl, by simp⟩, fun k hk _ => heap_alloc_old w.drew _ k hk⟩⟩
end
end Go.Eng
/- append. -/
namespace Go.Eng
open Go.RowKit
open Classical
set_option linter.unusedVariables false
set_option linter.unusedSimpArgs false
set_option linter.unusedSectionVars false
def killEnt (p : Nat → Bool) : E → E
  | .box cs => .box (killC p cs)
  | .det t l j x hs => bif hsRefs p hs then .dead else .det t l j x hs
  | e => e
theorem killE_get (p : Nat → Bool) : ∀ (H : List E) (i : Nat), (killE p H)[i]? = (H[i]?).map (killEnt p)
  | [], i => by simp [killE]
  | e :: H, 0 => by cases e <;> simp [killE, killEnt]
  | e :: H, i + 1 => by cases e <;> simpa [killE] using killE_get p H i
theorem killE_len (p : Nat → Bool) : ∀ (H : List E), (killE p H).length = H.length
  | [] => rfl
  | e :: H => by cases e <;> simp [killE, killE_len p H]
theorem killC_get (p : Nat → Bool) : ∀ (cs : List D) (i : Nat), (killC p cs)[i]? = (cs[i]?).map fun d => bif d.refs p then .no else d
  | [], i => by simp [killC]
  | d :: cs, 0 => by simp [killC]
  | d :: cs, i + 1 => by simpa [killC] using killC_get p cs i
theorem killC_len (p : Nat → Bool) : ∀ (cs : List D), (killC p cs).length = cs.length
  | [] => rfl
  | d :: cs => by simp [killC, killC_len p cs]
theorem RE_kill {w w' : World} {S S' ok ok' : Nat → Prop} {β β' : Nat → Real} {q : Real} {p : Nat → Bool} {e : E} (h : RE w S β ok q e) (hS : ∀ k, S k → S' k ∧ w'.heap[k]? = w.heap[k]?) (hk : ∀ k, ok k → ok' k ∧ w'.heap[k]? = w.heap[k]?) (hβ : ∀ id, p id = false → β id ≠ .non → β' id = β id) : RE w' S' β' ok' q (killEnt p e) := by
  cases e with
  | box cells =>
    obtain ⟨g, arr, ty, hr, hg, hb, hl, ho, hc⟩ := h
    refine ⟨g, arr, ty, hr, (hk g hg).1, (hk g hg).2.trans hb, by rw [killC_len]; exact hl, ho, fun i x d hx hd => ?_⟩
    rw [killC_get, Option.map_eq_some_iff] at hd
    obtain ⟨d0, h1, h2⟩ := hd
    cases hp : d0.refs p with
    | true => rw [hp] at h2; subst h2; exact .no
    | false => rw [hp] at h2; subst h2; exact RD_mono (hc i x _ hx h1) hS hβ hp
  | arr t l =>
    obtain ⟨A, cap, hr, h⟩ := h
    exact ⟨A, cap, hr, RT_mono _ h hS hk⟩
  | fz t l =>
    obtain ⟨A, cap, hr, h⟩ := h
    exact ⟨A, cap, hr, RT_mono _ h hS (fun k hk => hk.elim)⟩
  | det t l j x hs =>
    show RE w' S' β' ok' q (bif hsRefs p hs then .dead else .det t l j x hs)
    cases hp : hsRefs p hs with
    | true => trivial
    | false => exact RE_mono (p := p) h hS hk hβ hp
  | mix t l n => exact RE_mono (p := p) h hS hk hβ rfl
  | dead => trivial
theorem look_killT (p : Nat → Bool) (t : Nat) : ∀ (T : List (Nat × D)), look (killT p T) t = (look T t).map fun d => bif d.refs p then .no else d
  | [] => rfl
  | x :: T => by
    have ih := look_killT p t T
    simp only [killT]
    cases hx : x.2.refs p with
    | true =>
      show (bif Nat.beq x.1 t then some .no else look (killT p T) t) = (bif Nat.beq x.1 t then some x.2 else look T t).map _
      cases hb : Nat.beq x.1 t with
      | true => simp only [cond_true, Option.map_some, hx]
      | false => exact ih
    | false =>
      show (bif Nat.beq x.1 t then some x.2 else look (killT p T) t) = (bif Nat.beq x.1 t then some x.2 else look T t).map _
      cases hb : Nat.beq x.1 t with
      | true => simp only [cond_true, Option.map_some, hx, cond_false]
      | false => exact ih
theorem RTm.kill {w w' : World} {S S' : Nat → Prop} {β β' : Nat → Real} {tmps : Array Value} {T : List (Nat × D)} {p : Nat → Bool} (h : RTm w S β tmps T) (hm : ∀ v d, d.refs p = false → RD w S β v d → RD w' S' β' v d) : RTm w' S' β' tmps (killT p T) := fun t d ht => by
  rw [look_killT, Option.map_eq_some_iff] at ht
  obtain ⟨d0, h1, h2⟩ := ht
  obtain ⟨v, h3, h4⟩ := h t d0 h1
  refine ⟨v, h3, ?_⟩
  cases hp : d0.refs p with
  | true => rw [hp] at h2; subst h2; exact .no
  | false => rw [hp] at h2; subst h2; exact hm v _ hp h4
section
variable {P : Program} {c : Cfg} {S0 : Nat → Prop} {base : Nat → Prop} {w : World} {L : Nat → Nat} {β : Nat → Real} {H : List E}
theorem append_core (hr : Rel S0 base w L β H) {id : Nat} {t : Ty} {l l2 : List t.den} (hH : H[id]? = some (.arr t l)) {ts e ty : TypeId} {ie : TI} (hie : TIok P e ie) (hts : P.underlying ts = some (.slice e)) (hw : t.width = ie.size) (hby : 1 ≤ ie.bytes)
    {A X : Option Addr} {cap c2 : Nat} (hβ : β id = .arr A l.length cap t.width) {mv : Nat → Prop} {lab2 : Nat → Nat} (hmv : ∀ k, mv k → L k = 1)
    (hsrc : l2 ≠ [] → ∃ a, X = some a ∧ ∀ j x, l2[j]? = some x → ∃ cs : List Value, cs.length = t.width ∧ (∀ i v, cs[i]? = some v → w.cell? (a.add (j * t.width + i)) = some v) ∧ RT w (stab S0 base w L) true t (fun k => mv k ∧ lab2 k = j) cs x)
    (hbytes : (l.length + l2.length) * ie.bytes ≤ 140737488355328) :
    ∃ v' w' L' β', (Builtin.append_ #[ts, ts] ty #[.slice A l.length cap, .slice X l2.length c2]).run P w = .ok v' w' ∧ Rel S0 base w' L' β' (killE (Nat.beq id) (H.set id (.arr t (l ++ l2)))) ∧ (∀ S, RD w' S β' v' (.ow id)) ∧
      (∀ k, stab S0 base w L k → stab S0 base w' L' k ∧ w'.heap[k]? = w.heap[k]?) ∧ (∀ i, i ≠ id → β' i = β i) ∧ Bel base w w' := by
  obtain ⟨A0, cap0, hre, hrt⟩ := hr.ent id _ hH
  rw [hβ] at hre
  cases hre
  have hidl : id < H.length := (List.getElem?_eq_some_iff.1 hH).1
  rw [RT] at hrt
  obtain ⟨A2, cap3, hA, hlc, hrt⟩ := hrt
  simp only [List.cons.injEq, Value.slice.injEq, and_true] at hA
  obtain ⟨rfl, _, rfl⟩ := hA
  rw [if_pos (show (true && true) = true from rfl)] at hrt
  obtain ⟨j, hj, hjb, hjs, zv, hz1, hz2⟩ := hie.bytes_of
  have hinfo : P.info? e = some j := by
    have := hj w
    cases hq2 : P.info? e with
    | none => simp [typeInfo, hq2, program, Sem.run, stuck] at this
    | some j2 => simp [typeInfo, hq2, program, Sem.run] at this; rw [this]
  have hzs : zv.cells.size = j.size := by
    rw [hjs, ← hie.zero, ← hz2]; simp
  have hn63 : l.length + l2.length ≤ 9223372036854775807 := by
    have : (l.length + l2.length) * 1 ≤ (l.length + l2.length) * ie.bytes := Nat.mul_le_mul_left _ hby
    omega
  -- the old rows
  have hold : ∃ (g st : Nat) (arr : Array Value) (lab : Nat → Nat) (rows : List (List Value)), rows.length = l.length ∧ (∀ r ∈ rows, r.length = t.width) ∧ (∀ (j : Nat) x cs, l[j]? = some x → rows[j]? = some cs → RT w (stab S0 base w L) true t (fun k => L k = id + 2 ∧ k ≠ g ∧ lab k = j) cs x) ∧
      ((A = none ∧ cap = 0 ∧ l.length = 0) ∨ ∃ e2, A = some ⟨g, st, none⟩ ∧ L g = id + 2 ∧ w.heap[g]? = some (.cells arr e2 (0, 0)) ∧ l.length ≤ cap ∧ st + cap * t.width ≤ arr.size ∧ ∀ (k : Nat) u, rows.flatten[k]? = some u → arr[st + k]? = some u) := by
    rcases hrt with ⟨h1, h2⟩ | ⟨g, st, arr, e2, lab, h1, h2, h3, h4, h5⟩
    · have hl0 : l = [] := List.eq_nil_of_length_eq_zero (by omega)
      subst hl0
      exact ⟨0, 0, #[], fun _ => 0, [], rfl, fun r hr => (by cases hr), fun j x cs hx => (by simp at hx), .inl ⟨h1, h2, rfl⟩⟩
    · obtain ⟨rows, r1, r2⟩ := rows_of (Q := fun j x cs => cs.length = t.width ∧ (∀ i v, cs[i]? = some v → arr[st + (j * t.width + i)]? = some v) ∧ RT w (stab S0 base w L) true t (fun k => L k = id + 2 ∧ k ≠ g ∧ lab k = j) cs x) l 0 (fun j x hx => by rw [Nat.zero_add]; exact h5 j x hx)
      have r3 : ∀ r ∈ rows, r.length = t.width := fun r hr => by
        obtain ⟨j, hj⟩ := List.getElem?_of_mem hr
        have hjl : j < l.length := by rw [← r1]; exact (List.getElem?_eq_some_iff.1 hj).1
        exact (r2 j _ r (List.getElem?_eq_getElem hjl) hj).1
      refine ⟨g, st, arr, lab, rows, r1, r3, fun j x cs hx hcs => by have := (r2 j x cs hx hcs).2.2; rw [Nat.zero_add] at this; exact this, .inr ⟨e2, h1, h2, h3, hlc, h4, fun k u hk => ?_⟩⟩
      obtain ⟨hw0, r, q1, q2⟩ := flatten_at r3 hk
      have hjl : k / t.width < l.length := by rw [← r1]; exact (List.getElem?_eq_some_iff.1 q1).1
      have := (r2 _ _ r (List.getElem?_eq_getElem hjl) q1).2.1 _ u q2
      rw [Nat.zero_add] at this
      rw [← this]
      congr 2
      rw [Nat.mul_comm]
      exact (Nat.div_add_mod k t.width).symm
  obtain ⟨g, st, arr, lab, rows, r1, r2, r3, hA⟩ := hold
  -- the new rows
  have hnew : ∃ rows2 : List (List Value), rows2.length = l2.length ∧ (∀ r ∈ rows2, r.length = t.width) ∧ (∀ (j : Nat) x cs, l2[j]? = some x → rows2[j]? = some cs → RT w (stab S0 base w L) true t (fun k => mv k ∧ lab2 k = j) cs x) ∧ (l2.length = 0 ∨ ∃ a, X = some a ∧ ∀ j u, rows2.flatten[j]? = some u → w.cell? (a.add j) = some u) := by
    by_cases h0 : l2 = []
    · subst h0
      exact ⟨[], rfl, fun r hr => (by cases hr), fun j x cs hx => (by simp at hx), .inl rfl⟩
    · obtain ⟨a, hX, hs⟩ := hsrc h0
      obtain ⟨rows2, r1, r2⟩ := rows_of (Q := fun j x cs => cs.length = t.width ∧ (∀ i v, cs[i]? = some v → w.cell? (a.add (j * t.width + i)) = some v) ∧ RT w (stab S0 base w L) true t (fun k => mv k ∧ lab2 k = j) cs x) l2 0 (fun j x hx => by rw [Nat.zero_add]; exact hs j x hx)
      have r3 : ∀ r ∈ rows2, r.length = t.width := fun r hr => by
        obtain ⟨j, hj⟩ := List.getElem?_of_mem hr
        have hjl : j < l2.length := by rw [← r1]; exact (List.getElem?_eq_some_iff.1 hj).1
        exact (r2 j _ r (List.getElem?_eq_getElem hjl) hj).1
      refine ⟨rows2, r1, r3, fun j x cs hx hcs => by have := (r2 j x cs hx hcs).2.2; rw [Nat.zero_add] at this; exact this, .inr ⟨a, hX, fun k u hk => ?_⟩⟩
      obtain ⟨hw0, r, q1, q2⟩ := flatten_at r3 hk
      have hjl : k / t.width < l2.length := by rw [← r1]; exact (List.getElem?_eq_some_iff.1 q1).1
      have := (r2 _ _ r (List.getElem?_eq_getElem hjl) q1).2.1 _ u q2
      rw [Nat.zero_add] at this
      rw [← this]
      congr 2
      rw [Nat.mul_comm]
      exact (Nat.div_add_mod k t.width).symm
  obtain ⟨rows2, s1, s2, s3, hX⟩ := hnew
  have hone : ∀ u ∈ rows2.flatten, one u = true := fun u hu => by
    obtain ⟨k, hk⟩ := List.getElem?_of_mem hu
    obtain ⟨hw0, r, q1, q2⟩ := flatten_at s2 hk
    have hjl : k / t.width < l2.length := by rw [← s1]; exact (List.getElem?_eq_some_iff.1 q1).1
    exact RT_one t (s3 _ _ r (List.getElem?_eq_getElem hjl) q1) u (List.mem_of_getElem? q2)
  obtain ⟨A', cap', w', hrun, ho1, ho2, ho3, hres⟩ := append_run (P := P) w ts ty e j zv hts hinfo hz1 hzs (A := A) (X := X) (n := l.length) (cap := cap) (m := l2.length) (c := c2) (wd := t.width) (by rw [hjs, hw]) (olds := rows.flatten) (news := rows2.flatten) (by rw [flatten_len r2, r1]) (by rw [flatten_len s2, s1])
    (hA.imp (fun h => h) (fun ⟨e2, h1, h2, h3, h4, h5, h6⟩ => ⟨g, st, arr, e2, h1, h3, h4, h5, h6⟩)) hX hone hn63 (by rw [hjb]; exact hbytes)
  refine ⟨.slice A' (l.length + l2.length) cap', w', ?_⟩
  -- the entry's new row
  rcases hres with ⟨e1, e2, e3, e4⟩ | ⟨g', st', arr', ty2, e1, e2, e3, e4, e5, e6, e7⟩
  · subst e4
    have hl0 : l = [] := List.eq_nil_of_length_eq_zero (by omega)
    have hl20 : l2 = [] := List.eq_nil_of_length_eq_zero (by omega)
    refine ⟨L, fun i => if i = id then .arr A' (l.length + l2.length) cap' t.width else β i, hrun, ⟨hr.base_le, hr.low, hr.hi, by simpa [killE_len] using hr.top, fun i hi => ?_, fun i e2' he => ?_⟩, fun S => .ow (wd := t.width) (by simp), fun k hk => ⟨hk, rfl⟩, fun i hi => by simp [hi], Bel.refl _ _⟩
    · simp only [killE_len, List.length_set] at hi
      rw [if_neg (by omega)]
      exact hr.non i hi
    · rw [killE_get, List.getElem?_set] at he
      split at he
      · rename_i hi
        subst hi
        cases he
        rw [if_pos rfl]
        refine ⟨A', cap', by simp, ?_⟩
        rw [RT]
        refine ⟨A', cap', rfl, by simp; omega, ?_⟩
        rw [if_pos (show (true && true) = true from rfl)]
        exact .inl ⟨e1, e2⟩
      · rename_i hi
        rw [Option.map_eq_some_iff] at he
        obtain ⟨e0, h1, rfl⟩ := he
        rw [if_neg (fun h => hi h.symm)]
        refine RE_kill (hr.ent i e0 h1) (fun k hk => ⟨hk, rfl⟩) (fun k hk => ⟨hk, rfl⟩) (fun i2 hp _ => ?_)
        rw [if_neg]
        intro h
        rw [h, Nat.beq_refl] at hp
        cases hp
  · have hgc : (L g' = id + 2 ∧ w'.heap.size = w.heap.size ∧ g' = g) ∨ (g' = w.heap.size ∧ w'.heap.size = w.heap.size + 1 ∧ L g' = 0) := by
      rcases e6 with ⟨st0, h1, h2⟩ | ⟨h1, h2⟩
      · rcases hA with ⟨h3, _⟩ | ⟨_, h3, h4, _⟩
        · rw [h3] at h1; cases h1
        · rw [h3] at h1
          cases h1
          exact .inl ⟨h4, h2, rfl⟩
      · exact .inr ⟨h1, h2, hr.hi g' (by omega)⟩
    have hsz : w.heap.size ≤ w'.heap.size := by rcases hgc with h | h <;> omega
    have hltsz : ∀ k, L k ≠ 0 → k < w.heap.size := fun k hk => by
      rcases Nat.lt_or_ge k w.heap.size with h | h
      · exact h
      · exact absurd (hr.hi k h) hk
    have hsame : ∀ k, k < w.heap.size → k ≠ g' → w'.heap[k]? = w.heap[k]? := e7
    have hstg : ∀ k, stab S0 base w L k → k ≠ g' := fun k hk h => by
      subst h
      rcases hgc with h | h
      · have := hk.2.2; omega
      · have := hk.2.1; omega
    have hst : ∀ k, stab S0 base w L k → stab S0 base w' (fun k => if mv k ∨ k = g' then id + 2 else L k) k ∧ w'.heap[k]? = w.heap[k]? := fun k hk => by
      refine ⟨⟨hk.1, Nat.lt_of_lt_of_le hk.2.1 hsz, ?_⟩, hsame k hk.2.1 (hstg k hk)⟩
      show (if mv k ∨ k = g' then id + 2 else L k) = 0
      rw [if_neg]
      · exact hk.2.2
      · rintro (h | h)
        · have := hmv k h; have := hk.2.2; omega
        · exact hstg k hk h
    have hbl : Bel base w w' := ⟨ho1, ho2, ho3, hsz, fun k hk => hsame k (hr.base_le k hk) (fun h => by
      subst h
      rcases hgc with h | h
      · have := hr.low k hk; omega
      · have := hr.base_le _ hk; omega)⟩
    have hk2 : ∀ k i, i ≠ id → L k = i + 2 → (if mv k ∨ k = g' then id + 2 else L k) = i + 2 ∧ k ≠ g' := fun k i hi hk => by
      have hg : k ≠ g' := fun h => by
        subst h
        rcases hgc with h | h <;> omega
      refine ⟨?_, hg⟩
      rw [if_neg]
      · exact hk
      · rintro (h | h)
        · have := hmv k h; omega
        · exact hg h
    refine ⟨fun k => if mv k ∨ k = g' then id + 2 else L k, fun i => if i = id then .arr A' (l.length + l2.length) cap' t.width else β i, hrun, ⟨fun k hk => Nat.lt_of_lt_of_le (hr.base_le k hk) hsz, fun k hk => ?_, fun k hk => ?_, fun k => ?_, fun i hi => ?_, fun i e2' he => ?_⟩, fun S => .ow (wd := t.width) (by simp), hst, fun i hi => by simp [hi], hbl⟩
    · show (if mv k ∨ k = g' then id + 2 else L k) = 0
      have hk0 := hr.low k hk
      rw [if_neg]
      · exact hk0
      · rintro (h | h)
        · have := hmv k h; omega
        · subst h
          rcases hgc with h | h
          · omega
          · have := hr.base_le _ hk; omega
    · show (if mv k ∨ k = g' then id + 2 else L k) = 0
      have hk0 := hr.hi k (Nat.le_trans hsz hk)
      rw [if_neg]
      · exact hk0
      · rintro (h | h)
        · have := hmv k h; omega
        · subst h
          have := (Array.getElem?_eq_some_iff.1 e2).1
          omega
    · show (if mv k ∨ k = g' then id + 2 else L k) < _
      have := hr.top k
      simp only [killE_len, List.length_set]
      split <;> omega
    · simp only [killE_len, List.length_set] at hi
      rw [if_neg (by omega)]
      exact hr.non i hi
    · rw [killE_get, List.getElem?_set] at he
      split at he
      · rename_i hi
        subst hi
        cases he
        rw [if_pos rfl]
        refine ⟨A', cap', by simp, ?_⟩
        rw [RT]
        refine ⟨A', cap', rfl, by simp; omega, ?_⟩
        rw [if_pos (show (true && true) = true from rfl)]
        refine .inr ⟨g', st', arr', ty2, fun k => if mv k then l.length + lab2 k else lab k, e1, ?_, e2, e4, fun j x hj => ?_⟩
        · show (if mv g' ∨ g' = g' then id + 2 else L g') = id + 2
          rw [if_pos (.inr rfl)]
        · rcases Nat.lt_or_ge j l.length with hjl | hjl
          · rw [List.getElem?_append_left hjl] at hj
            have hjr : j < rows.length := by omega
            have hrow := r3 j x rows[j] hj (List.getElem?_eq_getElem hjr)
            have hcl := r2 rows[j] (List.getElem_mem hjr)
            refine ⟨rows[j], hcl, fun i u hu => ?_, RT_mono t hrow hst (fun k hk => ?_)⟩
            · have hi2 : i < t.width := by rw [← hcl]; exact (List.getElem?_eq_some_iff.1 hu).1
              refine e5 _ u ?_
              rw [List.getElem?_append_left]
              · rw [flatten_get r2 (List.getElem?_eq_getElem hjr) hi2]; exact hu
              · rw [flatten_len r2]
                have : (j + 1) * t.width ≤ rows.length * t.width := Nat.mul_le_mul_right _ (by omega)
                rw [Nat.add_mul, Nat.one_mul] at this
                omega
            · have hkn : ¬ mv k := fun h => by have := hmv k h; omega
              have hkg : k ≠ g' := fun h => by
                rcases hgc with h2 | h2
                · exact hk.2.1 (by rw [h]; exact h2.2.2)
                · have := hltsz k (by omega); omega
              refine ⟨⟨?_, hkg, ?_⟩, hsame k (hltsz k (by omega)) hkg⟩
              · show (if mv k ∨ k = g' then id + 2 else L k) = id + 2
                rw [if_neg (by rintro (h | h); exact hkn h; exact hkg h)]
                exact hk.1
              · show (if mv k then l.length + lab2 k else lab k) = j
                rw [if_neg hkn]
                exact hk.2.2
          · rw [List.getElem?_append_right hjl] at hj
            have hjr : j - l.length < rows2.length := by rw [s1]; exact (List.getElem?_eq_some_iff.1 hj).1
            have hrow := s3 _ x rows2[j - l.length] hj (List.getElem?_eq_getElem hjr)
            have hcl := s2 rows2[j - l.length] (List.getElem_mem hjr)
            refine ⟨rows2[j - l.length], hcl, fun i u hu => ?_, RT_mono t hrow hst (fun k hk => ?_)⟩
            · have hi2 : i < t.width := by rw [← hcl]; exact (List.getElem?_eq_some_iff.1 hu).1
              refine e5 _ u ?_
              have hfl : rows.flatten.length = l.length * t.width := by rw [flatten_len r2, r1]
              have hmul : l.length * t.width ≤ j * t.width := Nat.mul_le_mul_right _ hjl
              rw [List.getElem?_append_right (by omega), hfl]
              rw [show j * t.width + i - l.length * t.width = (j - l.length) * t.width + i by rw [Nat.sub_mul]; omega]
              rw [flatten_get s2 (List.getElem?_eq_getElem hjr) hi2]
              exact hu
            · have hkg : k ≠ g' := fun h => by
                have := hmv k hk.1
                subst h
                rcases hgc with h2 | h2 <;> omega
              refine ⟨⟨?_, hkg, ?_⟩, hsame k (hltsz k (by have := hmv k hk.1; omega)) hkg⟩
              · show (if mv k ∨ k = g' then id + 2 else L k) = id + 2
                rw [if_pos (.inl hk.1)]
              · show (if mv k then l.length + lab2 k else lab k) = j
                rw [if_pos hk.1]
                have := hk.2
                omega
      · rename_i hi
        rw [Option.map_eq_some_iff] at he
        obtain ⟨e0, h1, rfl⟩ := he
        rw [if_neg (fun h => hi h.symm)]
        refine RE_kill (hr.ent i e0 h1) hst (fun k hk => ?_) (fun i2 hp _ => ?_)
        · obtain ⟨h2, h3⟩ := hk2 k i (fun h => hi h.symm) hk
          exact ⟨h2, hsame k (hltsz k (by omega)) h3⟩
        · rw [if_neg]
          intro h
          rw [h, Nat.beq_refl] at hp
          cases hp
end
end Go.Eng
/- append, makes, literals, calls: the evaluator's word holds. -/
namespace Go.Eng
open Go.RowKit
open Classical
set_option linter.unusedVariables false
set_option linter.unusedSimpArgs false
set_option linter.unusedSectionVars false
/-- What names no entry that is there is not named. -/
theorem RD_norefs {w : World} {S : Nat → Prop} {β : Nat → Real} {p : Nat → Bool} {v : Value} {d : D} (h : RD w S β v d) (hp : ∀ id, p id = true → β id = .non) : d.refs p = false := by
  have hb : ∀ {id : Nat} {q : Real}, β id = q → q ≠ .non → p id = false := fun {id q} h1 h2 => by
    cases hpi : p id with
    | false => rfl
    | true => exact absurd (h1.symm.trans (hp id hpi)) h2
  induction h with
  | val h => rfl
  | imm h => rfl
  | no => rfl
  | ow h => exact hb h (by simp)
  | os h => exact hb h (by simp)
  | bp h => exact hb h (by simp)
  | ap h => exact hb h (by simp)
  | @fp ad cells xs hs hx hr ih => exact refsL_of fun i d hd => ih i d hd
  | @fn g arr caps hl hr ih =>
      refine refsL_of fun i d hd => ?_
      have hi : i < arr.size := by rw [hl]; exact (List.getElem?_eq_some_iff.1 hd).1
      exact ih i _ d (Array.getElem?_eq_getElem hi) hd
  | ifc h ih => exact ih
  | @agg arr ds hl ho hr ih =>
      refine refsL_of fun i d hd => ?_
      have hi : i < arr.size := by rw [hl]; exact (List.getElem?_eq_some_iff.1 hd).1
      exact ih i _ d (Array.getElem?_eq_getElem hi) hd
  | @tup arr ds hl hr ih =>
      refine refsL_of fun i d hd => ?_
      have hi : i < arr.size := by rw [hl]; exact (List.getElem?_eq_some_iff.1 hd).1
      exact ih i _ d (Array.getElem?_eq_getElem hi) hd
theorem killC_same {p : Nat → Bool} : ∀ {cs : List D}, refsL p cs = false → killC p cs = cs
  | [], _ => rfl
  | d :: cs, h => by
    simp only [refsL, Bool.or_eq_false_iff] at h
    simp only [killC, h.1, cond_false, killC_same h.2]
theorem killE_same {p : Nat → Bool} : ∀ {H : List E}, (∀ (i : Nat) e, H[i]? = some e → e.refs p = false) → killE p H = H
  | [], _ => rfl
  | e :: H, h => by
    have ih := killE_same (p := p) (H := H) (fun i cs hi => h (i + 1) cs (by simpa using hi))
    cases e with
    | box cs => simp only [killE, ih, killC_same (h 0 _ rfl)]
    | det t l j x hs => simp only [killE, ih, show hsRefs p hs = false from h 0 _ rfl, cond_false]
    | arr t l => simp only [killE, ih]
    | fz t l => simp only [killE, ih]
    | mix t l n => simp only [killE, ih]
    | dead => simp only [killE, ih]
section
variable {P : Program} {c : Cfg} {h : Hint} {S0 : Nat → Prop} {base : Nat → Prop} {w : World} {L : Nat → Nat} {β : Nat → Real} {H : List E} {a : Act} {T : List (Nat × D)} {o : Oper} {R : Type} {r : R} {K : List (Nat × D) → List E → D → Option R}
/-- A new entry out of blocks that were nobody's. -/
theorem Rel.push (hr : Rel S0 base w L β H) {e : E} {q : Real} {ok : Nat → Prop} (hok : ∀ k, ok k → L k = 1) (he : RE w (stab S0 base w L) β ok q e) :
    Rel S0 base w (fun k => if ok k then H.length + 2 else L k) (fun id => if id = H.length then q else β id) (H ++ [e]) ∧
    (∀ k, L k = 0 → (if ok k then H.length + 2 else L k) = 0) ∧ ∀ id, β id ≠ .non → (if id = H.length then q else β id) = β id := by
  have h0 : ∀ k, L k = 0 → (if ok k then H.length + 2 else L k) = 0 := fun k hk => by
    rw [if_neg (fun h => by have := hok k h; omega)]
    exact hk
  have hβ : ∀ id, β id ≠ .non → (if id = H.length then q else β id) = β id := fun id hne => by
    rw [if_neg]
    intro e
    exact hne (hr.non id (by omega))
  refine ⟨⟨hr.base_le, fun k hk => h0 k (hr.low k hk), fun k hk => h0 k (hr.hi k hk), fun k => ?_, fun id hid => ?_, fun id e2 he2 => ?_⟩, h0, hβ⟩
  · show (if ok k then H.length + 2 else L k) < _
    simp only [List.length_append, List.length_singleton]
    have := hr.top k
    split <;> omega
  · simp only [List.length_append, List.length_singleton] at hid
    rw [if_neg (by omega)]
    exact hr.non id (by omega)
  · rcases Nat.lt_or_ge id H.length with hid | hid
    · rw [List.getElem?_append_left hid] at he2
      rw [if_neg (by omega)]
      refine RE_grow (hr.ent id e2 he2) (stab_mv h0) (fun k hk => ⟨?_, rfl⟩) hβ
      show (if ok k then H.length + 2 else L k) = id + 2
      rw [if_neg (fun h => by have := hok k h; omega)]
      exact hk
    · rw [List.getElem?_append_right hid] at he2
      have : id = H.length := by
        have := (List.getElem?_eq_some_iff.1 he2).1
        simp at this
        omega
      subst this
      simp only [Nat.sub_self, List.getElem?_cons_zero, Option.some.injEq] at he2
      subst he2
      rw [if_pos rfl]
      refine RE_grow he (stab_mv h0) (fun k hk => ⟨?_, rfl⟩) hβ
      show (if ok k then H.length + 2 else L k) = H.length + 2
      rw [if_pos hk]
/-- What append's second argument holds. -/
theorem srcK_sound (hr : Rel S0 base w L β H) {t : Ty} {dy : D} {v : Value} (hd : RD w (stab S0 base w L) β v dy) {K : List t.den → List E → Option R} (h : srcK t dy H K = some r) :
    ∃ (l2 : List t.den) (H2 : List E) (L2 : Nat → Nat) (X : Option Addr) (c2 : Nat) (mv : Nat → Prop) (lab2 : Nat → Nat), K l2 H2 = some r ∧ v = .slice X l2.length c2 ∧ Rel S0 base w L2 β H2 ∧ (∀ k, L k = 0 → L2 k = 0) ∧ (∀ k, mv k → L2 k = 1) ∧
      (l2 ≠ [] → ∃ a, X = some a ∧ ∀ (j : Nat) x, l2[j]? = some x → ∃ cs : List Value, cs.length = t.width ∧ (∀ (i : Nat) v, cs[i]? = some v → w.cell? (a.add (j * t.width + i)) = some v) ∧ RT w (stab S0 base w L2) true t (fun k => mv k ∧ lab2 k = j) cs x) ∧
      (∀ (i : Nat) (t3 : Ty) (l3 : List t3.den), H2[i]? = some (.arr t3 l3) → H[i]? = some (.arr t3 l3)) ∧ H2.length = H.length := by
  cases dy with
  | ow id2 =>
    simp only [srcK] at h
    split at h
    · rename_i t2 l2 hH
      split at h
      · rename_i ht
        subst ht
        obtain ⟨A, n, cap, wd, hb, e1⟩ := RD_ow hd
        obtain ⟨A2, cap2, h1, hrt⟩ := hr.ent id2 _ hH
        rw [h1] at hb
        cases hb
        have h0 : ∀ k, L k = 0 → (if L k = id2 + 2 then 1 else L k) = 0 := fun k hk => by rw [if_neg (by omega)]; exact hk
        have hrel := hr.drop (id := id2) (e := .dead) 1 (by omega) trivial
        have hset : ∀ (i : Nat) t3 l3, (H.set id2 .dead)[i]? = some (.arr t3 l3) → H[i]? = some (.arr t3 l3) := fun i t3 l3 hi => by
          rw [List.getElem?_set] at hi
          split at hi
          · split at hi <;> cases hi
          · exact hi
        rw [RT] at hrt
        obtain ⟨A3, cap3, hA, hle, hrt⟩ := hrt
        simp only [List.cons.injEq, Value.slice.injEq, and_true] at hA
        obtain ⟨rfl, _, rfl⟩ := hA
        rw [if_pos (show (true && true) = true from rfl)] at hrt
        rcases hrt with ⟨hA, hc0⟩ | ⟨g, st, arr, ty, lab, hA, hok, hbk, hf, hrow⟩
        · have hl0 : l2 = [] := List.eq_nil_of_length_eq_zero (by omega)
          subst hl0
          exact ⟨_, _, _, _, _, fun _ => False, fun _ => 0, h, e1, hrel, h0, fun k hk => hk.elim, fun hne => absurd rfl hne, hset, by simp⟩
        · subst hA
          refine ⟨_, _, _, _, _, fun k => L k = id2 + 2 ∧ k ≠ g, lab, h, e1, hrel, h0, fun k hk => ?_, fun _ => ⟨_, rfl, fun j x hj => ?_⟩, hset, by simp⟩
          · show (if L k = id2 + 2 then 1 else L k) = 1
            rw [if_pos hk.1]
          · obtain ⟨cs, c1, c3, c4⟩ := hrow j x hj
            refine ⟨cs, c1, fun i u hu => ?_, RT_stab c4 h0 (fun k hk => ⟨⟨hk.1, hk.2.1⟩, hk.2.2⟩)⟩
            rw [add_at, cell_blk hbk]
            exact c3 i u hu
      · cases h
    · cases h
  | val tv l2 =>
    cases tv with
    | sl o2 t2 =>
      simp only [srcK] at h
      split at h
      · rename_i ht
        subst ht
        have hrt : RT w (stab S0 base w L) false (.sl o2 t2) (fun _ => False) [v] l2 := by cases hd with | val h => exact h
        have hrt2 := RT_cast (b := .sl true t2.strip) (by simp [Ty.strip, Ty.strip_strip]) hrt
        have e0 : castDen (a := .sl o2 t2) (b := .sl true t2.strip) (by simp [Ty.strip, Ty.strip_strip]) l2 = castDen (a := .sl true t2) (b := .sl true t2.strip) (by simp [Ty.strip, Ty.strip_strip]) l2 := rfl
        rw [e0] at hrt2
        generalize castDen (a := .sl true t2) (b := .sl true t2.strip) (by simp [Ty.strip, Ty.strip_strip]) l2 = l3 at hrt2 h
        rw [RT] at hrt2
        obtain ⟨A3, cap3, hA, hle, hrt2⟩ := hrt2
        simp only [List.cons.injEq, and_true] at hA
        rw [Bool.and_false, if_neg (by simp)] at hrt2
        refine ⟨l3, H, L, A3, cap3, fun _ => False, fun _ => 0, h, hA, hr, fun k hk => hk, fun k hk => hk.elim, fun hne => ?_, fun i t3 l3 hi => hi, rfl⟩
        obtain ⟨ad, f1, f2, f3⟩ := hrt2 hne
        refine ⟨ad, f1, fun j x hj => ?_⟩
        obtain ⟨cs, g1, g2⟩ := f3 j x hj
        exact ⟨cs, RT_len _ g2, g1, RT_toOwn _ (Ty.strip_strip t2) g2⟩
      · cases h
    | _ => cases h
  | _ => cases h
theorem run_append_op {k : Call} {x y : Operand} {ts : TypeId} (ho : o.op = .call k) (hk : k.callee = .builtin .append) (hx : k.args.toList = [x, y]) (ht : k.argTypes.toList = [ts, ts]) {v w'} (hrun : (Builtin.append_ #[ts, ts] o.type #[a.eval x, a.eval y]).run P w = .ok v w') : (execOp a.eval o).run P w = .ok (.value v) w' := by
  have e1 : k.args = #[x, y] := by rw [← Array.toList_inj]; exact hx
  have e2 : k.argTypes = #[ts, ts] := by rw [← Array.toList_inj]; exact ht
  unfold execOp
  simp only [ho, resolve, hk, e1, e2]
  simp only [Sem.run_bind, Sem.run_pure, Result.andThen_ok, invoke, builtin, List.map_toArray, List.map_cons, List.map_nil]
  rw [hrun]
  rfl
variable (hc : CfgOk P c) (hr : Rel S0 base w L β H) (hT : RTm w (stab S0 base w L) β a.tmps T) (hg : GlOk c.gl w (stab S0 base w L))
include hc hr hT hg
theorem k_append {k : Call} {x y : Operand} {ts e : TypeId} (ho : o.op = .call k) (hk : k.callee = .builtin .append) (hx : k.args.toList = [x, y]) (ht : k.argTypes.toList = [ts, ts]) {i ie : TI} (hi : c.ti ts = some i) (hki : i.kind = .slice e) (hie : c.ti e = some ie) (hby : 1 ≤ ie.bytes)
    {dx dy : D} (hdx : opd c T x = some dx) (hdy : opd c T y = some dy) (h : appK c.nfix h o T H ie dx dy K = some r) : ∃ T2 H2 d, K T2 H2 d = some r ∧ KOk P c.nfix S0 base L β H o a w T2 H2 d := by
  have vx := opd_RD hT hg hdx
  have vy := opd_RD hT hg hdy
  have hts := (hc.ti ts i hi).slice_of hki
  unfold appK at h
  split at h
  · simp only at h
    generalize (Option.getD _ ie.ty : Ty) = t at h
    cases hb : Nat.beq t.width ie.size with
    | false => rw [hb] at h; cases h
    | true =>
      rw [hb, cond_true] at h
      have hb := Nat.eq_of_beq_eq_true hb
      obtain ⟨l2, H2, L2, X, c2, mv, lab2, h1, h2, h3, h4, h5, h6, h7, h8⟩ := srcK_sound hr vy h
      split at h1
      · rename_i hbytes
        obtain ⟨q1, q2, q3⟩ := h3.push (e := .arr t []) (q := .arr none 0 0 t.width) (ok := fun _ => False) (fun k hk => hk.elim) ⟨none, 0, rfl, by rw [RT]; exact ⟨none, 0, rfl, Nat.le_refl _, by rw [if_pos (show (true && true) = true from rfl)]; exact .inl ⟨rfl, rfl⟩⟩⟩
        simp only [if_false] at q1
        have hid : (H2 ++ [E.arr t []])[H2.length]? = some (.arr t []) := by simp
        obtain ⟨v', w', L', β', r1, r2, r3, r4, r5, r6⟩ := append_core (ty := o.type) q1 (id := H2.length) (t := t) (l := []) (l2 := l2) hid (hc.ti e ie hie) hts hb hby (A := none) (X := X) (cap := 0) (c2 := c2) (by simp) (mv := mv) (lab2 := lab2) h5 h6 (by simpa using hbytes)
        have eH : killE (Nat.beq H2.length) ((H2 ++ [E.arr t []]).set H2.length (.arr t ([] ++ l2))) = H2 ++ [.arr t l2] := by
          have : (H2 ++ [E.arr t []]).set H2.length (.arr t ([] ++ l2)) = H2 ++ [.arr t l2] := by simp
          rw [this]
          refine killE_same fun i en hi => ?_
          rcases Nat.lt_or_ge i H2.length with hlt | hge
          · rw [List.getElem?_append_left hlt] at hi
            have hent := h3.ent i _ hi
            cases en with
            | box cs =>
              obtain ⟨g, arr, ty, e1, e2, e3, e4, e5, e6⟩ := hent
              refine refsL_of fun m d hd => ?_
              have hm : m < arr.size := by rw [e4]; exact (List.getElem?_eq_some_iff.1 hd).1
              refine RD_norefs (e6 m _ d (Array.getElem?_eq_getElem hm) hd) fun id hp => ?_
              have : H2.length = id := Nat.eq_of_beq_eq_true hp
              exact h3.non id (by omega)
            | det t3 l3 j x hs =>
              obtain ⟨g, st, cap, arr, e, lab, e1, e2, e3, e4, e5, e6, e7, c, c0, e8, e9, e10, e11, e12⟩ := hent
              refine hsRefs_of fun y hy => ?_
              obtain ⟨A, n, cp, wd, f1, f2⟩ := e12 y hy
              cases hb : Nat.beq H2.length y.2 with
              | false => rfl
              | true =>
                have : H2.length = y.2 := Nat.eq_of_beq_eq_true hb
                rw [h3.non y.2 (by omega)] at f2
                cases f2
            | _ => rfl
          · rw [List.getElem?_append_right hge] at hi
            have : i - H2.length = 0 := by
              have := (List.getElem?_eq_some_iff.1 hi).1
              simp at this
              omega
            rw [this] at hi
            cases hi
            rfl
        rw [eH] at r2
        refine ⟨_, _, _, h1, KOk.of_run (run_append_op ho hk hx ht (v := v') (w' := w') ?_) ⟨r2, hT.mono fun v d h => ?_, r3 _, fun k hk => r4 k (stab_mv h4 k hk).1, r6, fun id _ hne => by have hne2 : id ≠ H2.length := fun e => hne (h3.non id (by omega)); rw [r5 id hne2, if_neg hne2]⟩⟩
        · rw [(RD_imm vx).1, h2]
          exact r1
        · refine RD_grow h (fun k hk => r4 k (stab_mv h4 k hk).1) (fun id hne => ?_)
          have hne2 : id ≠ H2.length := fun e => hne (h3.non id (by omega))
          rw [r5 id hne2, if_neg hne2]
      · cases h1
  · rename_i id
    obtain ⟨A, n, cap, wd, hβ, e1⟩ := RD_ow vx
    split at h
    · rename_i t l hH
      cases hb : (Nat.beq t.width ie.size && Nat.ble c.nfix id) with
      | false => rw [hb] at h; cases h
      | true =>
        rw [hb, cond_true] at h
        rw [Bool.and_eq_true] at hb
        have hnf : c.nfix ≤ id := Nat.le_of_ble_eq_true hb.2
        have hb := Nat.eq_of_beq_eq_true hb.1
        obtain ⟨l2, H2, L2, X, c2, mv, lab2, h1, h2, h3, h4, h5, h6, h7, h8⟩ := srcK_sound hr vy h
        split at h1
        · rename_i t3 l3 hH2
          have hH3 := h7 id t3 l3 hH2
          rw [hH] at hH3
          cases hH3
          split at h1
          · rename_i hbytes
            obtain ⟨A2, cap2, hre, _⟩ := hr.ent id _ hH
            rw [hre] at hβ
            cases hβ
            obtain ⟨v', w', L', β', r1, r2, r3, r4, r5, r6⟩ := append_core (ty := o.type) h3 (id := id) (t := t) (l := l) (l2 := l2) hH2 (hc.ti e ie hie) hts hb hby (X := X) (c2 := c2) hre (mv := mv) (lab2 := lab2) h5 h6 hbytes
            refine ⟨_, _, _, h1, KOk.of_run (run_append_op ho hk hx ht (v := v') (w' := w') ?_) ⟨r2, hT.kill fun v d hp h => RD_mono h (fun k hk => r4 k (stab_mv h4 k hk).1) (fun i2 hp2 _ => r5 i2 fun e => by rw [e, Nat.beq_refl] at hp2; cases hp2) hp, r3 _, fun k hk => r4 k (stab_mv h4 k hk).1, r6, fun id3 h3 _ => r5 id3 (by omega)⟩⟩
            rw [e1, h2]
            exact r1
          · cases h1
        · cases h1
    · cases h
  · cases h
end
end Go.Eng
/- Makes, literals, calls. -/
namespace Go.Eng
open Go.RowKit
open Classical
set_option linter.unusedVariables false
set_option linter.unusedSimpArgs false
set_option linter.unusedSectionVars false
theorem zeros_strip : ∀ t : Ty, zeros t.strip = zeros t
  | .sl _ _ => rfl
  | .pair a b => by show zeros a.strip ++ zeros b.strip = zeros a ++ zeros b; rw [zeros_strip a, zeros_strip b]
  | .int _ => rfl
  | .bool => rfl
  | .str => rfl
  | .unit => rfl
theorem zeros_len : ∀ t : Ty, (zeros t).length = t.width
  | .sl _ _ => rfl
  | .pair a b => by show (zeros a ++ zeros b).length = a.width + b.width; rw [List.length_append, zeros_len a, zeros_len b]
  | .int _ => rfl
  | .bool => rfl
  | .str => rfl
  | .unit => rfl
theorem RT_zero {w : World} {S : Nat → Prop} {o : Bool} : ∀ (t : Ty) {ok : Nat → Prop}, RT w S o t ok (zeros t) t.zero
  | .int _, _ => by rw [RT]; rfl
  | .bool, _ => by rw [RT]; rfl
  | .str, _ => by rw [RT]; rfl
  | .unit, _ => by rw [RT]; rfl
  | .pair a b, _ => by
    rw [RT]
    exact ⟨fun _ => True, zeros a, zeros b, rfl, RT_zero a, RT_zero b⟩
  | .sl own t, _ => by
    rw [RT]
    refine ⟨none, 0, rfl, Nat.le_refl _, ?_⟩
    split
    · exact .inl ⟨rfl, rfl⟩
    · intro hne; exact absurd rfl hne
theorem ov_full (cs us : List Value) (h : us.length = cs.length) : ov cs 0 us = us := by
  apply List.ext_getElem?
  intro i
  rw [ov_get]
  cases hc : cs[i]? with
  | none =>
    have : cs.length ≤ i := by
      rcases Nat.lt_or_ge i cs.length with h1 | h1
      · rw [List.getElem?_eq_getElem h1] at hc; cases hc
      · exact h1
    exact (List.getElem?_eq_none (by omega)).symm
  | some v =>
    have hi : i < us.length := by rw [h]; exact (List.getElem?_eq_some_iff.1 hc).1
    simp only [Option.map_some]
    rw [if_pos (Nat.zero_le _), Nat.sub_zero, List.getElem?_eq_getElem hi]
    rfl
section
variable {P : Program} {c : Cfg} {h : Hint} {S0 : Nat → Prop} {base : Nat → Prop} {w w' : World} {L : Nat → Nat} {β : Nat → Real} {H : List E} {a : Act} {T : List (Nat × D)} {o : Oper} {R : Type} {r : R} {K : List (Nat × D) → List E → D → Option R}
/-- New blocks that nobody may touch as yet. -/
theorem Rel.mark (hr : Rel S0 base w L β H) (hb : Below w.heap.size w w') {ok : Nat → Prop} (hok : ∀ k, ok k → w.heap.size ≤ k ∧ k < w'.heap.size) :
    Rel S0 base w' (fun k => if ok k then 1 else L k) β H ∧ ∀ k, stab S0 base w L k → stab S0 base w' (fun k => if ok k then 1 else L k) k ∧ w'.heap[k]? = w.heap[k]? := by
  have hlt : ∀ k, L k ≠ 0 → k < w.heap.size := fun k hk => by
    rcases Nat.lt_or_ge k w.heap.size with h1 | h1
    · exact h1
    · exact absurd (hr.hi k h1) hk
  have hst : ∀ k, stab S0 base w L k → stab S0 base w' (fun k => if ok k then 1 else L k) k ∧ w'.heap[k]? = w.heap[k]? := fun k hk => by
    refine ⟨⟨hk.1, Nat.lt_of_lt_of_le hk.2.1 hb.size, ?_⟩, hb.block k hk.2.1⟩
    show (if ok k then 1 else L k) = 0
    rw [if_neg (fun h => by have := (hok k h).1; have := hk.2.1; omega)]
    exact hk.2.2
  refine ⟨⟨fun k hk => Nat.lt_of_lt_of_le (hr.base_le k hk) hb.size, fun k hk => ?_, fun k hk => ?_, fun k => ?_, hr.non, fun id e he => RE_grow (hr.ent id e he) hst (fun k hk => ⟨?_, hb.block k (hlt k (by omega))⟩) (fun _ _ => rfl)⟩, hst⟩
  · show (if ok k then 1 else L k) = 0
    rw [if_neg (fun h => by have := (hok k h).1; have := hr.base_le k hk; omega)]
    exact hr.low k hk
  · show (if ok k then 1 else L k) = 0
    rw [if_neg (fun h => by have := (hok k h).2; omega)]
    exact hr.hi k (Nat.le_trans hb.size hk)
  · show (if ok k then 1 else L k) < _
    have := hr.top k
    split <;> omega
  · show (if ok k then 1 else L k) = id + 2
    rw [if_neg (fun h => by have := (hok k h).1; have := hlt k (by omega); omega)]
    exact hk
/-- Rows of a literal. -/
theorem rowsOf_sound {t : Ty} : ∀ {rs : List (List D)} {L : Nat → Nat} {H H2 : List E} {l : List t.den} {uss : List (List Value)} (b : Nat), Rel S0 base w L β H → uss.length = rs.length → (∀ (j : Nat) us r, uss[j]? = some us → rs[j]? = some r → CR w (stab S0 base w L) β us r) → rowsOf t rs H = some (l, H2) →
    ∃ (L2 : Nat → Nat) (okm : Nat → Prop) (lab : Nat → Nat), Rel S0 base w L2 β H2 ∧ Mv L L2 H2 okm ∧ Dd H H2 ∧ l.length = rs.length ∧ ∀ (j : Nat) x us, l[j]? = some x → uss[j]? = some us → us.length = t.width ∧ RT w (stab S0 base w L2) true t (fun k => okm k ∧ lab k = b + j) us x
  | [], L, H, H2, l, uss, b, hr, hl, hC, h => by
    simp only [rowsOf, Option.some.injEq, Prod.mk.injEq] at h
    obtain ⟨rfl, rfl⟩ := h
    exact ⟨L, fun _ => False, fun _ => 0, hr, Mv.refl L H, Dd.refl H, rfl, fun j x us hx => by simp at hx⟩
  | r :: rs, L, H, H2, l, [], b, hr, hl, hC, h => by simp at hl
  | r :: rs, L, H, H2, l, us :: uss, b, hr, hl, hC, h => by
    simp only [rowsOf] at h
    split at h
    · rename_i x H3 hmv
      cases hb : Nat.beq r.length t.width with
      | false => rw [hb] at h; cases h
      | true =>
        rw [hb, cond_true] at h
        have hb := Nat.eq_of_beq_eq_true hb
        split at h
        · rename_i l2 H4 hrest
          cases h
          have hC0 := hC 0 us r rfl rfl
          obtain ⟨L2, okm1, q1, q2, q3, q4, q5, q6⟩ := mvCells_sound t 0 hr (RT_zero t (ok := fun _ => False)) hC0 (.inr rfl) hmv (fun k hk => hk.elim) (fun id _ => by omega)
          rw [ov_full _ _ (by rw [hC0.1, hb, zeros_len])] at q6
          obtain ⟨L3, okm2, lab, r1, r2, r3, r4, r5⟩ := rowsOf_sound (t := t) (b + 1) q1 (uss := uss) (by simpa using hl) (fun j us r hu hr => by
            obtain ⟨c1, c2, c3⟩ := hC (j + 1) us r (by simpa using hu) (by simpa using hr)
            exact ⟨c1, c2, fun i u d hu hd => RD_grow (c3 i u d hu hd) (stab_mv q2.zero) (fun _ _ => rfl)⟩) hrest
          refine ⟨L3, fun k => okm1 k ∨ okm2 k, fun k => if okm1 k then b else lab k, r1, q2.trans r2 r3, q3.trans r3, by simp [r4], fun j x2 us2 hx hu => ?_⟩
          cases j with
          | zero =>
            simp at hx hu
            subst hx; subst hu
            refine ⟨by rw [hC0.1, hb], RT_stab q6 r2.zero (fun k hk => ?_)⟩
            rcases hk with hk | hk
            · exact hk.elim
            · exact ⟨.inl hk, by show (if okm1 k then b else lab k) = b + 0; rw [if_pos hk]; rfl⟩
          | succ j =>
            obtain ⟨e1, e2⟩ := r5 j x2 us2 (by simpa using hx) (by simpa using hu)
            refine ⟨e1, RT_stab e2 (fun k h => h) (fun k hk => ⟨.inr hk.1, ?_⟩)⟩
            have : ¬ okm1 k := fun h1 => by
              have h2 := (q2.got k h1).1
              obtain ⟨_, id, h3, _⟩ := r2.got k hk.1
              omega
            show (if okm1 k then b else lab k) = b + (j + 1)
            rw [if_neg this, hk.2]
            omega
        · cases h
    · cases h
/-- A literal's cells. -/
theorem fill_rows {size : Nat} : ∀ (ps : List (Nat × Value)) (k : Nat) (arr : Array Value), (∀ (j : Nat) p, ps[j]? = some p → p.1 = k + j ∧ p.2.cells.size = size) → arr.size = (k + ps.length) * size →
    ∃ arr', Instr.fill (fun i => some (i * size, size)) arr ps = some arr' ∧ arr'.toList = arr.toList.take (k * size) ++ (ps.map fun p => p.2.cells.toList).flatten
  | [], k, arr, _, hs => ⟨arr, rfl, by
      simp only [List.length_nil, Nat.add_zero] at hs
      simp only [List.map_nil, List.flatten_nil, List.append_nil]
      rw [List.take_of_length_le (by simp [hs])]⟩
  | (i, v) :: ps, k, arr, hp, hs => by
    obtain ⟨h1, h2⟩ := hp 0 (i, v) rfl
    simp only [Nat.add_zero] at h1
    simp only at h1 h2
    subst h1
    simp only [List.length_cons] at hs
    have hle : i * size + size ≤ arr.size := by
      rw [hs, show i + (ps.length + 1) = i + 1 + ps.length by omega, Nat.add_mul, Nat.add_mul, Nat.one_mul]
      omega
    have hf := foldl_set (i * size) v.cells.toList 0 arr (by simp; omega)
    rw [← Array.toList_zipIdx, Array.foldl_toList] at hf
    generalize hcur : (v.cells.zipIdx.foldl (fun cs (x : Value × Nat) => cs.setIfInBounds (i * size + x.2) x.1) arr) = cur at hf
    have hcs : cur.size = arr.size := by
      rw [← Array.length_toList, hf]
      simp only [Nat.add_zero, List.length_append, List.length_take, List.length_drop, Array.length_toList]
      omega
    obtain ⟨arr', e1, e2⟩ := fill_rows ps (i + 1) cur (fun j p hj => by
      obtain ⟨h3, h4⟩ := hp (j + 1) p (by simpa using hj)
      exact ⟨by omega, h4⟩) (by rw [hcs, hs]; congr 1; omega)
    refine ⟨arr', ?_, ?_⟩
    · simp only [Instr.fill]
      rw [if_neg (by simp [h2]; omega), hcur]
      exact e1
    · rw [e2, hf]
      simp only [Nat.add_zero, List.map_cons, List.flatten_cons]
      have l1 : (arr.toList.take (i * size) ++ v.cells.toList).length = (i + 1) * size := by
        rw [Nat.add_mul, Nat.one_mul]
        simp [h2]; omega
      rw [← l1, List.take_left]
      simp
theorem RSh_stab {s : Sh} {ok : Nat → Prop} {v : Value} {x : s.ty.den} {L2 : Nat → Nat} (h : RSh w (stab S0 base w L) true s ok v x) (h0 : ∀ k, L k = 0 → L2 k = 0) : RSh w (stab S0 base w L2) true s ok v x := RSh_upS h (fun k hk => (stab_mv h0 k hk).1)
theorem RTup_stab (ss : List Sh) {ok : Nat → Prop} {vs : List Value} {x : Shs.den ss} {L2 : Nat → Nat} (h : RTup w (stab S0 base w L) ss ok vs x) (h0 : ∀ k, L k = 0 → L2 k = 0) : RTup w (stab S0 base w L2) ss ok vs x := RTup_upS (fun k hk => (stab_mv h0 k hk).1) ss h
/-- A result comes in, its owned parts as new entries. -/
theorem inCells_sound : ∀ (t : Ty) {L : Nat → Nat} {β : Nat → Real} {H : List E} {ok : Nat → Prop} {cs : List Value} {x : t.den}, Rel S0 base w L β H → (∀ k, ok k → L k = 1) → RT w (stab S0 base w L) true t ok cs x →
    ∃ (L2 : Nat → Nat) (β2 : Nat → Real), Rel S0 base w L2 β2 (inCells t x H).2 ∧ (∀ k, L k = 0 → L2 k = 0) ∧ (∀ k, L2 k = L k ∨ (ok k ∧ 2 ≤ L2 k)) ∧ (∀ id, β id ≠ .non → β2 id = β id) ∧ CR w (stab S0 base w L2) β2 cs (inCells t x H).1
  | .unit, L, β, H, ok, cs, x, hr, hok, h => by
    rw [RT] at h; subst h
    exact ⟨L, β, hr, fun _ h => h, fun _ => .inl rfl, fun _ _ => rfl, rfl, (fun u hu => (by cases hu)), fun i u d hu => by simp at hu⟩
  | .int k, L, β, H, ok, cs, x, hr, hok, h => by
    rw [RT] at h; subst h
    refine ⟨L, β, hr, fun _ h => h, fun _ => .inl rfl, fun _ _ => rfl, rfl, fun u hu => by simp at hu; subst hu; rfl, fun i u d hu hd => ?_⟩
    cases i with
    | zero => simp [inCells] at hu hd; subst hu; subst hd; exact RD_mkInt _ _
    | succ i => simp at hu
  | .bool, L, β, H, ok, cs, x, hr, hok, h => by
    rw [RT] at h; subst h
    refine ⟨L, β, hr, fun _ h => h, fun _ => .inl rfl, fun _ _ => rfl, rfl, fun u hu => by simp at hu; subst hu; rfl, fun i u d hu hd => ?_⟩
    cases i with
    | zero => simp [inCells] at hu hd; subst hu; subst hd; exact RD_mkBool _
    | succ i => simp at hu
  | .str, L, β, H, ok, cs, x, hr, hok, h => by
    rw [RT] at h; subst h
    refine ⟨L, β, hr, fun _ h => h, fun _ => .inl rfl, fun _ _ => rfl, rfl, fun u hu => by simp at hu; subst hu; rfl, fun i u d hu hd => ?_⟩
    cases i with
    | zero => simp [inCells] at hu hd; subst hu; subst hd; exact RD_mkStr _
    | succ i => simp at hu
  | .sl false t, L, β, H, ok, cs, x, hr, hok, h => by
    have h0 := RT_frz (o := false) (ok' := fun _ => False) (by
      rw [RT] at h ⊢
      exact h : RT w (stab S0 base w L) false (.sl false t) ok cs x)
    rw [RT] at h
    obtain ⟨A, cap, rfl, hle, _⟩ := h
    refine ⟨L, β, hr, fun _ h => h, fun _ => .inl rfl, fun _ _ => rfl, rfl, fun u hu => by simp at hu; subst hu; rfl, fun i u d hu hd => ?_⟩
    cases i with
    | zero => simp [inCells] at hu hd; subst hu; subst hd; exact .val h0
    | succ i => simp at hu
  | .sl true t, L, β, H, ok, cs, x, hr, hok, h => by
    have h0 := h
    rw [RT] at h
    obtain ⟨A, cap, rfl, hle, _⟩ := h
    obtain ⟨q1, q2, q3⟩ := hr.push (e := .arr t x) (q := .arr A x.length cap t.width) hok ⟨A, cap, rfl, h0⟩
    refine ⟨_, _, q1, q2, fun k => ?_, q3, rfl, fun u hu => by simp at hu; subst hu; rfl, fun i u d hu hd => ?_⟩
    · show (if ok k then H.length + 2 else L k) = L k ∨ (ok k ∧ 2 ≤ (if ok k then H.length + 2 else L k))
      by_cases hk : ok k
      · rw [if_pos hk]; exact .inr ⟨hk, by omega⟩
      · rw [if_neg hk]; exact .inl rfl
    · cases i with
      | zero => simp [inCells] at hu hd; subst hu; subst hd; exact .ow (wd := t.width) (by simp)
      | succ i => simp at hu
  | .pair a b, L, β, H, ok, cs, x, hr, hok, h => by
    rw [RT] at h
    obtain ⟨p, c1, c2, rfl, h1, h2⟩ := h
    obtain ⟨L2, β2, q1, q2, q3, q4, q5⟩ := inCells_sound a hr (fun k hk => hok k hk.1) h1
    obtain ⟨L3, β3, r1, r2, r3, r4, r5⟩ := inCells_sound b (L := L2) (β := β2) (H := (inCells a x.1 H).2) q1 (fun k hk => by rw [(q3 k).resolve_right (fun h => hk.2 h.1.2)]; exact hok k hk.1) (RT_stab h2 q2 (fun k hk => hk))
    have hnon : ∀ id, β id ≠ .non → β2 id ≠ .non := fun id hne => by rw [q4 id hne]; exact hne
    refine ⟨L3, β3, r1, fun k h => r2 k (q2 k h), fun k => ?_, fun id hne => (r4 id (hnon id hne)).trans (q4 id hne), ?_⟩
    · rcases r3 k with h | h
      · rcases q3 k with h2 | h2
        · exact .inl (h.trans h2)
        · exact .inr ⟨h2.1.1, by rw [h]; exact h2.2⟩
      · exact .inr ⟨h.1.1, h.2⟩
    · obtain ⟨l1, o1, d1⟩ := q5
      obtain ⟨l2, o2, d2⟩ := r5
      refine ⟨by show _ = ((inCells a x.1 H).1 ++ (inCells b x.2 (inCells a x.1 H).2).1).length; rw [List.length_append, List.length_append, l1, l2], fun u hu => ?_, fun i u d hu hd => ?_⟩
      · rcases List.mem_append.1 hu with hu | hu
        · exact o1 u hu
        · exact o2 u hu
      · have hd : ((inCells a x.1 H).1 ++ (inCells b x.2 (inCells a x.1 H).2).1)[i]? = some d := hd
        rcases Nat.lt_or_ge i c1.length with hi | hi
        · rw [List.getElem?_append_left hi] at hu
          rw [List.getElem?_append_left (by omega)] at hd
          exact RD_grow (d1 i u d hu hd) (stab_mv r2) r4
        · rw [List.getElem?_append_right hi] at hu
          rw [List.getElem?_append_right (by omega), ← l1] at hd
          exact d2 _ u d hu hd
theorem inSh_sound {s : Sh} {L : Nat → Nat} {β : Nat → Real} {H H2 : List E} {ok : Nat → Prop} {v : Value} {x : s.ty.den} {d : D} (hr : Rel S0 base w L β H) (hok : ∀ k, ok k → L k = 1) (h : RSh w (stab S0 base w L) true s ok v x) (hi : inSh s x H = some (d, H2)) :
    ∃ (L2 : Nat → Nat) (β2 : Nat → Real), Rel S0 base w L2 β2 H2 ∧ (∀ k, L k = 0 → L2 k = 0) ∧ (∀ k, L2 k = L k ∨ (ok k ∧ 2 ≤ L2 k)) ∧ (∀ id, β id ≠ .non → β2 id = β id) ∧ RD w (stab S0 base w L2) β2 v d := by
  cases s with
  | agg t =>
    obtain ⟨arr, rfl, hrt⟩ := h
    simp only [inSh, Option.some.injEq, Prod.mk.injEq] at hi
    obtain ⟨rfl, rfl⟩ := hi
    obtain ⟨L2, β2, q1, q2, q3, q4, l1, o1, d1⟩ := inCells_sound t hr hok hrt
    exact ⟨L2, β2, q1, q2, q3, q4, .agg (by rw [← l1]; simp) (fun i u hu => o1 u (by rw [← Array.getElem?_toList] at hu; exact List.mem_of_getElem? hu)) (fun i u d hu hd => d1 i u d (by rw [Array.getElem?_toList]; exact hu) hd)⟩
  | one t =>
    obtain ⟨hw, hrt⟩ := h
    simp only [inSh] at hi
    obtain ⟨L2, β2, q1, q2, q3, q4, l1, o1, d1⟩ := inCells_sound t hr hok hrt
    split at hi
    · rename_i d2 hd2
      simp only [Option.some.injEq, Prod.mk.injEq] at hi
      obtain ⟨rfl, rfl⟩ := hi
      exact ⟨L2, β2, q1, q2, q3, q4, d1 0 v d2 rfl (by rw [hd2]; rfl)⟩
    · cases hi
theorem inShs_sound : ∀ (ss : List Sh) {L : Nat → Nat} {β : Nat → Real} {H H2 : List E} {ok : Nat → Prop} {vs : List Value} {x : Shs.den ss} {ds : List D}, Rel S0 base w L β H → (∀ k, ok k → L k = 1) → RTup w (stab S0 base w L) ss ok vs x → inShs ss x H = some (ds, H2) →
    ∃ (L2 : Nat → Nat) (β2 : Nat → Real), Rel S0 base w L2 β2 H2 ∧ (∀ k, L k = 0 → L2 k = 0) ∧ (∀ k, L2 k = L k ∨ (ok k ∧ 2 ≤ L2 k)) ∧ (∀ id, β id ≠ .non → β2 id = β id) ∧ vs.length = ds.length ∧ ∀ (i : Nat) v d, vs[i]? = some v → ds[i]? = some d → RD w (stab S0 base w L2) β2 v d
  | [], L, β, H, H2, ok, vs, x, ds, hr, hok, h, hi => by
    simp only [inShs, Option.some.injEq, Prod.mk.injEq] at hi
    obtain ⟨rfl, rfl⟩ := hi
    have : vs = [] := h
    subst this
    exact ⟨L, β, hr, fun _ h => h, fun _ => .inl rfl, fun _ _ => rfl, rfl, fun i v d hv => by simp at hv⟩
  | s :: ss, L, β, H, H2, ok, vs, x, ds, hr, hok, h, hi => by
    obtain ⟨p, v, vr, rfl, h1, h2⟩ := h
    simp only [inShs, Option.bind_eq_some_iff] at hi
    obtain ⟨⟨d, H3⟩, h3, ⟨es, H4⟩, h4, h5⟩ := hi
    simp only [Option.some.injEq, Prod.mk.injEq] at h5
    obtain ⟨rfl, rfl⟩ := h5
    obtain ⟨L2, β2, q1, q2, q3, q4, q5⟩ := inSh_sound hr (fun k hk => hok k hk.1) h1 h3
    obtain ⟨L3, β3, r1, r2, r3, r4, r5, r6⟩ := inShs_sound ss q1 (fun k hk => by rw [(q3 k).resolve_right (fun h => hk.2 h.1.2)]; exact hok k hk.1) (RTup_stab ss h2 q2) h4
    have hnon : ∀ id, β id ≠ .non → β2 id ≠ .non := fun id hne => by rw [q4 id hne]; exact hne
    refine ⟨L3, β3, r1, fun k h => r2 k (q2 k h), fun k => (r3 k).elim (fun h => (q3 k).elim (fun h2 => .inl (h.trans h2)) (fun h2 => .inr ⟨h2.1.1, by rw [h]; exact h2.2⟩)) (fun h => .inr ⟨h.1.1, h.2⟩), fun id hne => (r4 id (hnon id hne)).trans (q4 id hne), by simp [r5], fun i v2 d2 hv hd => ?_⟩
    cases i with
    | zero => simp at hv hd; subst hv; subst hd; exact RD_grow q5 (stab_mv r2) r4
    | succ i => exact r6 i v2 d2 (by simpa using hv) (by simpa using hd)
end
end Go.Eng
/- Own slices inside own rows: out of the row, and back into it. -/
namespace Go.Eng
open Go.RowKit
open Classical
set_option linter.unusedVariables false
set_option linter.unusedSimpArgs false
set_option linter.unusedSectionVars false
section
variable {w : World} {S : Nat → Prop}
theorem RT_ok {o : Bool} {t : Ty} {ok ok' : Nat → Prop} {cs : List Value} {x : t.den} (h : RT w S o t ok cs x) (hk : ∀ k, ok k → ok' k) : RT w S o t ok' cs x :=
  RT_mono t h (fun k hk => ⟨hk, rfl⟩) (fun k h => ⟨hk k h, rfl⟩)
theorem RT_nil {o : Bool} {ok : Nat → Prop} (own : Bool) (t : Ty) : RT w S o (.sl own t) ok [.slice none 0 0] [] := by
  rw [RT]
  refine ⟨none, 0, rfl, Nat.le_refl _, ?_⟩
  split
  · exact .inl ⟨rfl, rfl⟩
  · intro h; exact absurd rfl h
/-- An own slice of a row, taken by itself, and the row without it. -/
theorem RT_out : ∀ (t : Ty) {ok : Nat → Prop} {cs : List Value} {x : t.den} {c : Nat} {s : Ty} {l : List s.den}, RT w S true t ok cs x → (cells t x)[c]? = some (.val (.sl true s) l) →
    ∃ (p : Nat → Prop) (v : Value), cs[c]? = some v ∧ RT w S true (.sl true s) (fun k => ok k ∧ p k) [v] l ∧ RT w S true t (fun k => ok k ∧ ¬ p k) (cs.set c (.slice none 0 0)) (nilCell t x c)
  | .unit, _, _, _, _, _, _, h, hc => by simp [cells] at hc
  | .int k, _, _, _, c, _, _, h, hc => by
    cases c with
    | zero => simp [cells] at hc
    | succ c => simp [cells] at hc
  | .bool, _, _, _, c, _, _, h, hc => by
    cases c with
    | zero => simp [cells] at hc
    | succ c => simp [cells] at hc
  | .str, _, _, _, c, _, _, h, hc => by
    cases c with
    | zero => simp [cells] at hc
    | succ c => simp [cells] at hc
  | .sl o t, ok, cs, x, c, s, l, h, hc => by
    cases c with
    | succ c => simp [cells] at hc
    | zero =>
      simp only [cells, List.getElem?_cons_zero, Option.some.injEq, D.val.injEq, Ty.sl.injEq] at hc
      obtain ⟨⟨rfl, rfl⟩, hx⟩ := hc
      have hx := eq_of_heq hx
      subst hx
      have h0 := h
      rw [RT] at h
      obtain ⟨A, cap, rfl, hle, _⟩ := h
      exact ⟨fun _ => True, _, rfl, RT_ok h0 (fun k hk => ⟨hk, trivial⟩), RT_nil true t⟩
  | .pair a b, ok, cs, x, c, s, l, h, hc => by
    rw [RT] at h
    obtain ⟨p, c1, c2, rfl, h1, h2⟩ := h
    have l1 := cells_len true a h1
    have w1 := RT_len a h1
    simp only [cells] at hc
    rcases Nat.lt_or_ge c a.width with hlt | hge
    · rw [List.getElem?_append_left (by omega)] at hc
      obtain ⟨p1, v, e1, e2, e3⟩ := RT_out a h1 hc
      refine ⟨fun k => p k ∧ p1 k, v, by rw [List.getElem?_append_left (by omega)]; exact e1, RT_ok e2 (fun k hk => ⟨hk.1.1, hk.1.2, hk.2⟩), ?_⟩
      rw [List.set_append_left _ _ (by omega)]
      have hn : nilCell (.pair a b) x c = (nilCell a x.1 c, x.2) := by
        show (bif Nat.ble a.width c then _ else _) = _
        rw [show Nat.ble a.width c = false from by cases hb : Nat.ble a.width c with | false => rfl | true => have := Nat.le_of_ble_eq_true hb; omega]
        rfl
      rw [hn, RT]
      refine ⟨p, _, _, rfl, RT_ok e3 (fun k hk => ⟨⟨hk.1.1, fun h => hk.2 h.2⟩, hk.1.2⟩), RT_ok h2 (fun k hk => ⟨⟨hk.1, fun h => hk.2 h.1⟩, hk.2⟩)⟩
    · rw [List.getElem?_append_right (by omega), l1, w1] at hc
      obtain ⟨p1, v, e1, e2, e3⟩ := RT_out b h2 hc
      refine ⟨fun k => ¬ p k ∧ p1 k, v, by rw [List.getElem?_append_right (by omega), w1]; exact e1, RT_ok e2 (fun k hk => ⟨hk.1.1, hk.1.2, hk.2⟩), ?_⟩
      rw [List.set_append_right _ _ (by omega), w1]
      have hn : nilCell (.pair a b) x c = (x.1, nilCell b x.2 (c - a.width)) := by
        show (bif Nat.ble a.width c then _ else _) = _
        rw [Nat.ble_eq_true_of_le hge]
        rfl
      rw [hn, RT]
      refine ⟨p, _, _, rfl, RT_ok h1 (fun k hk => ⟨⟨hk.1, fun h => h.1 hk.2⟩, hk.2⟩), RT_ok e3 (fun k hk => ⟨⟨hk.1.1, fun h => hk.2 h.2⟩, hk.1.2⟩)⟩
/-- An own slice put over a cell of a row. -/
theorem RT_put {s : Ty} {l : List s.den} {ok2 : Nat → Prop} {v : Value} (hs : RT w S true (.sl true s) ok2 [v] l) : ∀ (t : Ty) {ok : Nat → Prop} {cs : List Value} {x y : t.den} {c : Nat}, c < t.width → RT w S true t ok cs x → (∀ k, ok k → ¬ ok2 k) → putSl s l t x c = some y →
    RT w S true t (fun k => ok k ∨ ok2 k) (cs.set c v) y
  | .unit, _, _, _, _, _, hc, h, hd, hp => by cases hp
  | .int k, _, _, _, _, _, hc, h, hd, hp => by cases hp
  | .bool, _, _, _, _, _, hc, h, hd, hp => by cases hp
  | .str, _, _, _, _, _, hc, h, hd, hp => by cases hp
  | .sl false t, _, _, _, _, _, hc, h, hd, hp => by cases hp
  | .sl true t, ok, cs, x, y, c, hc, h, hd, hp => by
    simp only [putSl] at hp
    split at hp
    · rename_i e
      subst e
      cases hp
      have hc0 : c = 0 := by simp only [Ty.width] at hc; omega
      subst hc0
      have hl := RT_len _ h
      obtain ⟨u, rfl⟩ := List.length_eq_one_iff.1 hl
      exact RT_ok hs (fun k hk => .inr hk)
    · cases hp
  | .pair a b, ok, cs, x, y, c, hc, h, hd, hp => by
    rw [RT] at h
    obtain ⟨p, c1, c2, rfl, h1, h2⟩ := h
    have w1 := RT_len a h1
    simp only [putSl] at hp
    cases hb : Nat.ble a.width c with
    | true =>
      have hge := Nat.le_of_ble_eq_true hb
      rw [hb, cond_true] at hp
      split at hp
      · rename_i y2 h3
        cases hp
        have := RT_put hs b (by simp only [Ty.width] at hc; omega) h2 (fun k hk => hd k hk.1) h3
        rw [List.set_append_right _ _ (by omega), w1, RT]
        exact ⟨fun k => p k ∧ ¬ ok2 k, _, _, rfl, RT_ok h1 (fun k hk => ⟨.inl hk.1, hk.2, hd k hk.1⟩), RT_ok this (fun k hk => hk.elim (fun h => ⟨.inl h.1, fun h3 => h.2 h3.1⟩) (fun h => ⟨.inr h, fun h3 => h3.2 h⟩))⟩
      · cases hp
    | false =>
      have hlt : c < a.width := by
        rcases Nat.lt_or_ge c a.width with h3 | h3
        · exact h3
        · rw [Nat.ble_eq_true_of_le h3] at hb; cases hb
      rw [hb, cond_false] at hp
      split at hp
      · rename_i y2 h3
        cases hp
        have := RT_put hs a hlt h1 (fun k hk => hd k hk.1) h3
        rw [List.set_append_left _ _ (by omega), RT]
        exact ⟨fun k => p k ∨ ok2 k, _, _, rfl, RT_ok this (fun k hk => hk.elim (fun h => ⟨.inl h.1, .inl h.2⟩) (fun h => ⟨.inr h, .inr h⟩)), RT_ok h2 (fun k hk => ⟨.inl hk.1, fun h3 => h3.elim hk.2 (hd k hk.1)⟩)⟩
      · cases hp
end
section
variable {P : Program} {c : Cfg} {h : Hint} {S0 : Nat → Prop} {base : Nat → Prop} {w : World} {L : Nat → Nat} {β : Nat → Real} {H : List E} {a : Act} {T : List (Nat × D)} {o : Oper} {R : Type} {r : R} {K : List (Nat × D) → List E → D → Option R}
/-- A row of which nothing is out as yet. -/
theorem Rel.det0 (hr : Rel S0 base w L β H) {id j : Nat} {t : Ty} {l : List t.den} {x : t.den} (hH : H[id]? = some (.arr t l)) (hj : l[j]? = some x) : Rel S0 base w L β (H.set id (.det t l j x [])) := by
  refine (hr.write (w' := w) (fun _ _ => rfl) rfl ?_).1
  obtain ⟨A, cap, hre, hrt⟩ := hr.ent id _ hH
  rw [RT] at hrt
  obtain ⟨A2, cap3, hA, hle, hrt⟩ := hrt
  simp only [List.cons.injEq, Value.slice.injEq, and_true] at hA
  obtain ⟨rfl, _, rfl⟩ := hA
  have hjl : j < l.length := (List.getElem?_eq_some_iff.1 hj).1
  rw [if_pos (show (true && true) = true from rfl)] at hrt
  rcases hrt with ⟨hA, h0⟩ | ⟨g, st, arr, ty, lab, rfl, hok, hb, hf, hrow⟩
  · omega
  · obtain ⟨cs, c1, c2, c3⟩ := hrow j x hj
    exact ⟨g, st, _, arr, ty, lab, hre, hle, hok, hb, hf, hjl, fun i y _ hy => hrow i y hy, cs, cs, c1, c2, c3, fun _ _ => rfl, fun h hh => by cases hh⟩
/-- One own slice goes out. -/
theorem Rel.out (hr : Rel S0 base w L β H) {id j q cap : Nat} {ad : Addr} {t s : Ty} {l : List t.den} {x : t.den} {l2 : List s.den} {hs : List (Nat × Nat)} (hH : H[id]? = some (.det t l j x hs)) (hq : ∀ h ∈ hs, h.1 ≠ q) (hc : (cells t x)[q]? = some (.val (.sl true s) l2)) (hβ : β id = .arr (some ad) l.length cap t.width) :
    ∃ L2 β2 v, Rel S0 base w L2 β2 (H.set id (.det t l j (nilCell t x q) ((q, H.length) :: hs)) ++ [.arr s l2]) ∧ (∀ k, L k = 0 → L2 k = 0) ∧ (∀ i, β i ≠ .non → β2 i = β i) ∧ w.cell? (ad.add (j * t.width + q)) = some v ∧ one v = true ∧ RD w (stab S0 base w L2) β2 v (.ow H.length) ∧ β2 H.length ≠ .non := by
  have hidl : id < H.length := (List.getElem?_eq_some_iff.1 hH).1
  obtain ⟨g, st, cap2, arr, e, lab, e1, e2, e3, e4, e5, e6, e7, c, c0, e8, e9, e10, e11, e12⟩ := hr.ent id _ hH
  rw [hβ] at e1
  cases e1
  obtain ⟨p, v, p1, p2, p3⟩ := RT_out t e10 hc
  have hcv : c[q]? = some v := (e11 q hq).trans p1
  have p2' := p2
  rw [RT] at p2'
  obtain ⟨A, cp, hv, hle, _⟩ := p2'
  simp only [List.cons.injEq, and_true] at hv
  subst hv
  have h0 : ∀ k, L k = 0 → (if L k = id + 2 ∧ k ≠ g ∧ lab k = j ∧ p k then H.length + 2 else L k) = 0 := fun k hk => by rw [if_neg (by omega)]; exact hk
  have hβ2 : ∀ i, β i ≠ .non → (if i = H.length then Real.arr A l2.length cp s.width else β i) = β i := fun i hne => by
    rw [if_neg]
    intro e; exact hne (hr.non i (by omega))
  refine ⟨fun k => if L k = id + 2 ∧ k ≠ g ∧ lab k = j ∧ p k then H.length + 2 else L k, fun i => if i = H.length then .arr A l2.length cp s.width else β i, _, ⟨hr.base_le, fun k hk => h0 k (hr.low k hk), fun k hk => h0 k (hr.hi k hk), fun k => ?_, fun i hi => ?_, fun i e2 he2 => ?_⟩, h0, hβ2, ?_, rfl, .ow (A := A) (len := l2.length) (cap := cp) (wd := s.width) (by simp), by simp⟩
  · have := hr.top k
    simp only [List.length_append, List.length_set, List.length_singleton]
    split <;> omega
  · simp only [List.length_append, List.length_set, List.length_singleton] at hi
    rw [if_neg (by omega)]
    exact hr.non i (by omega)
  · rw [List.getElem?_append] at he2
    split at he2
    · rename_i hi
      rw [List.length_set] at hi
      rw [if_neg (by omega)]
      rw [List.getElem?_set] at he2
      split at he2
      · rename_i hi2
        subst hi2
        simp only [hidl, if_true, Option.some.injEq] at he2
        subst he2
        have hmem : ∀ k, L k = id + 2 → ¬ (k ≠ g ∧ lab k = j ∧ p k) → (if L k = id + 2 ∧ k ≠ g ∧ lab k = j ∧ p k then H.length + 2 else L k) = id + 2 := fun k hk hn => by
          rw [if_neg (fun h => hn h.2)]; exact hk
        refine ⟨g, st, cap, arr, e, lab, hβ, e2, hmem g e3 (fun h => h.1 rfl), e4, e5, e6, fun i y hi hy => ?_, c, c0.set q (.slice none 0 0), e8, e9, ?_, fun q2 hq2 => ?_, fun h hh => ?_⟩
        · obtain ⟨c, f1, f2, f3⟩ := e7 i y hi hy
          exact ⟨c, f1, f2, RT_stab f3 h0 (fun k hk => ⟨hmem k hk.1 (fun h => hi (hk.2.2.symm.trans h.2.1)), hk.2⟩)⟩
        · exact RT_stab p3 h0 (fun k hk => ⟨hmem k hk.1.1 (fun h => hk.2 h.2.2), hk.1.2⟩)
        · have h1 := hq2 (q, H.length) (by simp)
          rw [List.getElem?_set_ne h1]
          exact e11 q2 (fun h hh => hq2 h (by simp [hh]))
        · rcases List.mem_cons.1 hh with rfl | hh
          · exact ⟨A, l2.length, cp, s.width, hcv, by simp⟩
          · obtain ⟨A3, n3, cp3, wd3, f1, f2⟩ := e12 h hh
            exact ⟨A3, n3, cp3, wd3, f1, (hβ2 _ (by rw [f2]; simp)).trans f2⟩
      · rename_i hi2
        refine RE_grow (hr.ent i e2 he2) (stab_mv h0) (fun k hk => ⟨?_, rfl⟩) hβ2
        show (if L k = id + 2 ∧ k ≠ g ∧ lab k = j ∧ p k then H.length + 2 else L k) = i + 2
        rw [if_neg (by omega)]; exact hk
    · rename_i hi
      rw [List.length_set] at hi he2
      have hi2 : i - H.length = 0 := by
        have := (List.getElem?_eq_some_iff.1 he2).1
        simp at this; omega
      have hi3 : i = H.length := by omega
      rw [hi2] at he2
      simp only [List.getElem?_cons_zero, Option.some.injEq] at he2
      subst he2
      rw [if_pos hi3, hi3]
      refine ⟨A, cp, rfl, RT_stab p2 h0 (fun k hk => ?_)⟩
      show (if L k = id + 2 ∧ k ≠ g ∧ lab k = j ∧ p k then H.length + 2 else L k) = H.length + 2
      rw [if_pos ⟨hk.1.1, hk.1.2.1, hk.1.2.2, hk.2⟩]
  · rw [add_at, cell_blk e4]
    exact e9 q _ hcv
theorem outC_cons_own {t : Ty} {x : t.den} {q : Nat} {s : Ty} {l2 : List s.den} {r : List D} {hs : List (Nat × Nat)} {H : List E} :
    outC t x q (.val (.sl true s) l2 :: r) hs H = ((outC t (nilCell t x q) (q + 1) r ((q, H.length) :: hs) (H ++ [.arr s l2])).1, .ow H.length :: (outC t (nilCell t x q) (q + 1) r ((q, H.length) :: hs) (H ++ [.arr s l2])).2.1, (outC t (nilCell t x q) (q + 1) r ((q, H.length) :: hs) (H ++ [.arr s l2])).2.2) := rfl
theorem outC_cons {t : Ty} {x : t.den} {q : Nat} {d : D} {r : List D} {hs : List (Nat × Nat)} {H : List E} (hd : ∀ s l2, d ≠ .val (.sl true s) l2) :
    outC t x q (d :: r) hs H = ((outC t x (q + 1) r hs H).1, d :: (outC t x (q + 1) r hs H).2.1, (outC t x (q + 1) r hs H).2.2) := by
  cases d with
  | val t2 x2 =>
    cases t2 with
    | sl o s =>
      cases o with
      | true => exact absurd rfl (hd _ _)
      | false => rfl
    | _ => rfl
  | _ => rfl
theorem cells_width : ∀ (t : Ty) (x : t.den), (cells t x).length = t.width
  | .unit, x => rfl
  | .int k, x => rfl
  | .bool, x => rfl
  | .str, x => rfl
  | .sl o t, x => rfl
  | .pair a b, x => by simp [cells, Ty.width, cells_width a, cells_width b]
theorem cells_nilCell : ∀ (t : Ty) (x : t.den) (q m : Nat), q < t.width → q ≠ m → (cells t (nilCell t x q))[m]? = (cells t x)[m]?
  | .unit, x, q, m, hq, h => rfl
  | .int k, x, q, m, hq, h => rfl
  | .bool, x, q, m, hq, h => rfl
  | .str, x, q, m, hq, h => rfl
  | .sl o t, x, q, m, hq, h => by
    cases m with
    | zero => simp [Ty.width] at hq; exact absurd hq h
    | succ m => simp [cells]
  | .pair a b, x, q, m, hq, h => by
    simp only [Ty.width] at hq
    rcases Nat.lt_or_ge q a.width with hlt | hge
    · have hn : nilCell (.pair a b) x q = (nilCell a x.1 q, x.2) := by
        show (bif Nat.ble a.width q then _ else _) = _
        rw [show Nat.ble a.width q = false from by cases hb : Nat.ble a.width q with | false => rfl | true => have := Nat.le_of_ble_eq_true hb; omega]
        rfl
      rw [hn]
      simp only [cells]
      rcases Nat.lt_or_ge m a.width with h1 | h1
      · rw [List.getElem?_append_left (by rw [cells_width]; exact h1), List.getElem?_append_left (by rw [cells_width]; exact h1)]
        exact cells_nilCell a x.1 q m hlt h
      · rw [List.getElem?_append_right (by rw [cells_width]; exact h1), List.getElem?_append_right (by rw [cells_width]; exact h1), cells_width, cells_width]
    · have hn : nilCell (.pair a b) x q = (x.1, nilCell b x.2 (q - a.width)) := by
        show (bif Nat.ble a.width q then _ else _) = _
        rw [Nat.ble_eq_true_of_le hge]
        rfl
      rw [hn]
      simp only [cells]
      rcases Nat.lt_or_ge m a.width with h1 | h1
      · rw [List.getElem?_append_left (by rw [cells_width]; exact h1), List.getElem?_append_left (by rw [cells_width]; exact h1)]
      · rw [List.getElem?_append_right (by rw [cells_width]; exact h1), List.getElem?_append_right (by rw [cells_width]; exact h1), cells_width]
        exact cells_nilCell b x.2 _ _ (by omega) (by omega)
/-- The own slices of some cells of a row go out. -/
theorem outC_sound {id j cap : Nat} {ad : Addr} {t : Ty} {l : List t.den} : ∀ (r : List D) {L : Nat → Nat} {β : Nat → Real} {H : List E} {x : t.den} {q : Nat} {hs : List (Nat × Nat)}, Rel S0 base w L β (H.set id (.det t l j x hs)) → id < H.length → β id = .arr (some ad) l.length cap t.width → (∀ h ∈ hs, h.1 < q) → (∀ m d, r[m]? = some d → (cells t x)[q + m]? = some d) → (outC t x q r hs H).2.1.all noOwn = true →
    ∃ L2 β2, Rel S0 base w L2 β2 ((outC t x q r hs H).2.2.2.set id (.det t l j (outC t x q r hs H).1 (outC t x q r hs H).2.2.1)) ∧ (∀ k, L k = 0 → L2 k = 0) ∧ (∀ i, β i ≠ .non → β2 i = β i) ∧ (outC t x q r hs H).2.1.length = r.length ∧
      ∀ m d, (outC t x q r hs H).2.1[m]? = some d → ∃ u, w.cell? (ad.add (j * t.width + (q + m))) = some u ∧ one u = true ∧ RD w (stab S0 base w L2) β2 u d
  | [], L, β, H, x, q, hs, hr, hid, hβ, hq, hd, hn => ⟨L, β, hr, fun _ h => h, fun _ _ => rfl, rfl, fun m d hm => by simp [outC] at hm⟩
  | d :: r, L, β, H, x, q, hs, hr, hid, hβ, hq, hd, hn => by
    have hH : (H.set id (.det t l j x hs))[id]? = some (.det t l j x hs) := by simp [hid]
    have hdq : (cells t x)[q]? = some d := by simpa using hd 0 d rfl
    have hqw : q < t.width := by rw [← cells_width t x]; exact (List.getElem?_eq_some_iff.1 hdq).1
    by_cases hown : ∃ s l2, d = .val (.sl true s) l2
    · obtain ⟨s, l2, rfl⟩ := hown
      obtain ⟨L1, β1, v, r1, r2, r3, r4, r5, r6, r7⟩ := hr.out hH (fun h hh => by have := hq h hh; omega) hdq hβ
      rw [List.length_set] at r1 r6 r7
      have e1 : (H.set id (.det t l j x hs)).set id (.det t l j (nilCell t x q) ((q, H.length) :: hs)) ++ [E.arr s l2] = (H ++ [E.arr s l2]).set id (.det t l j (nilCell t x q) ((q, H.length) :: hs)) := by
        rw [List.set_set, List.set_append_left _ _ hid]
      rw [e1] at r1
      rw [outC_cons_own] at hn ⊢
      simp only [List.all_cons, Bool.and_eq_true] at hn
      obtain ⟨L2, β2, q1, q2, q3, q4, q5⟩ := outC_sound r r1 (by simp; omega) ((r3 id (by rw [hβ]; simp)).trans hβ) (fun h hh => by
        rcases List.mem_cons.1 hh with rfl | hh
        · exact Nat.lt_succ_self q
        · have := hq h hh; omega) (fun m d hm => by
        rw [cells_nilCell t x q (q + 1 + m) hqw (by omega), Nat.add_assoc, Nat.add_comm 1 m]
        exact hd (m + 1) d (by simpa using hm)) hn.2
      refine ⟨L2, β2, q1, fun k hk => q2 k (r2 k hk), fun i hne => (q3 i (by rw [r3 i hne]; exact hne)).trans (r3 i hne), by simp [q4], fun m d hm => ?_⟩
      cases m with
      | zero =>
        simp only [List.getElem?_cons_zero, Option.some.injEq] at hm
        subst hm
        exact ⟨v, r4, r5, RD_grow r6 (stab_mv q2) (fun i hne => q3 i hne)⟩
      | succ m =>
        obtain ⟨u, f1, f2⟩ := q5 m d (by simpa using hm)
        exact ⟨u, by rw [show q + (m + 1) = q + 1 + m by omega]; exact f1, f2⟩
    · have hown : ∀ s l2, d ≠ .val (.sl true s) l2 := fun s l2 e => hown ⟨s, l2, e⟩
      rw [outC_cons hown] at hn ⊢
      simp only [List.all_cons, Bool.and_eq_true] at hn
      obtain ⟨L2, β2, q1, q2, q3, q4, q5⟩ := outC_sound r hr hid hβ (fun h hh => by have := hq h hh; omega) (fun m d hm => by
        rw [Nat.add_assoc, Nat.add_comm 1 m]
        exact hd (m + 1) d (by simpa using hm)) hn.2
      refine ⟨L2, β2, q1, q2, q3, by simp [q4], fun m d2 hm => ?_⟩
      cases m with
      | zero =>
        simp only [List.getElem?_cons_zero, Option.some.injEq] at hm
        subst hm
        obtain ⟨g, st, cap2, arr, e, lab, e1, e2, e3, e4, e5, e6, e7, c, c0, e8, e9, e10, e11, e12⟩ := hr.ent id _ hH
        rw [hβ] at e1
        cases e1
        have hl0 := RT_len t e10
        have hu : c0[q]? = some c0[q] := List.getElem?_eq_getElem (by omega)
        have hcu : c[q]? = some c0[q] := (e11 q (fun h hh => by have := hq h hh; omega)).trans hu
        refine ⟨c0[q], ?_, RT_one t e10 _ (List.mem_of_getElem? hu), RD_grow (cells_RD_own t e10 q _ d hu hdq hn.1) (stab_mv q2) (fun i hne => q3 i hne)⟩
        rw [add_at, cell_blk e4]
        exact e9 q _ hcu
      | succ m =>
        obtain ⟨u, f1, f2⟩ := q5 m d2 (by simpa using hm)
        exact ⟨u, by rw [show q + (m + 1) = q + 1 + m by omega]; exact f1, f2⟩
end
end Go.Eng
/- What is out of a row comes back; entries that were moved out come back; the world behind a call that writes into its arguments. -/
namespace Go.Eng
open Go.RowKit
open Classical
set_option linter.unusedVariables false
set_option linter.unusedSimpArgs false
set_option linter.unusedSectionVars false
section
variable {P : Program} {c : Cfg} {h : Hint} {S0 : Nat → Prop} {base : Nat → Prop} {w w' : World} {L : Nat → Nat} {β : Nat → Real} {H : List E}
theorem attL_sound {id j : Nat} {t : Ty} {l : List t.den} : ∀ (hs : List (Nat × Nat)) {L : Nat → Nat} {H : List E} {x : t.den}, Rel S0 base w L β H → H[id]? = some (.det t l j x hs) → ∃ L2, Rel S0 base w L2 β (attL id t l j x hs H) ∧ ∀ k, L k = 0 → L2 k = 0
  | [], L, H, x, hr, hH => by
    refine ⟨L, (hr.write (w' := w) (fun _ _ => rfl) rfl ?_).1, fun _ h => h⟩
    obtain ⟨g, st, cap, arr, e, lab, e1, e2, e3, e4, e5, e6, e7, c, c0, e8, e9, e10, e11, e12⟩ := hr.ent id _ hH
    have hc : c = c0 := List.ext_getElem? fun q => e11 q (fun h hh => by cases hh)
    subst hc
    refine ⟨_, cap, by rw [List.length_set]; exact e1, ?_⟩
    rw [RT]
    refine ⟨_, cap, rfl, by rw [List.length_set]; exact e2, ?_⟩
    rw [if_pos (show (true && true) = true from rfl)]
    refine .inr ⟨g, st, arr, e, lab, rfl, e3, e4, e5, fun i y hy => ?_⟩
    rw [List.getElem?_set] at hy
    split at hy
    · rename_i hij
      subst hij
      simp only [e6, if_true, Option.some.injEq] at hy
      subst hy
      exact ⟨c, e8, e9, e10⟩
    · rename_i hij
      exact e7 i y (fun e => hij e.symm) hy
  | h :: r, L, H, x, hr, hH => by
    rw [attL]
    split
    · rename_i s l2 hH2
      split
      · rename_i y hy
        have hne : h.2 ≠ id := fun e => by rw [e, hH] at hH2; cases hH2
        have hidl : id < H.length := (List.getElem?_eq_some_iff.1 hH).1
        obtain ⟨g, st, cap, arr, e, lab, e1, e2, e3, e4, e5, e6, e7, c, c0, e8, e9, e10, e11, e12⟩ := hr.ent id _ hH
        obtain ⟨A, n, cp, wd, f1, f2⟩ := e12 h (by simp)
        obtain ⟨A2, cp2, f3, f4⟩ := hr.ent h.2 _ hH2
        rw [f2] at f3
        cases f3
        have hv := RT_put f4 t (y := y) (c := h.1) (by rw [← e8]; exact (List.getElem?_eq_some_iff.1 f1).1) e10 (fun k h1 h2 => by have h3 : L k = id + 2 := h1.1; have h4 : L k = h.2 + 2 := h2; omega) hy
        have h0 : ∀ k, L k = 0 → (if L k = h.2 + 2 then id + 2 else L k) = 0 := fun k hk => by rw [if_neg (by omega)]; exact hk
        have hrel : Rel S0 base w (fun k => if L k = h.2 + 2 then id + 2 else L k) β ((H.set h.2 .dead).set id (.det t l j y r)) := by
          refine ⟨hr.base_le, fun k hk => h0 k (hr.low k hk), fun k hk => h0 k (hr.hi k hk), fun k => ?_, fun i hi => hr.non i (by simpa using hi), fun i e2' he2 => ?_⟩
          · have := hr.top k
            simp only [List.length_set]
            split <;> omega
          · rw [List.getElem?_set] at he2
            split at he2
            · rename_i hi
              subst hi
              simp only [List.length_set, hidl, if_true, Option.some.injEq] at he2
              subst he2
              have hmem : ∀ k, L k = id + 2 → (if L k = h.2 + 2 then id + 2 else L k) = id + 2 := fun k hk => by
                rw [if_neg (by omega)]; exact hk
              refine ⟨g, st, cap, arr, e, fun k => if L k = h.2 + 2 then j else lab k, e1, e2, hmem g e3, e4, e5, e6, fun i y hi hy => ?_, c, c0.set h.1 (.slice A l2.length cp), e8, e9, RT_stab hv h0 (fun k hk => ?_), fun q hq => ?_, fun h2 hh2 => e12 h2 (by simp [hh2])⟩
              · obtain ⟨c, g1, g2, g3⟩ := e7 i y hi hy
                refine ⟨c, g1, g2, RT_stab g3 h0 (fun k hk => ⟨hmem k hk.1, hk.2.1, ?_⟩)⟩
                have h3 : L k = id + 2 := hk.1
                show (if L k = h.2 + 2 then j else lab k) = i
                rw [if_neg (by omega)]; exact hk.2.2
              · rcases hk with hk | hk
                · refine ⟨hmem k hk.1, hk.2.1, ?_⟩
                  have h3 : L k = id + 2 := hk.1
                  show (if L k = h.2 + 2 then j else lab k) = j
                  rw [if_neg (by omega)]; exact hk.2.2
                · have h3 : L k = h.2 + 2 := hk
                  refine ⟨by show (if L k = h.2 + 2 then id + 2 else L k) = id + 2; rw [if_pos h3], fun e => ?_, by show (if L k = h.2 + 2 then j else lab k) = j; rw [if_pos h3]⟩
                  have h5 : L g = id + 2 := e3
                  rw [e] at h3
                  omega
              · by_cases hqh : h.1 = q
                · subst hqh
                  have hlt : h.1 < c0.length := by rw [RT_len t e10, ← e8]; exact (List.getElem?_eq_some_iff.1 f1).1
                  rw [f1, List.getElem?_set_self hlt]
                · rw [List.getElem?_set_ne hqh]
                  exact e11 q (fun h2 hh2 => by
                    rcases List.mem_cons.1 hh2 with rfl | hh2
                    · exact hqh
                    · exact hq h2 hh2)
            · rename_i hi
              rw [List.getElem?_set] at he2
              split at he2
              · rename_i hi2
                split at he2
                · cases he2; trivial
                · cases he2
              · rename_i hi2
                refine RE_grow (hr.ent i e2' he2) (stab_mv h0) (fun k hk => ⟨?_, rfl⟩) (fun _ _ => rfl)
                show (if L k = h.2 + 2 then id + 2 else L k) = i + 2
                rw [if_neg (by omega)]; exact hk
        have hget : ((H.set h.2 E.dead).set id (.det t l j y r))[id]? = some (.det t l j y r) := by simp [hidl]
        obtain ⟨L2, q1, q2⟩ := attL_sound r hrel hget
        exact ⟨L2, q1, fun k hk => q2 k (h0 k hk)⟩
      · exact ⟨L, hr, fun _ h => h⟩
    · exact ⟨L, hr, fun _ h => h⟩
theorem attAll_sound : ∀ (n : Nat) {L : Nat → Nat} {H : List E}, Rel S0 base w L β H → ∃ L2, Rel S0 base w L2 β (attAll n H) ∧ ∀ k, L k = 0 → L2 k = 0
  | 0, L, H, hr => ⟨L, hr, fun _ h => h⟩
  | n + 1, L, H, hr => by
    rw [attAll]
    split
    · rename_i t l j x hs hH
      obtain ⟨L1, q1, q2⟩ := attL_sound hs hr hH
      obtain ⟨L2, r1, r2⟩ := attAll_sound n q1
      exact ⟨L2, r1, fun k hk => r2 k (q2 k hk)⟩
    · exact attAll_sound n hr
/-- The cells of a value that is owned, one by one. -/
def CO (w : World) (S : Nat → Prop) : (Nat → Prop) → List Value → List D → Prop
  | ok, u :: us, d :: ds => ∃ p : Nat → Prop, (match d with | .val t x => RT w S true t (fun k => ok k ∧ p k) [u] x | _ => True) ∧ CO w S (fun k => ok k ∧ ¬ p k) us ds
  | _, [], [] => True
  | _, _, _ => False
theorem CO_ok {S : Nat → Prop} : ∀ {us : List Value} {ds : List D} {ok ok' : Nat → Prop}, CO w S ok us ds → (∀ k, ok k → ok' k) → CO w S ok' us ds
  | [], [], _, _, h, _ => h
  | [], _ :: _, _, _, h, _ => h.elim
  | _ :: _, [], _, _, h, _ => h.elim
  | u :: us, d :: ds, ok, ok', h, hk => by
    obtain ⟨p, h1, h2⟩ := h
    refine ⟨fun k => ok k ∧ p k, ?_, CO_ok h2 (fun k h => ⟨hk k h.1, fun h3 => h.2 h3.2⟩)⟩
    split at h1
    · exact RT_ok h1 (fun k h => ⟨hk k h.1, h⟩)
    · trivial
theorem CO_append {S : Nat → Prop} : ∀ {us us2 : List Value} {ds ds2 : List D} {ok ok1 ok2 : Nat → Prop}, CO w S ok1 us ds → CO w S ok2 us2 ds2 → (∀ k, ok1 k → ok k) → (∀ k, ok2 k → ok k) → (∀ k, ok1 k → ¬ ok2 k) → CO w S ok (us ++ us2) (ds ++ ds2)
  | [], us2, [], ds2, ok, ok1, ok2, h1, h2, k1, k2, k3 => CO_ok h2 k2
  | [], _, _ :: _, _, _, _, _, h1, _, _, _, _ => h1.elim
  | _ :: _, _, [], _, _, _, _, h1, _, _, _, _ => h1.elim
  | u :: us, us2, d :: ds, ds2, ok, ok1, ok2, h1, h2, k1, k2, k3 => by
    obtain ⟨p, h3, h4⟩ := h1
    refine ⟨fun k => ok1 k ∧ p k, ?_, CO_append h4 h2 (fun k h => ⟨k1 k h.1, fun h5 => h.2 h5.2⟩) (fun k h => ⟨k2 k h, fun h5 => k3 k h5.1 h⟩) (fun k h => k3 k h.1)⟩
    split at h3
    · exact RT_ok h3 (fun k h => ⟨k1 k h.1, h⟩)
    · trivial
theorem CO_of_RT {S : Nat → Prop} : ∀ (t : Ty) {ok : Nat → Prop} {cs : List Value} {x : t.den}, RT w S true t ok cs x → CO w S ok cs (cells t x)
  | .unit, ok, cs, x, h => by rw [RT] at h; subst h; trivial
  | .int k, ok, cs, x, h => by have h0 := h; rw [RT] at h; subst h; exact ⟨fun _ => True, RT_ok h0 (fun k hk => ⟨hk, trivial⟩), trivial⟩
  | .bool, ok, cs, x, h => by have h0 := h; rw [RT] at h; subst h; exact ⟨fun _ => True, RT_ok h0 (fun k hk => ⟨hk, trivial⟩), trivial⟩
  | .str, ok, cs, x, h => by have h0 := h; rw [RT] at h; subst h; exact ⟨fun _ => True, RT_ok h0 (fun k hk => ⟨hk, trivial⟩), trivial⟩
  | .sl o t, ok, cs, x, h => by
    have h0 := h
    rw [RT] at h
    obtain ⟨A, cap, rfl, _⟩ := h
    exact ⟨fun _ => True, RT_ok h0 (fun k hk => ⟨hk, trivial⟩), trivial⟩
  | .pair a b, ok, cs, x, h => by
    rw [RT] at h
    obtain ⟨p, c1, c2, rfl, h1, h2⟩ := h
    exact CO_append (CO_of_RT a h1) (CO_of_RT b h2) (fun k h => h.1) (fun k h => h.1) (fun k h h3 => h3.2 h.2)
/-- The types of a value's cells. -/
def tys : Ty → List Ty
  | .unit => []
  | .pair a b => tys a ++ tys b
  | t => [t]
theorem tys_width : ∀ (t : Ty), (tys t).length = t.width
  | .unit => rfl
  | .int k => rfl
  | .bool => rfl
  | .str => rfl
  | .sl o t => rfl
  | .pair a b => by simp [tys, Ty.width, tys_width a, tys_width b]
theorem cells_tys : ∀ (t : Ty) (x : t.den) (i : Nat) (d : D), (cells t x)[i]? = some d → ∃ (t2 : Ty) (y : t2.den), d = .val t2 y ∧ (tys t)[i]? = some t2
  | .unit, x, i, d, h => by simp [cells] at h
  | .int k, x, i, d, h => by cases i with | zero => simp [cells] at h; exact ⟨_, _, h.symm, rfl⟩ | succ i => simp [cells] at h
  | .bool, x, i, d, h => by cases i with | zero => simp [cells] at h; exact ⟨_, _, h.symm, rfl⟩ | succ i => simp [cells] at h
  | .str, x, i, d, h => by cases i with | zero => simp [cells] at h; exact ⟨_, _, h.symm, rfl⟩ | succ i => simp [cells] at h
  | .sl o t, x, i, d, h => by cases i with | zero => simp [cells] at h; exact ⟨_, _, h.symm, rfl⟩ | succ i => simp [cells] at h
  | .pair a b, x, i, d, h => by
    simp only [cells] at h
    simp only [tys]
    rcases Nat.lt_or_ge i a.width with hlt | hge
    · rw [List.getElem?_append_left (by rw [cells_width]; exact hlt)] at h
      rw [List.getElem?_append_left (by rw [tys_width]; exact hlt)]
      exact cells_tys a _ i d h
    · rw [List.getElem?_append_right (by rw [cells_width]; exact hge), cells_width] at h
      rw [List.getElem?_append_right (by rw [tys_width]; exact hge), tys_width]
      exact cells_tys b _ _ d h
/-- Entries that were moved out come back, cell by cell. -/
theorem backC_sound : ∀ (cs : List D) {us : List Value} {ds : List D} {L : Nat → Nat} {H : List E} {ok : Nat → Prop}, CO w (stab S0 base w L) ok us cs → (∀ k, ok k → L k = 1) → Rel S0 base w L β H →
    (∀ (i : Nat) (s : Ty) (l : List s.den) (id : Nat), cs[i]? = some (D.val (.sl true s) l) → ds[i]? = some (D.ow id) → ∃ A n cap, us[i]? = some (Value.slice A n cap) ∧ β id = .arr A n cap s.width) →
    ∃ L2, Rel S0 base w L2 β (backC cs ds H) ∧ (∀ k, L k = 0 → L2 k = 0) ∧ ∀ k, ¬ ok k → L2 k = L k
  | [], us, ds, L, H, ok, hC, hok, hr, hp => ⟨L, hr, fun _ h => h, fun _ _ => rfl⟩
  | d :: cs, us, [], L, H, ok, hC, hok, hr, hp => ⟨L, hr, fun _ h => h, fun _ _ => rfl⟩
  | d :: cs, [], e :: ds, L, H, ok, hC, hok, hr, hp => hC.elim
  | d :: cs, u :: us, e :: ds, L, H, ok, hC, hok, hr, hp => by
    obtain ⟨p, h1, h2⟩ := hC
    have step : ∃ L1, Rel S0 base w L1 β (back1 d e H) ∧ (∀ k, L k = 0 → L1 k = 0) ∧ ∀ k, ¬ (ok k ∧ p k) → L1 k = L k := by
      unfold back1
      split
      · rename_i s l id
        obtain ⟨A, n, cap, g1, g2⟩ := hp 0 s l id rfl rfl
        simp only [List.getElem?_cons_zero, Option.some.injEq] at g1
        subst g1
        obtain ⟨okp, hokp⟩ : ∃ q : Nat → Prop, ∀ k, q k ↔ ok k ∧ p k := ⟨fun k => ok k ∧ p k, fun k => Iff.rfl⟩
        have h0 : ∀ k, L k = 0 → (if okp k then id + 2 else L k) = 0 := fun k hk => by rw [if_neg (fun h => by have := hok k ((hokp k).1 h).1; omega)]; exact hk
        have hid : id < H.length := by
          rcases Nat.lt_or_ge id H.length with h3 | h3
          · exact h3
          · rw [hr.non id h3] at g2; cases g2
        simp only at h1
        have h1' := h1
        rw [RT] at h1'
        obtain ⟨A2, cap2, e1, e2, _⟩ := h1'
        simp only [List.cons.injEq, Value.slice.injEq, and_true] at e1
        obtain ⟨rfl, rfl, rfl⟩ := e1
        have := (hr.claim (w' := w) (id := id) (e := .arr s l) (ok := okp) (fun k hk => hok k ((hokp k).1 hk).1) hid (fun _ _ => rfl) rfl ⟨A, cap, g2, RT_stab h1 h0 (fun k hk => by show (if okp k then id + 2 else L k) = id + 2; rw [if_pos ((hokp k).2 hk)])⟩).1
        exact ⟨_, this, h0, fun k hk => by show (if okp k then id + 2 else L k) = L k; rw [if_neg (fun h => hk ((hokp k).1 h))]⟩
      · exact ⟨L, hr, fun _ h => h, fun _ _ => rfl⟩
    obtain ⟨L1, q1, q2, q3⟩ := step
    have hCO : CO w (stab S0 base w L1) (fun k => ok k ∧ ¬ p k) us cs := by
      clear hp hok hr q1 q3 h1
      generalize (fun k => ok k ∧ ¬ p k) = ok2 at h2
      induction us generalizing cs ok2 with
      | nil => cases cs with | nil => trivial | cons _ _ => exact h2.elim
      | cons u us ih =>
        cases cs with
        | nil => exact h2.elim
        | cons d cs =>
          obtain ⟨p, h1, h2⟩ := h2
          refine ⟨p, ?_, ih cs _ h2⟩
          split at h1
          · exact RT_stab h1 q2 (fun k hk => hk)
          · trivial
    obtain ⟨L2, r1, r2, r3⟩ := backC_sound cs (us := us) (ds := ds) hCO (fun k hk => by rw [q3 k (fun h => hk.2 h.2)]; exact hok k hk.1) q1 (fun i s l id h1 h2 => hp (i + 1) s l id (by simpa using h1) (by simpa using h2))
    exact ⟨L2, r1, fun k hk => r2 k (q2 k hk), fun k hk => by rw [r3 k (fun h => hk h.1), q3 k (fun h => hk h.1)]⟩
end
end Go.Eng
