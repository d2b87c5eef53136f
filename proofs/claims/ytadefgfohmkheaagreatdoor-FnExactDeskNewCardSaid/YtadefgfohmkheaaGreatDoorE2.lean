/- Part of the proof: the evaluator of typed functions, and that its answers are the contracts of the calls. -/
import Derived.Test.YtadefgfohmkheaaGreatDoorE1
import Derived.Laws.Tables
import Derived.Laws.BytesString
import Derived.Laws.Cells
/- Quiet operations, on: what lies at an address; fields, indexes, loads. -/
namespace Go.Eng
open Go.RowKit
set_option linter.unusedVariables false
set_option linter.unusedSimpArgs false
set_option linter.unusedSectionVars false
/-- From an address on lie cells that these tell. -/
def At (w : World) (S : Nat → Prop) (β : Nat → Real) (ad : Addr) (ds : List D) : Prop :=
  ∃ us : List Value, us.length = ds.length ∧ (∀ (j : Nat) u, us[j]? = some u → w.cell? (ad.add j) = some u ∧ one u = true) ∧ ∀ (j : Nat) u d, us[j]? = some u → ds[j]? = some d → RD w S β u d
section
variable {w : World} {S : Nat → Prop} {β : Nat → Real}
theorem At.drop {ad : Addr} {ds : List D} (h : At w S β ad ds) (n : Nat) : At w S β (ad.add n) (ds.drop n) := by
  obtain ⟨us, h1, h2, h3⟩ := h
  refine ⟨us.drop n, by simp [h1], fun j u hu => ?_, fun j u d hu hd => ?_⟩
  · rw [add_add2]; exact h2 (n + j) u (by simpa using hu)
  · exact h3 (n + j) u d (by simpa using hu) (by simpa using hd)
theorem At.take {ad : Addr} {ds : List D} (h : At w S β ad ds) (n : Nat) : At w S β ad (ds.take n) := by
  obtain ⟨us, h1, h2, h3⟩ := h
  refine ⟨us.take n, by simp [h1], fun j u hu => ?_, fun j u d hu hd => ?_⟩
  · rw [List.getElem?_take] at hu
    split at hu
    · exact h2 j u hu
    · cases hu
  · rw [List.getElem?_take] at hu hd
    split at hu
    · rename_i hj
      rw [if_pos hj] at hd
      exact h3 j u d hu hd
    · cases hu
theorem At.of_fp {ad : Addr} {cs : List D} {xs : Nat → Value} (hx : ∀ (i : Nat) d, cs[i]? = some d → w.cell? (ad.add i) = some (xs i) ∧ one (xs i) = true) (hr : ∀ (i : Nat) d, cs[i]? = some d → RD w S β (xs i) d) : At w S β ad cs := by
  refine ⟨(List.range cs.length).map xs, by simp, fun j u hu => ?_, fun j u d hu hd => ?_⟩
  · rw [List.getElem?_map, Option.map_eq_some_iff] at hu
    obtain ⟨q, h1, rfl⟩ := hu
    obtain ⟨h2, h3⟩ := List.getElem?_eq_some_iff.1 h1
    rw [List.getElem_range] at h3
    subst h3
    rw [List.length_range] at h2
    exact hx _ _ (List.getElem?_eq_getElem h2)
  · rw [List.getElem?_map, Option.map_eq_some_iff] at hu
    obtain ⟨q, h1, rfl⟩ := hu
    obtain ⟨h2, h3⟩ := List.getElem?_eq_some_iff.1 h1
    rw [List.getElem_range] at h3
    subst h3
    exact hr _ _ hd
theorem At.fp {ad : Addr} {cs : List D} (hs : S ad.block) (h : At w S β ad cs) : RD w S β (.pointer (some ad)) (.fp cs) := by
  obtain ⟨us, h1, h2, h3⟩ := h
  refine .fp (fun i => us.getD i undef) hs (fun i d hd => ?_) (fun i d hd => ?_)
  · have hi : i < us.length := by rw [h1]; exact (List.getElem?_eq_some_iff.1 hd).1
    have e : us.getD i undef = us[i] := by simp [hi]
    rw [e]
    exact h2 i _ (List.getElem?_eq_getElem hi)
  · have hi : i < us.length := by rw [h1]; exact (List.getElem?_eq_some_iff.1 hd).1
    have e : us.getD i undef = us[i] := by simp [hi]
    rw [e]
    exact h3 i _ d (List.getElem?_eq_getElem hi) hd
/-- Nothing of this type is owned: it may be read. -/
theorem RT_noOwn : ∀ (t : Ty) {ok ok' : Nat → Prop} {cs : List Value} {x : t.den}, t.strip = t → RT w S true t ok cs x → RT w S false t ok' cs x
  | .int _, _, _, _, _, _, h => by rw [RT] at h ⊢; exact h
  | .bool, _, _, _, _, _, h => by rw [RT] at h ⊢; exact h
  | .str, _, _, _, _, _, h => by rw [RT] at h ⊢; exact h
  | .unit, _, _, _, _, _, h => by rw [RT] at h ⊢; exact h
  | .pair a b, _, _, _, _, hs, h => by
    rw [RT] at h ⊢
    simp only [Ty.strip, Ty.pair.injEq] at hs
    obtain ⟨p, c1, c2, rfl, h1, h2⟩ := h
    exact ⟨p, c1, c2, rfl, RT_noOwn a hs.1 h1, RT_noOwn b hs.2 h2⟩
  | .sl own t, _, _, _, _, hs, h => by
    rw [RT] at h ⊢
    simp only [Ty.strip, Ty.sl.injEq] at hs
    obtain ⟨A, cap, rfl, hc, h⟩ := h
    refine ⟨A, cap, rfl, hc, ?_⟩
    rw [← hs.1] at h ⊢
    rw [if_neg (by simp)] at h ⊢
    intro hl
    obtain ⟨ad, hA, hb, hr⟩ := h hl
    refine ⟨ad, hA, hb, fun j x hj => ?_⟩
    obtain ⟨c, h2, h3⟩ := hr j x hj
    exact ⟨c, h2, h3⟩
theorem cells_len (o : Bool) : ∀ (t : Ty) {ok : Nat → Prop} {cs : List Value} {x : t.den}, RT w S o t ok cs x → (cells t x).length = cs.length
  | .unit, _, _, _, h => by rw [RT] at h; subst h; rfl
  | .int k, _, _, x, h => by rw [RT] at h; subst h; rfl
  | .bool, _, _, x, h => by rw [RT] at h; subst h; rfl
  | .str, _, _, x, h => by rw [RT] at h; subst h; rfl
  | .sl _ t, _, _, x, h => by rw [RT] at h; obtain ⟨A, cap, rfl, hc, _⟩ := h; rfl
  | .pair a b, _, _, x, h => by
    rw [RT] at h
    obtain ⟨p, c1, c2, rfl, h1, h2⟩ := h
    simp [cells, cells_len o a h1, cells_len o b h2]
theorem cells_RD_own : ∀ (t : Ty) {ok : Nat → Prop} {cs : List Value} {x : t.den}, RT w S true t ok cs x → ∀ (i : Nat) u d, cs[i]? = some u → (cells t x)[i]? = some d → noOwn d = true → RD w S β u d
  | .unit, _, _, _, h => by rw [RT] at h; subst h; intro i u d hu; simp at hu
  | .int k, _, _, x, h => by
    rw [RT] at h; subst h
    intro i u d hu hd hn
    cases i with
    | zero => simp [cells] at hu hd; subst hu; subst hd; exact RD_mkInt _ _
    | succ i => simp at hu
  | .bool, _, _, x, h => by
    rw [RT] at h; subst h
    intro i u d hu hd hn
    cases i with
    | zero => simp [cells] at hu hd; subst hu; subst hd; exact RD_mkBool _
    | succ i => simp at hu
  | .str, _, _, x, h => by
    rw [RT] at h; subst h
    intro i u d hu hd hn
    cases i with
    | zero => simp [cells] at hu hd; subst hu; subst hd; exact RD_mkStr _
    | succ i => simp at hu
  | .sl o t, _, _, x, h => by
    have h0 := h
    rw [RT] at h
    obtain ⟨A, cap, rfl, hc, _⟩ := h
    intro i u d hu hd hn
    cases i with
    | zero =>
      simp [cells] at hu hd; subst hu; subst hd
      exact .val (RT_noOwn _ (by simpa [noOwn] using hn) h0)
    | succ i => simp at hu
  | .pair a b, _, _, x, h => by
    rw [RT] at h
    obtain ⟨p, c1, c2, rfl, h1, h2⟩ := h
    have l1 := cells_len true a h1
    intro i u d hu hd hn
    simp only [cells] at hd
    rcases Nat.lt_or_ge i c1.length with hi | hi
    · rw [List.getElem?_append_left hi] at hu
      rw [List.getElem?_append_left (by omega)] at hd
      exact cells_RD_own a h1 i u d hu hd hn
    · rw [List.getElem?_append_right hi] at hu
      rw [List.getElem?_append_right (by omega), l1] at hd
      exact cells_RD_own b h2 _ u d hu hd hn
end
section
variable {P : Program} {c : Cfg} {S0 : Nat → Prop} {base : Nat → Prop} {w : World} {L : Nat → Nat} {β : Nat → Real} {H : List E} {a : Act} {T : List (Nat × D)} {o : Oper} {R : Type} {r : R} {K : D → Option R}
theorem TIok.agg {t : TypeId} {i : TI} (h : TIok P t i) (w : World) : (isAgg t).run P w = .ok (isAggTI i) w := by
  have hd := h.desc
  unfold isAggTI
  cases hk : i.kind with
  | cell =>
    rw [hk] at hd
    obtain ⟨d, h1, h2, _⟩ := hd
    unfold isAgg
    rw [Sem.run_bind, run_underlying h1 w]
    simp only [Result.andThen_ok]
    split
    · exact h2.elim
    · exact h2.elim
    · rfl
  | slice e =>
    rw [hk] at hd
    unfold isAgg
    rw [Sem.run_bind, run_underlying hd w]
    rfl
  | struct fs =>
    rw [hk] at hd
    obtain ⟨fields, h1, _⟩ := hd
    unfold isAgg
    rw [Sem.run_bind, run_underlying h1 w]
    rfl
  | iface =>
    rw [hk] at hd
    obtain ⟨ms, h1⟩ := hd
    unfold isAgg
    rw [Sem.run_bind, run_underlying h1 w]
    rfl
theorem run_load_At {S : Nat → Prop} {t : TypeId} {i : TI} (hi : TIok P t i) {ad : Addr} {ds : List D} {d : D} (h : At w S β ad ds) (hm : mkVal i ds = some d) : ∃ v, (loadVar t ad).run P w = .ok v w ∧ RD w S β v d := by
  obtain ⟨us, h1, h2, h3⟩ := h
  unfold mkVal at hm
  cases hag : isAggTI i with
  | true =>
    rw [hag, cond_true] at hm
    cases hl : Nat.beq ds.length i.size with
    | false => rw [hl] at hm; cases hm
    | true =>
      rw [hl, cond_true] at hm
      cases hm
      have hl := Nat.eq_of_beq_eq_true hl
      refine ⟨.agg us.toArray, ?_, .agg (by simp [h1]) (fun j u hu => (h2 j u (by simpa using hu)).2) (fun j u d hu hd => h3 j u d (by simpa using hu) hd)⟩
      unfold loadVar
      rw [Sem.run_bind, hi.agg w, hag]
      simp only [Result.andThen_ok, if_true, Sem.run_bind, hi.size_of w]
      rw [← hl, ← h1, run_loadCells_list w ad us (fun j u hu => (h2 j u hu).1)]
      rfl
  | false =>
    rw [hag, cond_false] at hm
    cases ds with
    | nil => cases hm
    | cons d0 ds =>
      cases hm
      cases us with
      | nil => cases h1
      | cons u us =>
        refine ⟨u, ?_, h3 0 u _ rfl rfl⟩
        unfold loadVar
        rw [Sem.run_bind, hi.agg w, hag]
        have hcell := (h2 0 u rfl).1
        rw [show ad.add 0 = ad from rfl] at hcell
        show (load ad).run P w = _
        unfold load
        simp only [Sem.run, hcell]
theorem run_fieldAt {t : TypeId} {i : TI} (hi : TIok P t i) {fs : List (Nat × Nat × Bool)} (hk : i.kind = .struct fs) {f off size : Nat} {ag : Bool} (hf : fs[f]? = some (off, size, ag)) (h1 : 1 ≤ size) (ad : Addr) (w : World) :
    (Instr.fieldAt t (.pointer (some ad)) f).run P w = .ok (.pointer (some (ad.add off))) w := by
  have hd := hi.desc
  rw [hk] at hd
  obtain ⟨fields, h2, hl, h3⟩ := hd
  have hlt : f < fields.size := by rw [hl]; exact (List.getElem?_eq_some_iff.1 hf).1
  obtain ⟨b, h4, h5, _⟩ := h3 f fields[f] (Array.getElem?_eq_getElem hlt)
  rw [hf] at h4
  simp only [Option.some.injEq, Prod.mk.injEq] at h4
  obtain ⟨h6, h7⟩ := h4
  have hsz : (sizeOf fields[f].type).run P w = .ok size w := by
    cases hq : P.info? fields[f].type with
    | none => rw [hq] at h5; simp at h5
    | some j =>
      rw [hq, ← h7] at h5
      simp only [Option.map_some, Option.some.injEq] at h5
      simp [sizeOf, typeInfo, hq, h5, program, Sem.run]
  unfold Instr.fieldAt
  rw [Sem.run_bind, run_underlying h2 w]
  simp only [Result.andThen_ok, Array.getElem?_eq_getElem hlt, Instr.sureAddr, fieldPlace, Sem.run_bind, Sem.run_pure, hsz]
  rw [if_neg (by omega), h6]
  rfl
variable (hc : CfgOk P c) (hr : Rel S0 base w L β H) (hT : RTm w (stab S0 base w L) β a.tmps T) (hg : GlOk c.gl w (stab S0 base w L))
include hc hr hT hg
theorem q_fieldAddr {t : TypeId} {x : Operand} {f : Nat} (ho : o.op = .fieldAddr t x f) (h : opQ c o T H K = some r) : ∃ d, K d = some r ∧ QOk P S0 base L β o a w d := by
  unfold opQ at h
  simp only [ho] at h
  split at h
  · rename_i i d hi hd
    have hx := opd_RD hT hg hd
    split at h
    · rename_i fs hk
      split at h
      · rename_i off size ag hf
        cases hb : Nat.ble 1 size with
        | false => rw [hb] at h; cases h
        | true =>
          rw [hb, cond_true] at h
          have hb := Nat.le_of_ble_eq_true hb
          have fin : ∀ ad d, a.eval x = .pointer (some ad) → RD w (stab S0 base w L) β (.pointer (some (ad.add off))) d → QOk P S0 base L β o a w d := fun ad d e hd =>
            q_of (by unfold execOp; simp only [ho, e]; exact run_v (run_fieldAt (hc.ti t i hi) hk hf hb ad w)) hd
          split at h
          · rename_i id q
            obtain ⟨g, h1, e⟩ := RD_bp hx
            refine ⟨_, h, fin _ _ e ?_⟩
            rw [add_at]
            exact .bp h1
          · rename_i id j q
            obtain ⟨ad, n, cap, wd, h1, e⟩ := RD_ap hx
            refine ⟨_, h, fin _ _ e ?_⟩
            rw [add_add2, Nat.add_assoc]
            exact .ap h1
          · rename_i cs
            obtain ⟨ad, xs, e, h1, h2, h3⟩ := RD_fp hx
            refine ⟨_, h, fin _ _ e ?_⟩
            exact ((At.of_fp h2 h3).drop off).fp (by rw [add_block]; exact h1)
          · cases h
      · cases h
    · cases h
  · cases h
theorem q_load {t : TypeId} {x : Operand} (ho : o.op = .load t x) (h : opQ c o T H K = some r) : ∃ d, K d = some r ∧ QOk P S0 base L β o a w d := by
  unfold opQ at h
  simp only [ho] at h
  split at h
  · rename_i i d hi hd
    have hx := opd_RD hT hg hd
    have fin : ∀ ad ds, a.eval x = .pointer (some ad) → At w (stab S0 base w L) β ad ds → (match mkVal i ds with | some d => K d | none => none) = some r → ∃ d, K d = some r ∧ QOk P S0 base L β o a w d := fun ad ds e hA hm => by
      split at hm
      · rename_i d2 hd2
        obtain ⟨v, h1, h2⟩ := run_load_At (hc.ti t i hi) hA hd2
        refine ⟨d2, hm, q_of (v := v) ?_ h2⟩
        unfold execOp
        simp only [ho, e]
        refine run_v ?_
        unfold Instr.loadAt
        simp only [Instr.sureAddr, Sem.run_bind, Sem.run_pure, Result.andThen_ok]
        exact h1
      · cases hm
    unfold ldK at h
    split at h
    · rename_i id off
      obtain ⟨g, h1, e⟩ := RD_bp hx
      split at h
      · rename_i cs hH
        obtain ⟨g2, arr, ty, hre, hok, hb, hl, ho1, hcs⟩ := hr.ent id _ hH
        rw [hre] at h1
        cases h1
        refine fin _ _ e ?_ h
        refine At.take ?_ _
        have h0 : At w (stab S0 base w L) β ⟨g, 0, none⟩ cs := ⟨arr.toList, by simpa using hl, fun j u hu => ⟨by rw [add_at, Nat.zero_add, cell_blk hb]; simpa using hu, ho1 j u (by simpa using hu)⟩, fun j u d hu hd => hcs j u d (by simpa using hu) hd⟩
        have := h0.drop off
        rwa [add_at, Nat.zero_add] at this
      · cases h
    · rename_i cs
      obtain ⟨ad, xs, e, h1, h2, h3⟩ := RD_fp hx
      exact fin _ _ e ((At.of_fp h2 h3).take _) h
    · rename_i id j q
      obtain ⟨ad, n, cap, wd, h1, e⟩ := RD_ap hx
      split at h
      · rename_i t2 l hH
        obtain ⟨A, cap2, hre, hrt⟩ := hr.ent id _ hH
        rw [hre] at h1
        cases h1
        rw [Option.bind_eq_some_iff] at h
        obtain ⟨y, hy, h⟩ := h
        simp only [] at h
        cases hn : (((cells t2 y).drop q).take i.size).all noOwn with
        | false => rw [hn] at h; cases h
        | true =>
          rw [hn, cond_true] at h
          rw [RT] at hrt
          obtain ⟨A2, cap3, hA, hle, hrt⟩ := hrt
          simp only [List.cons.injEq, Value.slice.injEq, and_true] at hA
          obtain ⟨rfl, _, rfl⟩ := hA
          rw [if_pos (show (true && true) = true from rfl)] at hrt
          rcases hrt with ⟨hA, _⟩ | ⟨g, st, arr, ty, lab, hA, hok, hb, hf, hrow⟩
          · cases hA
          · cases hA
            obtain ⟨cs, c1, c2, c3⟩ := hrow j y hy
            refine fin _ _ e ?_ h
            have hlen := cells_len true t2 c3
            refine ⟨(cs.drop q).take i.size, by simp [hlen], fun m u hu => ?_, fun m u d hu hd => ?_⟩
            · rw [List.getElem?_take] at hu
              split at hu
              · rw [List.getElem?_drop] at hu
                refine ⟨?_, RT_one _ c3 u (List.mem_of_getElem? hu)⟩
                rw [add_add2, add_at, cell_blk hb, Nat.add_assoc]
                exact c2 _ u hu
              · cases hu
            · have hno : noOwn d = true := List.all_eq_true.1 hn d (List.mem_of_getElem? hd)
              rw [List.getElem?_take] at hu hd
              split at hu
              · rename_i hm
                rw [if_pos hm] at hd
                rw [List.getElem?_drop] at hu hd
                exact cells_RD_own t2 c3 _ u d hu hd hno
              · cases hu
      · rename_i t2 l hH
        obtain ⟨A, cap2, hre, hrt⟩ := hr.ent id _ hH
        rw [hre] at h1
        cases h1
        rw [Option.bind_eq_some_iff] at h
        obtain ⟨y, hy, h⟩ := h
        rw [RT] at hrt
        obtain ⟨A2, cap3, hA, hle, hrt⟩ := hrt
        simp only [List.cons.injEq, Value.slice.injEq, and_true] at hA
        obtain ⟨rfl, _, rfl⟩ := hA
        rw [Bool.and_false, if_neg (by simp)] at hrt
        obtain ⟨ad2, hA2, hs, hrow⟩ := hrt (by intro hl; rw [hl] at hy; simp at hy)
        cases hA2
        obtain ⟨cs, c2, c3⟩ := hrow j y hy
        refine fin _ _ e ?_ h
        obtain ⟨hlen, hcd⟩ := cells_RD (β := β) t2 c3
        refine ⟨(cs.drop q).take i.size, by simp [hlen], fun m u hu => ?_, fun m u d hu hd => ?_⟩
        · rw [List.getElem?_take] at hu
          split at hu
          · rw [List.getElem?_drop] at hu
            refine ⟨?_, RT_one _ c3 u (List.mem_of_getElem? hu)⟩
            rw [add_add2, Nat.add_assoc]
            exact c2 _ u hu
          · cases hu
        · rw [List.getElem?_take] at hu hd
          split at hu
          · rename_i hm
            rw [if_pos hm] at hd
            rw [List.getElem?_drop] at hu hd
            exact hcd _ u d hu hd
          · cases hu
      · rename_i t2 l m hH
        obtain ⟨A, cap2, hre, hlc, hnl, hrow⟩ := hr.ent id _ hH
        rw [hre] at h1
        cases h1
        rw [Option.bind_eq_some_iff] at h
        obtain ⟨y, hy, h⟩ := h
        split at h
        · rename_i hjm
          subst hjm
          rcases hrow with ⟨hA, _⟩ | ⟨g, st, arr, ty, lab, hA, hok, hb, hf, hrow⟩
          · cases hA
          · cases hA
            obtain ⟨cs, c1, c2, c3⟩ := hrow j y hy
            rw [if_neg (Nat.lt_irrefl j)] at c3
            refine fin _ _ e ?_ h
            obtain ⟨hlen, hcd⟩ := cells_RD (β := β) t2 c3
            refine ⟨(cs.drop q).take i.size, by simp [hlen], fun m u hu => ?_, fun m u d hu hd => ?_⟩
            · rw [List.getElem?_take] at hu
              split at hu
              · rw [List.getElem?_drop] at hu
                refine ⟨?_, RT_one _ c3 u (List.mem_of_getElem? hu)⟩
                rw [add_add2, add_at, cell_blk hb, Nat.add_assoc]
                exact c2 _ u hu
              · cases hu
            · rw [List.getElem?_take] at hu hd
              split at hu
              · rename_i hm
                rw [if_pos hm] at hd
                rw [List.getElem?_drop] at hu hd
                exact hcd _ u d hu hd
              · cases hu
        · cases h
      · cases h
    · cases h
  · cases h
end
end Go.Eng
/- Quiet operations, on: indexes, slices, conversions, literals, length. -/
namespace Go.Eng
open Go.RowKit
set_option linter.unusedVariables false
set_option linter.unusedSimpArgs false
set_option linter.unusedSectionVars false
theorem lt_of_toNat {n : Int} {m : Nat} (h0 : 0 ≤ n) (h : n.toNat < m) : n < (m : Int) := by omega
section
variable {P : Program} {c : Cfg} {S0 : Nat → Prop} {base : Nat → Prop} {w : World} {L : Nat → Nat} {β : Nat → Real} {H : List E} {a : Act} {T : List (Nat × D)} {o : Oper} {R : Type} {r : R} {K : D → Option R}
theorem run_indexAt {t e : TypeId} {i ie : TI} (hi : TIok P t i) (hk : i.kind = .slice e) (he : TIok P e ie) {k : IntKind} {n : Int} {ad : Addr} {len cap : Nat} (h0 : 0 ≤ n) (h1 : n < len) (w : World) :
    (Instr.indexAt t (.slice (some ad) len cap) (.int k n)).run P w = .ok (.pointer (some (ad.add (n.toNat * ie.size)))) w := by
  have hd := hi.desc
  rw [hk] at hd
  unfold Instr.indexAt
  simp only [asIntOf, Sem.run_bind, Sem.run_pure, Result.andThen_ok, run_underlying hd w]
  rw [if_pos ⟨h0, h1⟩]
  simp only [Sem.run_bind, he.size_of w, Result.andThen_ok]
  rfl
variable (hc : CfgOk P c) (hr : Rel S0 base w L β H) (hT : RTm w (stab S0 base w L) β a.tmps T) (hg : GlOk c.gl w (stab S0 base w L))
include hc hr hT hg
theorem q_indexAddr {t : TypeId} {x ix : Operand} (ho : o.op = .indexAddr t x ix) (h : opQ c o T H K = some r) : ∃ d, K d = some r ∧ QOk P S0 base L β o a w d := by
  unfold opQ at h
  simp only [ho] at h
  split at h
  · rename_i i d k n hi hd hn
    have hx := opd_RD hT hg hd
    have hix := RD_int (opd_RD hT hg hn)
    split at h
    · rename_i e hk
      split at h
      · rename_i ie he
        have fin : ∀ ad len cap d, a.eval x = .slice (some ad) len cap → 0 ≤ n → n < (len : Int) → RD w (stab S0 base w L) β (.pointer (some (ad.add (n.toNat * ie.size)))) d → QOk P S0 base L β o a w d := fun ad len cap d e1 h0 h1 hd =>
          q_of (by unfold execOp; simp only [ho, e1, hix]; exact run_v (run_indexAt (hc.ti t i hi) hk (hc.ti e ie he) h0 h1 w)) hd
        have own : ∀ id (t2 : Ty) (l : List t2.den) (hre : ∃ A cap, β id = .arr A l.length cap t2.width ∧ (l ≠ [] → ∃ ad, A = some ad)), D.ow id = d → (bif Nat.beq t2.width ie.size then (if 0 ≤ n then (if n < (l.length : Int) then K (.ap id n.toNat 0) else none) else none) else none) = some r → ∃ d, K d = some r ∧ QOk P S0 base L β o a w d := by
          clear h
          intro id t2 l hre hd h
          subst hd
          obtain ⟨A, n2, cap, wd, h1, e1⟩ := RD_ow hx
          obtain ⟨A2, cap2, h2, h3⟩ := hre
          rw [h2] at h1
          cases h1
          cases hb : Nat.beq t2.width ie.size with
          | false => rw [hb] at h; cases h
          | true =>
            rw [hb, cond_true] at h
            have hb := Nat.eq_of_beq_eq_true hb
            split at h
            · rename_i h0
              split at h
              · rename_i hlt
                obtain ⟨ad, rfl⟩ := h3 (by intro hl; rw [hl] at hlt; exact absurd (show n < (0 : Int) from hlt) (Int.not_lt.mpr h0))
                refine ⟨_, h, fin ad _ _ _ e1 h0 hlt ?_⟩
                rw [← hb]
                exact .ap (j := n.toNat) (c := 0) h2
              · cases h
            · cases h
        split at h
        · rename_i o2 t2 l
          split at h
          · rename_i h0
            cases hb : Nat.beq t2.width ie.size with
            | false => rw [hb] at h; cases h
            | true =>
              rw [hb, cond_true] at h
              have hb := Nat.eq_of_beq_eq_true hb
              rw [Option.bind_eq_some_iff] at h
              obtain ⟨y, hy, h⟩ := h
              obtain ⟨A, cap, e1, hle, h2⟩ := RD_sl hx
              have hlt : n.toNat < l.length := (List.getElem?_eq_some_iff.1 hy).1
              obtain ⟨ad, rfl, hs, hrow⟩ := h2 (by intro hl; rw [hl] at hlt; simp at hlt)
              obtain ⟨cs, c1, c2⟩ := hrow _ y hy
              obtain ⟨hlen, hcd⟩ := cells_RD (β := β) t2 c2
              refine ⟨_, h, fin ad _ _ _ e1 h0 (lt_of_toNat h0 hlt) (At.fp (by rw [add_block]; exact hs) ?_)⟩
              rw [← hb]
              refine ⟨cs, hlen.symm, fun m u hu => ⟨?_, RT_one _ c2 u (List.mem_of_getElem? hu)⟩, fun m u d hu hd => hcd m u d hu hd⟩
              rw [add_add2]
              exact c1 m u hu
          · cases h
        · rename_i id
          split at h
          · rename_i t2 l hH
            refine own id t2 l ?_ rfl h
            obtain ⟨A, cap, hre, hrt⟩ := hr.ent id _ hH
            refine ⟨A, cap, hre, fun hl => ?_⟩
            rw [RT] at hrt
            obtain ⟨A2, cap2, hA, hle, hrt⟩ := hrt
            simp only [List.cons.injEq, Value.slice.injEq, and_true] at hA
            obtain ⟨rfl, _, rfl⟩ := hA
            rw [if_pos (show (true && true) = true from rfl)] at hrt
            rcases hrt with ⟨hA, h0⟩ | ⟨g, st, arr, ty, lab, hA, _⟩
            · subst h0; exact absurd (List.eq_nil_of_length_eq_zero (by omega)) hl
            · exact ⟨_, hA⟩
          · rename_i t2 l hH
            refine own id t2 l ?_ rfl h
            obtain ⟨A, cap, hre, hrt⟩ := hr.ent id _ hH
            refine ⟨A, cap, hre, fun hl => ?_⟩
            rw [RT] at hrt
            obtain ⟨A2, cap2, hA, hle, hrt⟩ := hrt
            simp only [List.cons.injEq, Value.slice.injEq, and_true] at hA
            obtain ⟨rfl, _, rfl⟩ := hA
            rw [Bool.and_false, if_neg (by simp)] at hrt
            obtain ⟨ad, hA, _⟩ := hrt hl
            exact ⟨ad, hA⟩
          · rename_i t2 l m hH
            refine own id t2 l ?_ rfl h
            obtain ⟨A, cap, hre, hlc, hnl, hrow⟩ := hr.ent id _ hH
            refine ⟨A, cap, hre, fun hl => ?_⟩
            rcases hrow with ⟨hA, h0⟩ | ⟨g, st, arr, ty, lab, hA, _⟩
            · subst h0; exact absurd (List.eq_nil_of_length_eq_zero (by omega)) hl
            · exact ⟨_, hA⟩
          · cases h
        · cases h
      · cases h
    · cases h
  · cases h
theorem q_index {t : TypeId} {x ix : Operand} (ho : o.op = .index t x ix) (h : opQ c o T H K = some r) : ∃ d, K d = some r ∧ QOk P S0 base L β o a w d := by
  unfold opQ at h
  simp only [ho] at h
  split at h
  · rename_i i s k n hi hd hn
    have hs := RD_str (opd_RD hT hg hd)
    have hix := RD_int (opd_RD hT hg hn)
    split at h
    · rename_i hk
      split at h
      · rename_i h0
        rw [Option.bind_eq_some_iff] at h
        obtain ⟨b, hb, h⟩ := h
        refine ⟨_, h, q_of (v := .int .u8 b.toNat) ?_ (RD_mkInt _ _)⟩
        unfold execOp
        simp only [ho, hs, hix]
        refine run_v ?_
        have hd := (hc.ti t i hi).desc
        rw [hk.1] at hd
        obtain ⟨d, h1, h2, h3, h4, h5, _⟩ := hd
        rw [h4 hk.2] at h1
        unfold Instr.index
        simp only [asIntOf, Sem.run_bind, Sem.run_pure, Result.andThen_ok, run_underlying h1 w]
        rw [if_pos h0, hb]
        rfl
      · cases h
    · cases h
  · cases h
theorem q_makeInterface {t : TypeId} {x : Operand} (ho : o.op = .makeInterface t x) (h : opQ c o T H K = some r) : ∃ d, K d = some r ∧ QOk P S0 base L β o a w d := by
  unfold opQ at h
  simp only [ho] at h
  split at h
  · rename_i i d hi hd
    have hx := opd_RD hT hg hd
    cases hk : decide (i.kind = .iface) with
    | true => rw [hk] at h; cases h
    | false =>
      rw [hk, cond_false] at h
      refine ⟨_, h, q_of (v := .iface t (a.eval x)) ?_ (.ifc hx)⟩
      unfold execOp
      simp only [ho]
      refine run_v ?_
      unfold Instr.makeInterface
      have hd2 := (hc.ti t i hi).desc
      have hk := of_decide_eq_false hk
      cases hki : i.kind with
      | cell =>
        rw [hki] at hd2
        obtain ⟨q, h1, h2, h3, h4, h5, h6⟩ := hd2
        rw [Sem.run_bind, run_underlying h1 w]
        simp only [Result.andThen_ok]
        cases q with
        | interface ms => exact (h6 ms rfl).elim
        | _ => rfl
      | slice e => rw [hki] at hd2; rw [Sem.run_bind, run_underlying hd2 w]; rfl
      | struct fs =>
        rw [hki] at hd2
        obtain ⟨fields, h1, _⟩ := hd2
        rw [Sem.run_bind, run_underlying h1 w]; rfl
      | iface => exact absurd hki hk
  · cases h
theorem opds_RD : ∀ {xs : List Operand} {ds : List D}, opds c T xs = some ds → (xs.map a.eval).length = ds.length ∧ ∀ (i : Nat) u d, (xs.map a.eval)[i]? = some u → ds[i]? = some d → RD w (stab S0 base w L) β u d
  | [], ds, h => by cases h; exact ⟨rfl, fun i u d hu => by simp at hu⟩
  | x :: xs, ds, h => by
    simp only [opds, Option.bind_eq_some_iff] at h
    obtain ⟨d, h1, es, h2, h3⟩ := h
    cases h3
    obtain ⟨hl, hq⟩ := opds_RD h2
    refine ⟨by simp only [List.map_cons, List.length_cons, hl], fun i u e hu he => ?_⟩
    cases i with
    | zero =>
      simp only [List.map_cons, List.getElem?_cons_zero, Option.some.injEq] at hu he
      subst hu; subst he
      exact opd_RD hT hg h1
    | succ i => exact hq i u e (by simpa using hu) (by simpa using he)
theorem q_makeFunc {g : Fn} {first captured : Array Operand} (ho : o.op = .makeFunc g first captured) (h : opQ c o T H K = some r) : ∃ d, K d = some r ∧ QOk P S0 base L β o a w d := by
  unfold opQ at h
  simp only [ho] at h
  split at h
  · rename_i ds hf hd
    obtain ⟨hl, hq⟩ := opds_RD hc hr hT hg hd
    refine ⟨_, h, q_of (v := .func g (first.map a.eval) (captured.map a.eval)) ?_ ?_⟩
    · unfold execOp
      simp only [ho]
      exact run_v rfl
    · have : first.map a.eval = #[] := by
        have : first = #[] := by rw [← Array.toList_inj]; exact hf
        rw [this]; simp
      rw [this]
      exact .fn (by simpa using hl) (fun i u d hu hd => hq i u d (by simpa using hu) hd)
  · cases h
theorem q_extract {x : Operand} {n : Nat} (ho : o.op = .extract x n) (h : opQ c o T H K = some r) : ∃ d, K d = some r ∧ QOk P S0 base L β o a w d := by
  unfold opQ at h
  simp only [ho] at h
  split at h
  · rename_i ds hd
    obtain ⟨arr, e, hl, hq⟩ := RD_tup (opd_RD hT hg hd)
    split at h
    · rename_i d hn
      have hlt : n < arr.size := by rw [hl]; exact (List.getElem?_eq_some_iff.1 hn).1
      refine ⟨d, h, q_of (v := arr[n]) ?_ (hq n _ d (Array.getElem?_eq_getElem hlt) hn)⟩
      unfold execOp
      simp only [ho, e]
      refine run_v ?_
      unfold Instr.extract
      simp only [Array.getElem?_eq_getElem hlt]
      rfl
    · cases h
  · cases h
theorem q_field {t : TypeId} {x : Operand} {f : Nat} (ho : o.op = .field t x f) (h : opQ c o T H K = some r) : ∃ d, K d = some r ∧ QOk P S0 base L β o a w d := by
  unfold opQ at h
  simp only [ho] at h
  split at h
  · rename_i i cs hi hd
    obtain ⟨arr, e, hl, ho1, hq⟩ := RD_agg (opd_RD hT hg hd)
    split at h
    · rename_i fs hk
      split at h
      · rename_i off size ag hf
        cases hb : Nat.ble (off + size) cs.length with
        | false => rw [hb] at h; cases h
        | true =>
          rw [hb, cond_true] at h
          have hb := Nat.le_of_ble_eq_true hb
          have hd2 := (hc.ti t i hi).desc
          rw [hk] at hd2
          obtain ⟨fields, h2, hl2, h3⟩ := hd2
          have hlt : f < fields.size := by rw [hl2]; exact (List.getElem?_eq_some_iff.1 hf).1
          obtain ⟨b, h4, h5, q, h6, h7⟩ := h3 f fields[f] (Array.getElem?_eq_getElem hlt)
          rw [hf] at h4
          simp only [Option.some.injEq, Prod.mk.injEq] at h4
          obtain ⟨e1, e2⟩ := h4
          have e3 : size = b.1 := by rw [← e2]
          have e4 : ag = b.2 := by rw [← e2]
          have hsz : (sizeOf fields[f].type).run P w = .ok size w := by
            cases hq2 : P.info? fields[f].type with
            | none => rw [hq2] at h5; simp at h5
            | some j =>
              rw [hq2] at h5
              simp only [Option.map_some, Option.some.injEq] at h5
              simp [sizeOf, typeInfo, hq2, h5, e3, program, Sem.run]
          have hag : (isAgg fields[f].type).run P w = .ok ag w := by
            unfold isAgg
            rw [Sem.run_bind, run_underlying h6 w]
            simp only [Result.andThen_ok]
            rw [e4, h7]
            cases q <;> rfl
          have hpre : ∀ v, (part fields[f].type arr fields[f].offset).run P w = .ok v w → (execOp a.eval o).run P w = .ok (.value v) w := fun v hv => by
            unfold execOp
            simp only [ho, e]
            refine run_v ?_
            unfold Instr.field
            simp only [Sem.run_bind, run_underlying h2 w, Result.andThen_ok, Array.getElem?_eq_getElem hlt, asAgg, Sem.run_pure]
            exact hv
          cases ag with
          | true =>
            rw [cond_true] at h
            refine ⟨_, h, q_of (v := .agg (arr.extract off (off + size))) (hpre _ ?_) ?_⟩
            · unfold part
              simp only [Sem.run_bind, hag, Result.andThen_ok, if_true, hsz]
              rw [← e1]
              rfl
            · refine .agg (by simp; omega) (fun j u hu => ?_) (fun j u d hu hd => ?_)
              · rw [Array.getElem?_extract] at hu
                split at hu
                · exact ho1 _ u hu
                · cases hu
              · rw [Array.getElem?_extract] at hu
                split at hu
                · rw [List.getElem?_take] at hd
                  split at hd
                  · rw [List.getElem?_drop] at hd
                    exact hq _ u d hu hd
                  · cases hd
                · cases hu
          | false =>
            rw [cond_false] at h
            split at h
            · rename_i d rest hdr
              have hlt2 : off < cs.length := by
                have : (cs.drop off).length = (d :: rest).length := by rw [hdr]
                simp at this; omega
              have hlt3 : off < arr.size := by omega
              have hcd : cs[off]? = some d := by
                have : (cs.drop off)[0]? = some d := by rw [hdr]; rfl
                simpa using this
              refine ⟨d, h, q_of (v := arr[off]) (hpre _ ?_) (hq off _ d (Array.getElem?_eq_getElem hlt3) hcd)⟩
              unfold part
              simp only [Sem.run_bind, hag, Result.andThen_ok]
              rw [← e1]
              simp only [Bool.false_eq_true, if_false, Array.getElem?_eq_getElem hlt3]
              rfl
            · cases h
      · cases h
    · cases h
  · cases h
end
end Go.Eng
/- Quiet operations, on: slices, conversions, lengths, literals. -/
namespace Go.Eng
open Go.RowKit
set_option linter.unusedVariables false
set_option linter.unusedSimpArgs false
set_option linter.unusedSectionVars false
section
variable {w : World} {S : Nat → Prop} {β : Nat → Real}
theorem RD_one {v : Value} {d : D} (h : RD w S β v d) (hd : ∀ ds, d ≠ .agg ds) (ht : ∀ ds, d ≠ .tup ds) (hn : d ≠ .no) : one v = true := by
  cases h with
  | val h => exact RT_one _ h _ (by simp)
  | imm h => exact plain_one h
  | no => exact absurd rfl hn
  | ow h => rfl
  | os => rfl
  | bp => rfl
  | ap => rfl
  | fp => rfl
  | fn => rfl
  | ifc => rfl
  | agg => exact absurd rfl (hd _)
  | tup => exact absurd rfl (ht _)
theorem one_cells {v : Value} (h : one v = true) : v.cells = #[v] := by
  unfold one at h
  split at h
  · cases h
  · cases h
  · rename_i h1 h2
    unfold Value.cells
    split
    · exact absurd rfl (h1 _)
    · rfl
/-- A value's cells and what tells them. -/
theorem RD_cells {v : Value} {d : D} (h : RD w S β v d) (hne : dCells d ≠ []) : v.cells.toList.length = (dCells d).length ∧ (∀ u ∈ v.cells.toList, one u = true) ∧ ∀ (i : Nat) u e, v.cells.toList[i]? = some u → (dCells d)[i]? = some e → RD w S β u e := by
  have single : ∀ {d : D}, RD w S β v d → (∀ ds, d ≠ .agg ds) → (∀ ds, d ≠ .tup ds) → d ≠ .no → dCells d = [d] → v.cells.toList.length = (dCells d).length ∧ (∀ u ∈ v.cells.toList, one u = true) ∧ ∀ (i : Nat) u e, v.cells.toList[i]? = some u → (dCells d)[i]? = some e → RD w S β u e := by
    intro d h h1 h2 h3 h4
    have ho := RD_one h h1 h2 h3
    rw [one_cells ho, h4]
    refine ⟨rfl, fun u hu => by simp at hu; rw [hu]; exact ho, fun i u e hu he => ?_⟩
    cases i with
    | zero => simp at hu he; subst hu; subst he; exact h
    | succ i => simp at hu
  cases d with
  | agg ds =>
    obtain ⟨arr, rfl, h1, h2, h3⟩ := RD_agg h
    refine ⟨by simpa [Value.cells, dCells] using h1, fun u hu => ?_, fun i u e hu he => h3 i u e (by simpa [Value.cells] using hu) he⟩
    obtain ⟨i, hi⟩ := List.getElem?_of_mem hu
    exact h2 i u (by simpa [Value.cells] using hi)
  | no => exact absurd rfl hne
  | tup ds => exact absurd rfl hne
  | val t x => exact single h (by simp) (by simp) (by simp) rfl
  | imm u => exact single h (by simp) (by simp) (by simp) rfl
  | ow id => exact single h (by simp) (by simp) (by simp) rfl
  | os id a b => exact single h (by simp) (by simp) (by simp) rfl
  | bp id a => exact single h (by simp) (by simp) (by simp) rfl
  | ap id a b => exact single h (by simp) (by simp) (by simp) rfl
  | fp cs => exact single h (by simp) (by simp) (by simp) rfl
  | fn g cs => exact single h (by simp) (by simp) (by simp) rfl
  | ifc t d => exact single h (by simp) (by simp) (by simp) rfl
  | mp id => exact single h (by simp) (by simp) (by simp) rfl
/-- A row of cells and what tells them. -/
def CR (w : World) (S : Nat → Prop) (β : Nat → Real) (us : List Value) (ds : List D) : Prop :=
  us.length = ds.length ∧ (∀ u ∈ us, one u = true) ∧ ∀ (i : Nat) u d, us[i]? = some u → ds[i]? = some d → RD w S β u d
theorem CR_set {us : List Value} {ds : List D} (h : CR w S β us ds) (i : Nat) {u : Value} {d : D} (ho : one u = true) (hd : RD w S β u d) : CR w S β (us.set i u) (ds.set i d) := by
  obtain ⟨h1, h2, h3⟩ := h
  refine ⟨by simp [h1], fun x hx => ?_, fun j x e hx he => ?_⟩
  · rcases List.mem_or_eq_of_mem_set hx with hx | hx
    · exact h2 x hx
    · rw [hx]; exact ho
  · rw [List.getElem?_set] at hx he
    split at hx
    · rename_i e1
      rw [if_pos e1] at he
      split at hx
      · split at he
        · cases hx; cases he; exact hd
        · cases he
      · cases hx
    · rename_i e1
      rw [if_neg e1] at he
      exact h3 j x e hx he
theorem CR_sets : ∀ {vs : List Value} {es : List D} {us : List Value} {ds : List D} (i : Nat), CR w S β us ds → CR w S β vs es → CR w S β (us.take i ++ vs ++ us.drop (i + vs.length)) (setCells ds i es) ∨ ¬ (i + vs.length ≤ us.length)
  | [], es, us, ds, i, h, hv => by
    obtain ⟨h1, _⟩ := hv
    have : es = [] := List.eq_nil_of_length_eq_zero h1.symm
    subst this
    left
    simpa [setCells] using h
  | v :: vs, [], us, ds, i, h, hv => by
    obtain ⟨h1, _⟩ := hv
    simp at h1
  | v :: vs, e :: es, us, ds, i, h, hv => by
    by_cases hlt : i + (v :: vs).length ≤ us.length
    · left
      obtain ⟨h1, h2, h3⟩ := hv
      have hs := CR_set h i (h2 v (by simp)) (h3 0 v e rfl rfl)
      have := CR_sets (i + 1) hs (vs := vs) (es := es) ⟨by simpa using h1, fun u hu => h2 u (by simp [hu]), fun j u d hu hd => h3 (j + 1) u d (by simpa using hu) (by simpa using hd)⟩
      rcases this with this | this
      · have e1 : (us.set i v).take (i + 1) ++ vs ++ (us.set i v).drop (i + 1 + vs.length) = us.take i ++ (v :: vs) ++ us.drop (i + (v :: vs).length) := by
          simp only [List.length_cons] at hlt
          have hi : i < us.length := by omega
          have t1 : (us.set i v).take (i + 1) = us.take i ++ [v] := by
            apply List.ext_getElem?
            intro j
            rw [List.getElem?_take, List.getElem?_set]
            rcases Nat.lt_trichotomy j i with hj | hj | hj
            · rw [if_pos (by omega), if_neg (by omega), List.getElem?_append_left (by simp; omega), List.getElem?_take, if_pos hj]
            · subst hj
              rw [if_pos (by omega), if_pos rfl, if_pos hi, List.getElem?_append_right (by simp; omega)]
              simp [Nat.min_eq_left (Nat.le_of_lt hi)]
            · rw [if_neg (by omega), List.getElem?_append_right (by simp; omega)]
              symm
              apply List.getElem?_eq_none
              simp; omega
          have t2 : (us.set i v).drop (i + 1 + vs.length) = us.drop (i + (v :: vs).length) := by
            apply List.ext_getElem?
            intro j
            rw [List.getElem?_drop, List.getElem?_drop, List.getElem?_set, if_neg (by omega)]
            congr 1
            simp only [List.length_cons]
            omega
          rw [t1, t2]
          simp
        rw [e1] at this
        exact this
      · exact absurd (by simp only [List.length_cons] at hlt; simp; omega) this
    · exact .inr hlt
end
theorem foldl_set (off : Nat) : ∀ (vs : List Value) (k : Nat) (arr : Array Value), off + k + vs.length ≤ arr.size →
    ((vs.zipIdx k).foldl (fun cs (x : Value × Nat) => cs.setIfInBounds (off + x.2) x.1) arr).toList = arr.toList.take (off + k) ++ vs ++ arr.toList.drop (off + k + vs.length)
  | [], k, arr, h => by simp
  | v :: vs, k, arr, h => by
    simp only [List.zipIdx_cons, List.foldl_cons]
    rw [foldl_set off vs (k + 1) _ (by simp at h ⊢; omega)]
    simp only [List.length_cons] at h
    simp only [Array.toList_setIfInBounds, List.length_cons]
    have hi : off + k < arr.toList.length := by simp; omega
    apply List.ext_getElem?
    intro j
    have l1 : ((arr.toList.set (off + k) v).take (off + (k + 1))).length = off + k + 1 := by simp; omega
    have l2 : (arr.toList.take (off + k)).length = off + k := by simp; omega
    rcases Nat.lt_trichotomy j (off + k) with hj | hj | hj
    · rw [List.append_assoc, List.getElem?_append_left (by omega), List.append_assoc, List.getElem?_append_left (by omega), List.getElem?_take, List.getElem?_take, if_pos (by omega), if_pos hj, List.getElem?_set, if_neg (by omega)]
    · subst hj
      rw [List.append_assoc, List.getElem?_append_left (by omega), List.append_assoc, List.getElem?_append_right (by omega), l2, Nat.sub_self, List.getElem?_take, if_pos (by omega), List.getElem?_set, if_pos rfl, if_pos hi]
      rfl
    · rw [List.append_assoc, List.append_assoc, List.getElem?_append_right (l₁ := List.take (off + (k + 1)) _) (by omega), l1, List.getElem?_append_right (l₁ := List.take (off + k) arr.toList) (by omega), l2, List.cons_append]
      obtain ⟨m, rfl⟩ : ∃ m, j = off + k + 1 + m := ⟨j - (off + k + 1), by omega⟩
      rw [show off + k + 1 + m - (off + k) = m + 1 by omega, List.getElem?_cons_succ, show off + k + 1 + m - (off + k + 1) = m by omega]
      rcases Nat.lt_or_ge m vs.length with hm | hm
      · rw [List.getElem?_append_left hm, List.getElem?_append_left hm]
      · rw [List.getElem?_append_right hm, List.getElem?_append_right hm, List.getElem?_drop, List.getElem?_drop, List.getElem?_set, if_neg (by omega)]
        congr 1
        omega
section
variable {P : Program} {c : Cfg} {S0 : Nat → Prop} {base : Nat → Prop} {w : World} {L : Nat → Nat} {β : Nat → Real} {H : List E} {a : Act} {T : List (Nat × D)} {o : Oper} {R : Type} {r : R} {K : D → Option R}
theorem TIok.under {t : TypeId} {i : TI} (h : TIok P t i) : ∃ d, P.underlying t = some d := by
  have hd := h.desc
  cases hk : i.kind with
  | cell => rw [hk] at hd; obtain ⟨d, h1, _⟩ := hd; exact ⟨d, h1⟩
  | slice e => rw [hk] at hd; exact ⟨_, hd⟩
  | struct fs => rw [hk] at hd; obtain ⟨d, h1, _⟩ := hd; exact ⟨_, h1⟩
  | iface => rw [hk] at hd; obtain ⟨d, h1⟩ := hd; exact ⟨_, h1⟩
theorem TIok.cell_int {t : TypeId} {i : TI} (h : TIok P t i) (hk : i.kind = .cell) {k : IntKind} (ht : i.ty = .int k) : P.underlying t = some (.int k) := by
  have hd := h.desc
  rw [hk] at hd
  obtain ⟨d, h1, h2, h3, h4, h5, h6⟩ := hd
  rw [h3 k ht] at h1; exact h1
theorem TIok.cell_str {t : TypeId} {i : TI} (h : TIok P t i) (hk : i.kind = .cell) (ht : i.ty = .str) : P.underlying t = some .string := by
  have hd := h.desc
  rw [hk] at hd
  obtain ⟨d, h1, h2, h3, h4, h5, h6⟩ := hd
  rw [h4 ht] at h1; exact h1
theorem TIok.slice_of {t e : TypeId} {i : TI} (h : TIok P t i) (hk : i.kind = .slice e) : P.underlying t = some (.slice e) := by
  have hd := h.desc
  rw [hk] at hd
  exact hd
theorem run_sliceBound {k : IntKind} {n : Int} {y : Nat} (code : BoundsCode) (h0 : 0 ≤ n) (h1 : n ≤ (y : Int)) (w : World) : (Instr.sliceBound (.int k n) y code).run P w = .ok n.toNat w := by
  unfold Instr.sliceBound
  simp only [asIntOf, Sem.run_bind, Sem.run_pure, Result.andThen_ok]
  rw [if_pos ⟨h0, h1⟩]
  rfl
variable (hc : CfgOk P c) (hr : Rel S0 base w L β H) (hT : RTm w (stab S0 base w L) β a.tmps T) (hg : GlOk c.gl w (stab S0 base w L))
include hc hr hT hg
theorem q_len {k : Call} {x : Operand} {t : TypeId} {ts : List TypeId} (ho : o.op = .call k) (hk : k.callee = .builtin .len) (hx : k.args.toList = [x]) (ht : k.argTypes.toList = t :: ts) {i : TI} (hi : c.ti t = some i) {d : D} (hd : opd c T x = some d) {n : Int} (hn : lenD i H d = some n) :
    QOk P S0 base L β o a w (.val (.int .i64) n) := by
  have hv := opd_RD hT hg hd
  have e1 : k.args = #[x] := by rw [← Array.toList_inj]; exact hx
  have e2 : k.argTypes[0]? = some t := by rw [← Array.getElem?_toList, ht]; rfl
  refine q_of (v := .int .i64 n) ?_ (RD_mkInt _ _)
  unfold execOp
  simp only [ho, resolve, hk, e1]
  simp only [Sem.run_bind, Sem.run_pure, Result.andThen_ok, invoke, builtin]
  have key : (Builtin.len_ k.argTypes o.type (#[x].map a.eval)).run P w = .ok (.int .i64 n) w := by
    unfold Builtin.len_
    simp only [e2, List.map_toArray, List.map_cons, List.map_nil]
    show (match (some t, some (a.eval x)) with | _ => _ : Sem Value).run P w = _
    unfold lenD at hn
    split at hn
    · rename_i s
      split at hn
      · rename_i hc2
        cases hn
        rw [RD_str hv]
        simp only [Sem.run_bind, run_underlying ((hc.ti t i hi).cell_str hc2.1 hc2.2) w, Result.andThen_ok]
        rfl
      · cases hn
    · rename_i o2 t2 l
      split at hn
      · rename_i e hk2
        cases hn
        obtain ⟨A, cap, e3, _⟩ := RD_sl hv
        rw [e3]
        simp only [Sem.run_bind, run_underlying ((hc.ti t i hi).slice_of hk2) w, Result.andThen_ok]
        rfl
      · cases hn
    · split at hn
      · rename_i e hk2
        cases hn
        rw [(RD_imm hv).1]
        simp only [Sem.run_bind, run_underlying ((hc.ti t i hi).slice_of hk2) w, Result.andThen_ok]
        rfl
      · cases hn
    · rename_i id
      split at hn
      · rename_i e hk2
        obtain ⟨A, m, cap, wd, hb, e3⟩ := RD_ow hv
        rw [e3]
        split at hn
        · rename_i t2 l hH
          cases hn
          obtain ⟨A2, cap2, h1, _⟩ := hr.ent id _ hH
          rw [h1] at hb
          cases hb
          simp only [Sem.run_bind, run_underlying ((hc.ti t i hi).slice_of hk2) w, Result.andThen_ok]
          rfl
        · rename_i t2 l hH
          cases hn
          obtain ⟨A2, cap2, h1, _⟩ := hr.ent id _ hH
          rw [h1] at hb
          cases hb
          simp only [Sem.run_bind, run_underlying ((hc.ti t i hi).slice_of hk2) w, Result.andThen_ok]
          rfl
        · rename_i t2 l m hH
          cases hn
          obtain ⟨A2, cap2, h1, _⟩ := hr.ent id _ hH
          rw [h1] at hb
          cases hb
          simp only [Sem.run_bind, run_underlying ((hc.ti t i hi).slice_of hk2) w, Result.andThen_ok]
          rfl
        · cases hn
      · cases hn
    · rename_i id off len
      split at hn
      · rename_i e hk2
        cases hn
        cases hv2 : a.eval x with
        | slice X m c2 =>
          rw [hv2] at hv
          cases hv with
          | os hb hX h1 h2 =>
          simp only [Sem.run_bind, run_underlying ((hc.ti t i hi).slice_of hk2) w, Result.andThen_ok]
          rfl
        | _ => rw [hv2] at hv; cases hv
      · cases hn
    · cases hn
  rw [key]
  rfl
end
end Go.Eng
/- Quiet operations, on: slicing, struct literals; what goes into a call. -/
namespace Go.Eng
open Go.RowKit
set_option linter.unusedVariables false
set_option linter.unusedSimpArgs false
set_option linter.unusedSectionVars false
section
variable {w : World} {S : Nat → Prop} {β : Nat → Real}
/-- A part of a slice that is only read. -/
theorem RT_sub {o : Bool} {t : Ty} {ok ok' : Nat → Prop} {A X : Option Addr} {cap c off len : Nat} {l : List t.den} (h : RT w S false (.sl o t) ok [.slice A l.length cap] l) (hX : c = 0 ∨ X = A.map (·.add (off * t.width))) (h1 : len ≤ c) (h2 : off + len ≤ l.length) :
    RT w S false (.sl o t) ok' [.slice X len c] ((l.drop off).take len) := by
  rw [RT] at h ⊢
  obtain ⟨A2, cap2, hA, hle, h⟩ := h
  simp only [List.cons.injEq, Value.slice.injEq, and_true] at hA
  obtain ⟨rfl, _, rfl⟩ := hA
  have hlen : ((l.drop off).take len).length = len := by simp; omega
  refine ⟨X, c, by rw [hlen], by rw [hlen]; exact h1, ?_⟩
  rw [Bool.and_false, if_neg (by simp)] at h ⊢
  intro hne
  have h0 : len ≠ 0 := by
    intro e
    subst e
    simp at hne
  obtain ⟨ad, hA, hs, hr⟩ := h (by intro e; rw [e] at h2; simp at h2; omega)
  have hX : X = A.map (·.add (off * t.width)) := hX.resolve_left (by omega)
  subst hA
  refine ⟨ad.add (off * t.width), hX, by rw [add_block]; exact hs, fun j x hj => ?_⟩
  rw [List.getElem?_take] at hj
  split at hj
  · rw [List.getElem?_drop] at hj
    obtain ⟨c2, h3, h4⟩ := hr _ x hj
    refine ⟨c2, fun i v hv => ?_, h4⟩
    rw [add_add2, ← h3 i v hv, Nat.add_mul, Nat.add_assoc]
  · cases hj
end
section
variable {P : Program} {c : Cfg} {S0 : Nat → Prop} {base : Nat → Prop} {w : World} {L : Nat → Nat} {β : Nat → Real} {H : List E} {a : Act} {T : List (Nat × D)} {o : Oper} {R : Type} {r : R} {K : D → Option R}
theorem places_of : ∀ (l : List Field) (fs : List (Nat × Nat × Bool)), l.length = fs.length → (∀ (j : Nat) f, l[j]? = some f → ∃ b, fs[j]? = some (f.offset, b) ∧ (P.info? f.type).map (·.size) = some b.1) →
    l.mapM (fun f => (P.info? f.type).map fun i => (f.offset, i.size)) = some (fs.map fun x => (x.1, x.2.1))
  | [], [], _, _ => rfl
  | f :: l, x :: fs, hl, h => by
    obtain ⟨b, h1, h2⟩ := h 0 f rfl
    simp only [List.getElem?_cons_zero, Option.some.injEq] at h1
    have ih := places_of l fs (by simpa using hl) (fun j f hf => by
      obtain ⟨b, h3, h4⟩ := h (j + 1) f (by simpa using hf)
      exact ⟨b, by simpa using h3, h4⟩)
    cases hq : P.info? f.type with
    | none => rw [hq] at h2; simp at h2
    | some i =>
      rw [hq] at h2
      simp only [Option.map_some, Option.some.injEq] at h2
      simp only [List.mapM_cons, hq, Option.map_some, Option.bind_eq_bind, Option.bind_some, ih, Option.pure_def, List.map_cons, h1]
      rw [h2]
  | [], _ :: _, hl, _ => by simp at hl
  | _ :: _, [], hl, _ => by simp at hl
theorem fill_CR {S : Nat → Prop} {fs : List (Nat × Nat × Bool)} {place : Nat → Option (Nat × Nat)} (hp : ∀ i off size b, fs[i]? = some (off, size, b) → place i = some (off, size)) :
    ∀ (ps : List (Nat × Value)) (ds : List D) (arr : Array Value) (cs cs' : List D), ps.length = ds.length → (∀ (i : Nat) p d, ps[i]? = some p → ds[i]? = some d → RD w S β p.2 d) → CR w S β arr.toList cs → fillD fs cs ((ps.map (·.1)).zip (ds.map dCells)) = some cs' →
      ∃ arr', Instr.fill place arr ps = some arr' ∧ CR w S β arr'.toList cs'
  | [], ds, arr, cs, cs', hl, hr, hC, h => by
    simp only [List.map_nil, List.zip_nil_left, fillD, Option.some.injEq] at h
    subst h
    exact ⟨arr, rfl, hC⟩
  | (i, v) :: ps, [], arr, cs, cs', hl, hr, hC, h => by simp at hl
  | (i, v) :: ps, d :: ds, arr, cs, cs', hl, hr, hC, h => by
    simp only [List.map_cons, List.zip_cons_cons, fillD] at h
    split at h
    · rename_i off size b hf
      cases hb : (Nat.beq (dCells d).length size && (Nat.ble 1 size && Nat.ble (off + size) cs.length)) with
      | false => rw [hb] at h; cases h
      | true =>
        rw [hb, cond_true] at h
        simp only [Bool.and_eq_true] at hb
        obtain ⟨hb1, hb2, hb3⟩ := hb
        have hb1 := Nat.eq_of_beq_eq_true hb1
        have hb2 := Nat.le_of_ble_eq_true hb2
        have hb3 := Nat.le_of_ble_eq_true hb3
        obtain ⟨g1, g2, g3⟩ := RD_cells (hr 0 (i, v) d rfl rfl) (by intro e; rw [e] at hb1; simp at hb1; omega)
        have hsz : v.cells.size = size := by rw [← hb1, ← g1]; simp
        have hasz : arr.size = cs.length := by rw [← hC.1]; simp
        have hCn : CR w S β ((v.cells.zipIdx.foldl (fun cs (x : Value × Nat) => cs.setIfInBounds (off + x.2) x.1) arr)).toList (setCells cs off (dCells d)) := by
          rw [← Array.foldl_toList, Array.toList_zipIdx, foldl_set off _ 0 arr (by simp; omega)]
          rcases CR_sets off hC ⟨g1, g2, g3⟩ with h9 | h9
          · simpa using h9
          · exact absurd (by simp; omega) h9
        obtain ⟨arr', h1, h2⟩ := fill_CR hp ps ds _ _ cs' (by simpa using hl) (fun j p e hj he => hr (j + 1) p e (by simpa using hj) (by simpa using he)) hCn h
        refine ⟨arr', ?_, h2⟩
        simp only [Instr.fill, hp i off size b hf]
        rw [if_neg (by simp [hsz]; omega)]
        exact h1
    · cases h
variable (hc : CfgOk P c) (hr : Rel S0 base w L β H) (hT : RTm w (stab S0 base w L) β a.tmps T) (hg : GlOk c.gl w (stab S0 base w L))
include hc hr hT hg
theorem q_build {t : TypeId} {parts : Array (Nat × Operand)} (ho : o.op = .build t parts) (h : opQ c o T H K = some r) : ∃ d, K d = some r ∧ QOk P S0 base L β o a w d := by
  unfold opQ at h
  simp only [ho] at h
  split at h
  · rename_i i hi
    split at h
    · rename_i fs z ds hk hz hd
      split at h
      · rename_i cs' hf
        obtain ⟨hl, hq⟩ := opds_RD hc hr hT hg hd
        have hti := hc.ti t i hi
        have hdesc := hti.desc
        rw [hk] at hdesc
        obtain ⟨fields, h1, h2, h3⟩ := hdesc
        have hplaces := places_of (P := P) fields.toList fs (by simpa using h2) (fun j f hf => by
          obtain ⟨b, h4, h5, _⟩ := h3 j f (by simpa using hf)
          exact ⟨b, h4, h5⟩)
        obtain ⟨j, hj, _, _, zv, hz1, hz2⟩ := hti.bytes_of
        have hinfo : P.info? t = some j := by
          have := hj w
          cases hq2 : P.info? t with
          | none => simp [typeInfo, hq2, program, Sem.run, stuck] at this
          | some j2 => simp [typeInfo, hq2, program, Sem.run] at this; rw [this]
        obtain ⟨hzl, hzr⟩ := vDs_RD (w := w) (S := stab S0 base w L) (β := β) hz
        have hCz : CR w (stab S0 base w L) β zv.cells.toList z := by
          rw [hz2]
          refine ⟨hzl, fun u hu => ?_, fun i u d hu hd => (hzr i u d hu hd).1⟩
          obtain ⟨i2, hi2⟩ := List.getElem?_of_mem hu
          have hlt : i2 < z.length := by rw [← hzl]; exact (List.getElem?_eq_some_iff.1 hi2).1
          exact (hzr i2 u _ hi2 (List.getElem?_eq_getElem hlt)).2
        obtain ⟨arr', h6, h7⟩ := fill_CR (w := w) (β := β) (S := stab S0 base w L) (fs := fs) (place := ((fs.map fun x => (x.1, x.2.1)).toArray[·]?)) (fun i off size b hf => by simp [hf])
          (parts.toList.map fun p => (p.1, a.eval p.2)) ds zv.cells z cs' (by simpa using hl) (fun i p d hp hd => by
            simp only [List.getElem?_map, Option.map_eq_some_iff] at hp
            obtain ⟨p0, hp0, rfl⟩ := hp
            exact hq i _ d (by simp [hp0]) hd) hCz (by rw [List.map_map]; exact hf)
        refine ⟨_, h, q_of (v := .agg arr') ?_ (.agg (by simpa using h7.1) (fun i x hx => h7.2.1 x (by rw [← Array.getElem?_toList] at hx; exact List.mem_of_getElem? hx)) (fun i x d hx hd => h7.2.2 i x d (by rw [Array.getElem?_toList]; exact hx) hd))⟩
        unfold execOp
        simp only [ho]
        refine run_v (run_build w t _ arr' ?_)
        unfold Program.built
        simp only [hinfo, h1, hz1, hplaces]
        simpa using h6
      · cases h
    · cases h
  · cases h
theorem run_bounds {isSlice : Bool} {len cap : Nat} {lo hi : Option Operand} {k1 k2 : IntKind} {n m : Int} (hlo : (match lo with | some q => opd c T q | none => some (.val (.int .i64) (0 : Int))) = some (.val (.int k1) n)) (hhi : (match hi with | some q => opd c T q | none => some (.val (.int .i64) (len : Int))) = some (.val (.int k2) m))
    (h0 : 0 ≤ n) (h1 : n ≤ m) (h2 : m ≤ (len : Int)) (h3 : len ≤ cap) : (Instr.sliceBounds isSlice len cap (lo.map a.eval) (hi.map a.eval) none).run P w = .ok (n.toNat, m.toNat, cap) w := by
  have hm0 : 0 ≤ m := Int.le_trans h0 h1
  have hh : (match hi.map a.eval, (none : Option Value) with
      | some v, some _ => Instr.sliceBound v cap .slice3B
      | some v, none => Instr.sliceBound v cap (if isSlice then .sliceAcap else .sliceAlen)
      | none, none => pure len
      | none, some _ => stuck "Slice: max without high").run P w = .ok m.toNat w := by
    cases hi with
    | none =>
      simp only [Option.some.injEq] at hhi
      have : m = (len : Int) := by
        cases hhi
        rfl
      subst this
      rfl
    | some q =>
      simp only [Option.map_some]
      rw [RD_int (opd_RD hT hg hhi)]
      exact run_sliceBound _ hm0 (Int.le_trans h2 (by exact_mod_cast h3)) w
  have hl : (match lo.map a.eval with
      | some v => Instr.sliceBound v m.toNat .sliceB
      | none => pure 0).run P w = .ok n.toNat w := by
    cases lo with
    | none =>
      simp only [Option.some.injEq] at hlo
      have : n = (0 : Int) := by
        cases hlo
        rfl
      subst this
      rfl
    | some q =>
      simp only [Option.map_some]
      rw [RD_int (opd_RD hT hg hlo)]
      exact run_sliceBound _ h0 (by rw [Int.toNat_of_nonneg hm0]; exact h1) w
  unfold Instr.sliceBounds
  simp only [Sem.run_bind, Sem.run_pure, Result.andThen_ok, Option.isSome_none, Bool.false_eq_true, if_false]
  have fin : (match lo.map a.eval with
      | some v => do
        let l ← Instr.sliceBound v m.toNat .sliceB
        pure (l, m.toNat, cap)
      | none => do
        let l ← pure 0
        pure (l, m.toNat, cap) : Sem (Nat × Nat × Nat)).run P w = .ok (n.toNat, m.toNat, cap) w := by
    cases lo with
    | none =>
      simp only [Option.map_none, Sem.run_pure, Result.ok.injEq, and_true] at hl
      rw [← hl]
      rfl
    | some q =>
      simp only [Option.map_some] at hl ⊢
      rw [Sem.run_bind, hl]
      rfl
  cases hi with
  | none =>
    simp only [Option.map_none] at hh ⊢
    rw [Sem.run_bind, hh]
    exact fin
  | some q =>
    simp only [Option.map_some] at hh ⊢
    rw [Sem.run_bind, hh]
    exact fin
theorem q_slice {t : TypeId} {x : Operand} {lo hi : Option Operand} (ho : o.op = .slice t x lo hi none) (h : opQ c o T H K = some r) : ∃ d, K d = some r ∧ QOk P S0 base L β o a w d := by
  unfold opQ at h
  simp only [ho] at h
  split at h
  · rename_i i s k1 n hi2 hx hlo
    split at h
    · rename_i hk
      split at h
      · rename_i k2 m hhi
        split at h
        · rename_i h0
          split at h
          · rename_i h1
            split at h
            · rename_i h2
              refine ⟨_, h, q_of (v := .string (s.extract n.toNat m.toNat)) ?_ (RD_mkStr _)⟩
              unfold execOp
              simp only [ho, RD_str (opd_RD hT hg hx)]
              refine run_v ?_
              unfold Instr.sliceAt Instr.slice
              simp only [Sem.run_bind, run_underlying ((hc.ti t i hi2).cell_str hk.1 hk.2) w, Result.andThen_ok, Option.map_none, Option.isSome_none, Bool.false_eq_true, if_false]
              rw [run_bounds hc hr hT hg hlo hhi h0 h1 h2 (Nat.le_refl _)]
              rfl
            · cases h
          · cases h
        · cases h
      · cases h
    · cases h
  · rename_i i o2 t2 l k1 n hi2 hx hlo
    split at h
    · rename_i e hk
      split at h
      · rename_i ie he
        cases hb : Nat.beq t2.width ie.size with
        | false => rw [hb] at h; cases h
        | true =>
          rw [hb, cond_true] at h
          have hb := Nat.eq_of_beq_eq_true hb
          split at h
          · rename_i k2 m hhi
            split at h
            · rename_i h0
              split at h
              · rename_i h1
                split at h
                · rename_i h2
                  have hv := opd_RD hT hg hx
                  obtain ⟨A, cap, e1, hle, _⟩ := RD_sl hv
                  rw [e1] at hv
                  have hrt : RT w (stab S0 base w L) false (.sl o2 t2) (fun _ => False) [.slice A l.length cap] l := by
                    cases hv with | val h => exact h
                  refine ⟨_, h, q_of (v := .slice (if cap = n.toNat then A else A.map (·.add (n.toNat * ie.size))) (m.toNat - n.toNat) (cap - n.toNat)) ?_ (.val (RT_sub hrt ?_ ?_ ?_))⟩
                  · unfold execOp
                    simp only [ho, e1]
                    refine run_v ?_
                    unfold Instr.sliceAt Instr.slice
                    simp only [Sem.run_bind, run_underlying ((hc.ti t i hi2).slice_of hk) w, Result.andThen_ok, Option.map_none]
                    rw [run_bounds hc hr hT hg hlo hhi h0 h1 h2 hle]
                    simp only [Result.andThen_ok, (hc.ti e ie he).size_of w]
                    rfl
                  · by_cases hcn : cap = n.toNat
                    · left; omega
                    · right; rw [if_neg hcn, hb]
                  · have : m.toNat ≤ l.length := by
                      have := Int.toNat_le_toNat h2
                      simpa using this
                    omega
                  · have : m.toNat ≤ l.length := by
                      have := Int.toNat_le_toNat h2
                      simpa using this
                    have h3 : n.toNat ≤ m.toNat := Int.toNat_le_toNat h1
                    omega
                · cases h
              · cases h
            · cases h
          · cases h
      · cases h
    · cases h
  · cases h
end
end Go.Eng
/- What goes into a call and comes out; quiet calls; all quiet operations. -/
namespace Go.Eng
open Go.RowKit
set_option linter.unusedVariables false
set_option linter.unusedSimpArgs false
set_option linter.unusedSectionVars false
theorem RT_single {w : World} {S : Nat → Prop} : ∀ {t : Ty} {ok ok' : Nat → Prop} {cs : List Value} {x : t.den}, RT w S false t ok cs x → RT w S false t ok' cs x
  | .int k, _, _, _, _, h => by rw [RT] at h ⊢; exact h
  | .bool, _, _, _, _, h => by rw [RT] at h ⊢; exact h
  | .str, _, _, _, _, h => by rw [RT] at h ⊢; exact h
  | .unit, _, _, _, _, h => by rw [RT] at h ⊢; exact h
  | .pair a b, _, _, _, _, h => by
    rw [RT] at h ⊢
    obtain ⟨p, c1, c2, e, h1, h2⟩ := h
    exact ⟨p, c1, c2, e, RT_single h1, RT_single h2⟩
  | .sl o t, _, _, _, _, h => by
    rw [RT] at h ⊢
    obtain ⟨A, cap, e, hle, h⟩ := h
    refine ⟨A, cap, e, hle, ?_⟩
    rw [Bool.and_false, if_neg (by simp)] at h ⊢
    exact h
theorem mem_idsL {d : D} {id : Nat} (hid : id ∈ d.ids) : ∀ {ds : List D}, d ∈ ds → id ∈ idsL ds
  | [], h => by cases h
  | e :: r, h => by
    simp only [idsL, List.mem_append]
    rcases List.mem_cons.1 h with h | h
    · left; rw [← h]; exact hid
    · right; exact mem_idsL hid h
section
variable {P : Program} {c : Cfg} {S0 : Nat → Prop} {base : Nat → Prop} {w : World} {L : Nat → Nat} {β : Nat → Real} {H : List E} {Sc : Nat → Prop}
variable (hr : Rel S0 base w L β H) (hS : ∀ k, stab S0 base w L k → Sc k)
include hr hS
theorem rdCell_sound {t : Ty} {d : D} {v : Value} {x : t.den} {ok : Nat → Prop} (hd : RD w (stab S0 base w L) β v d) (hi : ∀ id ∈ d.ids, ∀ k, L k = id + 2 → Sc k) (h : rdCell t d H = some x) : RT w Sc false t ok [v] x := by
  have arr : ∀ id (t2 : Ty) (l : List t2.den) A cap, id ∈ d.ids → H[id]? = some (.arr t2 l) → β id = .arr A l.length cap t2.width → RT w Sc false (.sl true t2) ok [.slice A l.length cap] l := fun id t2 l A cap hm hH hb => by
    obtain ⟨A2, cap2, h1, h2⟩ := hr.ent id _ hH
    rw [hb] at h1
    cases h1
    exact RT_read _ h2 hS (fun k hk => hi id hm k hk)
  have fz : ∀ id (t2 : Ty) (l : List t2.den) A cap, H[id]? = some (.fz t2 l) → β id = .arr A l.length cap t2.width → RT w Sc false (.sl true t2) ok [.slice A l.length cap] l := fun id t2 l A cap hH hb => by
    obtain ⟨A2, cap2, h1, h2⟩ := hr.ent id _ hH
    rw [hb] at h1
    cases h1
    exact RT_mono _ h2 (fun k hk => ⟨hS k hk, rfl⟩) (fun k hk => hk.elim)
  unfold rdCell at h
  split at h
  · rename_i t2 y
    split at h
    · rename_i e
      cases h
      cases hd with
      | val hd => exact RT_single (RT_cast e (RT_mono _ hd (fun k hk => ⟨hS k hk, rfl⟩) (fun k hk => (hk.elim : False ∧ _))))
    · cases h
  · split at h
    · rename_i o2 t2
      cases h
      rw [(RD_imm hd).1]
      rw [RT]
      refine ⟨none, 0, rfl, Nat.le_refl _, ?_⟩
      rw [Bool.and_false, if_neg (by simp)]
      intro hne
      exact absurd rfl hne
    · cases h
  · rename_i id
    obtain ⟨A, n, cap, wd, hb, e1⟩ := RD_ow hd
    split at h
    · rename_i t2 l hH
      split at h
      · rename_i e
        cases h
        obtain ⟨A2, cap2, h1, _⟩ := hr.ent id _ hH
        rw [h1] at hb
        cases hb
        rw [e1]
        exact RT_cast e (arr id t2 l _ _ (by simp [D.ids]) hH h1)
      · cases h
    · rename_i t2 l hH
      split at h
      · rename_i e
        cases h
        obtain ⟨A2, cap2, h1, _⟩ := hr.ent id _ hH
        rw [h1] at hb
        cases hb
        rw [e1]
        exact RT_cast e (fz id t2 l _ _ hH h1)
      · cases h
    · cases h
  · rename_i id off len
    have os : ∀ (t2 : Ty) (l : List t2.den), (∃ A cap, β id = .arr A l.length cap t2.width ∧ RT w Sc false (.sl true t2) ok [.slice A l.length cap] l) → off + len ≤ l.length → RT w Sc false (.sl true t2) ok [v] ((l.drop off).take len) := by
      intro t2 l hx hle
      obtain ⟨A2, cap2, h1, h2⟩ := hx
      cases hd with
      | os hb hX h3 h4 =>
        rw [h1] at hb
        cases hb
        exact RT_sub h2 hX h3 hle
    split at h
    · rename_i t2 l hH
      cases hle : decide (off + len ≤ l.length) with
      | false => rw [hle] at h; cases h
      | true =>
        rw [hle, cond_true] at h
        split at h
        · rename_i e
          cases h
          obtain ⟨A2, cap2, h1, _⟩ := hr.ent id _ hH
          exact RT_cast e (os t2 l ⟨_, _, h1, arr id t2 l _ _ (by simp [D.ids]) hH h1⟩ (of_decide_eq_true hle))
        · cases h
    · rename_i t2 l hH
      cases hle : decide (off + len ≤ l.length) with
      | false => rw [hle] at h; cases h
      | true =>
        rw [hle, cond_true] at h
        split at h
        · rename_i e
          cases h
          obtain ⟨A2, cap2, h1, _⟩ := hr.ent id _ hH
          exact RT_cast e (os t2 l ⟨_, _, h1, fz id t2 l _ _ hH h1⟩ (of_decide_eq_true hle))
        · cases h
    · cases h
  · cases h
theorem rdCells_one {t : Ty} (h1 : t.width = 1) (hp : ∀ ds H, rdCells t ds H = match ds with | d :: r => (rdCell t d H).map (·, r) | [] => none) {ds rest : List D} {us : List Value} {x : t.den} {ok : Nat → Prop} (hC : CR w (stab S0 base w L) β us ds) (hi : ∀ d ∈ ds, ∀ id ∈ d.ids, ∀ k, L k = id + 2 → Sc k) (h : rdCells t ds H = some (x, rest)) :
    rest = ds.drop 1 ∧ 1 ≤ us.length ∧ RT w Sc false t ok (us.take 1) x := by
  rw [hp] at h
  cases ds with
  | nil => cases h
  | cons d r =>
    obtain ⟨l1, l2, l3⟩ := hC
    cases us with
    | nil => simp at l1
    | cons u us =>
      simp only [Option.map_eq_some_iff, Prod.mk.injEq] at h
      obtain ⟨y, h2, rfl, rfl⟩ := h
      exact ⟨rfl, by simp, rdCell_sound hr hS (l3 0 u d rfl rfl) (hi d (by simp)) h2⟩
theorem rdCells_sound : ∀ (t : Ty) {ds rest : List D} {us : List Value} {x : t.den} {ok : Nat → Prop}, CR w (stab S0 base w L) β us ds → (∀ d ∈ ds, ∀ id ∈ d.ids, ∀ k, L k = id + 2 → Sc k) → rdCells t ds H = some (x, rest) →
    rest = ds.drop t.width ∧ t.width ≤ us.length ∧ RT w Sc false t ok (us.take t.width) x
  | .unit, ds, rest, us, x, ok, hC, hi, h => by
    simp only [rdCells, Option.some.injEq, Prod.mk.injEq] at h
    exact ⟨by simp [Ty.width, h.2], Nat.zero_le _, by rw [RT]; rfl⟩
  | .int k, ds, rest, us, x, ok, hC, hi, h => rdCells_one hr hS (t := .int k) rfl (fun ds H => by cases ds <;> rfl) hC hi h
  | .bool, ds, rest, us, x, ok, hC, hi, h => rdCells_one hr hS (t := .bool) rfl (fun ds H => by cases ds <;> rfl) hC hi h
  | .str, ds, rest, us, x, ok, hC, hi, h => rdCells_one hr hS (t := .str) rfl (fun ds H => by cases ds <;> rfl) hC hi h
  | .sl o t, ds, rest, us, x, ok, hC, hi, h => rdCells_one hr hS (t := .sl o t) rfl (fun ds H => by cases ds <;> rfl) hC hi h
  | .pair a b, ds, rest, us, x, ok, hC, hi, h => by
    simp only [rdCells, Option.bind_eq_some_iff] at h
    obtain ⟨⟨x1, r1⟩, h1, ⟨x2, r2⟩, h2, h3⟩ := h
    simp only [Option.some.injEq, Prod.mk.injEq] at h3
    obtain ⟨rfl, rfl⟩ := h3
    obtain ⟨e1, l1, q1⟩ := rdCells_sound a (ok := fun k => ok k ∧ True) hC hi h1
    simp only at h2
    rw [e1] at h2
    have hC2 : CR w (stab S0 base w L) β (us.drop a.width) (ds.drop a.width) := ⟨by simp [hC.1], fun u hu => hC.2.1 u (List.mem_of_mem_drop hu), fun i u d hu hd => hC.2.2 _ u d (by rw [List.getElem?_drop] at hu; exact hu) (by rw [List.getElem?_drop] at hd; exact hd)⟩
    obtain ⟨e2, l2, q2⟩ := rdCells_sound b (ok := fun k => ok k ∧ ¬ True) hC2 (fun d hd => hi d (List.mem_of_mem_drop hd)) h2
    simp only [List.length_drop] at l2
    refine ⟨by rw [e2, List.drop_drop]; rfl, by show a.width + b.width ≤ _; omega, ?_⟩
    rw [RT]
    exact ⟨fun _ => True, us.take a.width, (us.drop a.width).take b.width, by show us.take (a.width + b.width) = _; rw [List.take_add], q1, q2⟩
theorem rdSh_sound {s : Sh} {d : D} {v : Value} {x : s.ty.den} (hd : RD w (stab S0 base w L) β v d) (hi : ∀ id ∈ d.ids, ∀ k, L k = id + 2 → Sc k) (h : rdSh s d H = some x) : RSh w Sc false s (fun _ => False) v x := by
  cases s with
  | one t =>
    simp only [rdSh] at h
    cases hb : Nat.beq t.width 1 with
    | false => rw [hb] at h; cases h
    | true =>
      rw [hb, cond_true] at h
      have hb := Nat.eq_of_beq_eq_true hb
      simp only [Option.bind_eq_some_iff] at h
      obtain ⟨⟨y, rest⟩, h4, h5⟩ := h
      refine ⟨hb, ?_⟩
      have key : ∀ (t : Ty) (y : t.den) rest, t.width = 1 → rdCells t [d] H = some (y, rest) → rest = [] → RT w Sc false t (fun _ => False) [v] y := by
        intro t
        induction t with
        | unit => intro y rest hw; cases hw
        | pair a b iha ihb =>
          intro y rest hw h4 hrest
          simp only [rdCells, Option.bind_eq_some_iff] at h4
          obtain ⟨⟨x1, r1⟩, h6, ⟨x2, r2⟩, h7, h8⟩ := h4
          simp only [Option.some.injEq, Prod.mk.injEq] at h8
          obtain ⟨rfl, rfl⟩ := h8
          simp only at h7
          have wz : ∀ (t : Ty) (ds : List D) (y : t.den) rest, t.width = 0 → rdCells t ds H = some (y, rest) → rest = ds ∧ RT w Sc false t (fun _ => False) [] y := by
            intro t
            induction t with
            | unit => intro ds y rest _ h; simp only [rdCells, Option.some.injEq, Prod.mk.injEq] at h; exact ⟨h.2.symm, by rw [RT]⟩
            | pair a b iha ihb =>
              intro ds y rest hw h
              simp only [rdCells, Option.bind_eq_some_iff] at h
              obtain ⟨⟨x1, r1⟩, h6, ⟨x2, r2⟩, h7, h8⟩ := h
              simp only [Option.some.injEq, Prod.mk.injEq] at h8
              obtain ⟨rfl, rfl⟩ := h8
              have hw : a.width + b.width = 0 := hw
              obtain ⟨e1, q1⟩ := iha _ _ _ (by omega) h6
              obtain ⟨e2, q2⟩ := ihb _ _ _ (by omega) h7
              subst e1
              refine ⟨e2, ?_⟩
              rw [RT]
              exact ⟨fun _ => True, [], [], rfl, RT_single q1, RT_single q2⟩
            | int k => intro _ _ _ hw; cases hw
            | bool => intro _ _ _ hw; cases hw
            | str => intro _ _ _ hw; cases hw
            | sl o t ih => intro _ _ _ hw; cases hw
          have hw : a.width + b.width = 1 := hw
          rcases Nat.eq_zero_or_pos a.width with h0 | h0
          · obtain ⟨e1, q1⟩ := wz a _ _ _ h0 h6
            subst e1
            rw [RT]
            exact ⟨fun _ => True, [], [v], rfl, RT_single q1, RT_single (ihb _ _ (by omega) h7 hrest)⟩
          · have hb0 : b.width = 0 := by omega
            obtain ⟨e2, q2⟩ := wz b _ _ _ hb0 h7
            rw [RT]
            exact ⟨fun _ => True, [v], [], rfl, RT_single (iha _ _ (by omega) h6 (by rw [← e2]; exact hrest)), RT_single q2⟩
        | int k =>
          intro y rest _ h4 _
          simp only [rdCells, Option.map_eq_some_iff, Prod.mk.injEq] at h4
          obtain ⟨z, h6, rfl, _⟩ := h4
          exact rdCell_sound hr hS hd hi h6
        | bool =>
          intro y rest _ h4 _
          simp only [rdCells, Option.map_eq_some_iff, Prod.mk.injEq] at h4
          obtain ⟨z, h6, rfl, _⟩ := h4
          exact rdCell_sound hr hS hd hi h6
        | str =>
          intro y rest _ h4 _
          simp only [rdCells, Option.map_eq_some_iff, Prod.mk.injEq] at h4
          obtain ⟨z, h6, rfl, _⟩ := h4
          exact rdCell_sound hr hS hd hi h6
        | sl o t ih =>
          intro y rest _ h4 _
          simp only [rdCells, Option.map_eq_some_iff, Prod.mk.injEq] at h4
          obtain ⟨z, h6, rfl, _⟩ := h4
          exact rdCell_sound hr hS hd hi h6
      cases rest with
      | cons => cases h5
      | nil =>
        cases h5
        exact key t y [] hb h4 rfl
  | agg t =>
    cases d with
    | agg ds =>
      obtain ⟨arr, rfl, h1, h2, h3⟩ := RD_agg hd
      simp only [rdSh, Option.bind_eq_some_iff] at h
      obtain ⟨⟨y, rest⟩, h4, h5⟩ := h
      cases rest with
      | cons => cases h5
      | nil =>
        cases h5
        have hC : CR w (stab S0 base w L) β arr.toList ds := ⟨by simpa using h1, fun u hu => by
            obtain ⟨i, hi⟩ := List.getElem?_of_mem hu
            exact h2 i u (by simpa using hi), fun i u d hu hd => h3 i u d (by simpa using hu) hd⟩
        obtain ⟨e1, l1, q1⟩ := rdCells_sound hr hS t (ok := fun _ => False) hC (fun d hd id hid => hi id (mem_idsL hid hd)) h4
        refine ⟨arr, rfl, ?_⟩
        have hlen : arr.toList.length ≤ t.width := by
          rw [hC.1]
          have : (ds.drop t.width).length = 0 := by rw [← e1]; rfl
          simp at this; omega
        rw [List.take_of_length_le hlen] at q1
        exact q1
    | _ => cases h
theorem rdShs_sound : ∀ (ss : List Sh) {ds : List D} {vs : List Value} {x : Shs.den ss}, vs.length = ds.length → (∀ (i : Nat) v d, vs[i]? = some v → ds[i]? = some d → RD w (stab S0 base w L) β v d) → (∀ id ∈ idsL ds, ∀ k, L k = id + 2 → Sc k) → rdShs ss ds H = some x → RArgs w Sc ss vs x
  | [], [], vs, x, hl, _, _, _ => List.eq_nil_of_length_eq_zero hl
  | [], _ :: _, vs, x, hl, _, _, h => by cases h
  | _ :: _, [], vs, x, hl, _, _, h => by cases h
  | s :: r, d :: ds, vs, x, hl, hd, hi, h => by
    simp only [rdShs, Option.bind_eq_some_iff] at h
    obtain ⟨x1, h1, x2, h2, h3⟩ := h
    cases h3
    cases vs with
    | nil => simp at hl
    | cons v vs =>
      simp only [idsL, List.mem_append] at hi
      exact ⟨v, vs, rfl, rdSh_sound hr hS (hd 0 v d rfl rfl) (fun id h => hi id (.inl h)) h1, rdShs_sound r (by simpa using hl) (fun i v d hv hd2 => hd (i + 1) v d (by simpa using hv) (by simpa using hd2)) (fun id h => hi id (.inr h)) h2⟩
end
theorem inCells_noOwn : ∀ (t : Ty) (x : t.den) (H : List E), t.strip = t → inCells t x H = (cells t x, H)
  | .unit, _, _, _ => rfl
  | .int _, _, _, _ => rfl
  | .bool, _, _, _ => rfl
  | .str, _, _, _ => rfl
  | .sl false _, _, _, _ => rfl
  | .sl true _, _, _, h => by simp [Ty.strip] at h
  | .pair a b, x, H, h => by
    simp only [Ty.strip, Ty.pair.injEq] at h
    simp only [inCells, inCells_noOwn a x.1 H h.1, inCells_noOwn b x.2 H h.2, cells]
/-- A result that is nobody's own, as a value. -/
theorem inSh_RD {w : World} {S : Nat → Prop} {β : Nat → Real} {s : Sh} {ok : Nat → Prop} {v : Value} {x : s.ty.den} {H H2 : List E} {d : D} (hn : s.ty.strip = s.ty) (h : RSh w S true s ok v x) (hi : inSh s x H = some (d, H2)) : RD w S β v d ∧ H2 = H := by
  unfold inSh at hi
  split at hi
  · rename_i t y
    simp only [inCells_noOwn t y H hn, Option.some.injEq, Prod.mk.injEq] at hi
    obtain ⟨rfl, rfl⟩ := hi
    obtain ⟨arr, rfl, hrt⟩ := h
    have hrt := RT_noOwn (ok' := ok) t hn hrt
    obtain ⟨hl, hq⟩ := cells_RD (β := β) t hrt
    refine ⟨.agg (by rw [hl]; simp) (fun i u hu => RT_one _ hrt u (by rw [← Array.getElem?_toList] at hu; exact List.mem_of_getElem? hu)) (fun i u d hu hd => hq i u d (by rw [Array.getElem?_toList]; exact hu) hd), rfl⟩
  · rename_i t y
    simp only [inCells_noOwn t y H hn] at hi
    obtain ⟨h1, hrt⟩ := h
    have hrt := RT_noOwn (ok' := ok) t hn hrt
    obtain ⟨hl, hq⟩ := cells_RD (β := β) t hrt
    split at hi
    · rename_i d2 hd2
      simp only [Option.some.injEq, Prod.mk.injEq] at hi
      obtain ⟨rfl, rfl⟩ := hi
      exact ⟨hq 0 v d2 rfl (by rw [hd2]; rfl), rfl⟩
    · cases hi
theorem inShs_RD {w : World} {S : Nat → Prop} {β : Nat → Real} : ∀ (ss : List Sh) {ok : Nat → Prop} {vs : List Value} {x : Shs.den ss} {H H2 : List E} {ds : List D}, (∀ s ∈ ss, s.ty.strip = s.ty) → RTup w S ss ok vs x → inShs ss x H = some (ds, H2) →
    vs.length = ds.length ∧ (∀ (i : Nat) v d, vs[i]? = some v → ds[i]? = some d → RD w S β v d) ∧ H2 = H
  | [], ok, vs, x, H, H2, ds, hn, h, hi => by
    simp only [inShs, Option.some.injEq, Prod.mk.injEq] at hi
    obtain ⟨rfl, rfl⟩ := hi
    have : vs = [] := h
    subst this
    exact ⟨rfl, fun i v d hv => by simp at hv, rfl⟩
  | s :: r, ok, vs, x, H, H2, ds, hn, h, hi => by
    obtain ⟨p, v, vr, rfl, h1, h2⟩ := h
    simp only [inShs, Option.bind_eq_some_iff] at hi
    obtain ⟨⟨d, H3⟩, h3, ⟨es, H4⟩, h4, h5⟩ := hi
    simp only [Option.some.injEq, Prod.mk.injEq] at h5
    obtain ⟨rfl, rfl⟩ := h5
    obtain ⟨q1, q2⟩ := inSh_RD (β := β) (hn s (by simp)) h1 h3
    simp only at q2 h4
    subst q2
    obtain ⟨q3, q4, q5⟩ := inShs_RD (β := β) r (fun s hs => hn s (by simp [hs])) h2 h4
    refine ⟨by simp [q3], fun i v2 d2 hv hd => ?_, q5⟩
    cases i with
    | zero => simp at hv hd; subst hv; subst hd; exact q1
    | succ i => exact q4 i v2 d2 (by simpa using hv) (by simpa using hd)
theorem RT_noSl {w : World} {S S' : Nat → Prop} {o : Bool} : ∀ (t : Ty) {ok ok' : Nat → Prop} {cs : List Value} {x : t.den}, t.noSl = true → RT w S o t ok cs x → RT w S' o t ok' cs x
  | .int _, _, _, _, _, _, h => by rw [RT] at h ⊢; exact h
  | .bool, _, _, _, _, _, h => by rw [RT] at h ⊢; exact h
  | .str, _, _, _, _, _, h => by rw [RT] at h ⊢; exact h
  | .unit, _, _, _, _, _, h => by rw [RT] at h ⊢; exact h
  | .sl _ _, _, _, _, _, hn, h => by simp [Ty.noSl] at hn
  | .pair a b, _, _, _, _, hn, h => by
    rw [RT] at h ⊢
    simp only [Ty.noSl, Bool.and_eq_true] at hn
    obtain ⟨p, c1, c2, rfl, h1, h2⟩ := h
    exact ⟨fun _ => True, c1, c2, rfl, RT_noSl a hn.1 h1, RT_noSl b hn.2 h2⟩
theorem RSh_noSl {w : World} {S S' : Nat → Prop} {o : Bool} {s : Sh} {ok ok' : Nat → Prop} {v : Value} {x : s.ty.den} (hn : s.ty.noSl = true) (h : RSh w S o s ok v x) : RSh w S' o s ok' v x := by
  cases s with
  | one t => exact ⟨h.1, RT_noSl t hn h.2⟩
  | agg t => obtain ⟨arr, e, h⟩ := h; exact ⟨arr, e, RT_noSl t hn h⟩
theorem RTup_noSl {w : World} {S S' : Nat → Prop} : ∀ (ss : List Sh) {ok ok' : Nat → Prop} {vs : List Value} {x : Shs.den ss}, (∀ s ∈ ss, s.ty.noSl = true) → RTup w S ss ok vs x → RTup w S' ss ok' vs x
  | [], _, _, _, _, _, h => h
  | s :: r, _, _, _, _, hn, h => by
    obtain ⟨p, v, vr, e, h1, h2⟩ := h
    exact ⟨p, v, vr, e, RSh_noSl (hn s (by simp)) h1, RTup_noSl r (fun s hs => hn s (by simp [hs])) h2⟩
theorem RT_upS {w : World} {S S' : Nat → Prop} {o : Bool} {t : Ty} {ok : Nat → Prop} {cs : List Value} {x : t.den} (h : RT w S o t ok cs x) (hS : ∀ k, S k → S' k) : RT w S' o t ok cs x := RT_mono t h (fun k hk => ⟨hS k hk, rfl⟩) (fun k hk => ⟨hk, rfl⟩)
theorem RSh_upS {w : World} {S S' : Nat → Prop} {o : Bool} {s : Sh} {ok : Nat → Prop} {v : Value} {x : s.ty.den} (h : RSh w S o s ok v x) (hS : ∀ k, S k → S' k) : RSh w S' o s ok v x := by
  cases s with
  | one t => exact ⟨h.1, RT_upS h.2 hS⟩
  | agg t => obtain ⟨arr, e, h⟩ := h; exact ⟨arr, e, RT_upS h hS⟩
theorem RTup_upS {w : World} {S S' : Nat → Prop} (hS : ∀ k, S k → S' k) : ∀ (ss : List Sh) {ok : Nat → Prop} {vs : List Value} {x : Shs.den ss}, RTup w S ss ok vs x → RTup w S' ss ok vs x
  | [], _, _, _, h => h
  | s :: r, _, _, _, h => by
    obtain ⟨p, v, vr, e, h1, h2⟩ := h
    exact ⟨p, v, vr, e, RSh_upS h1 hS, RTup_upS hS r h2⟩
end Go.Eng
/- Conversions. -/
namespace Go.Eng
open Go.RowKit
set_option linter.unusedVariables false
set_option linter.unusedSimpArgs false
set_option linter.unusedSectionVars false
section
variable {P : Program} {c : Cfg} {h : Hint} {S0 : Nat → Prop} {base : Nat → Prop} {w : World} {L : Nat → Nat} {β : Nat → Real} {H : List E} {a : Act} {T : List (Nat × D)} {o : Oper} {R : Type} {r : R} {K : D → Option R}
variable (hc : CfgOk P c) (hr : Rel S0 base w L β H) (hT : RTm w (stab S0 base w L) β a.tmps T) (hg : GlOk c.gl w (stab S0 base w L))
include hc hr hT hg
theorem q_convert {u t : TypeId} {x : Operand} (ho : o.op = .convert u t x) (h : opQ c o T H K = some r) : ∃ d, K d = some r ∧ QOk P S0 base L β o a w d := by
  unfold opQ at h
  simp only [ho] at h
  split at h
  · rename_i iu i k n hu hi hx
    have ex := RD_int (opd_RD hT hg hx)
    split at h
    · rename_i k2 hk ht
      refine ⟨_, h, q_of (v := .int k2 (k2.wrap n)) ?_ (RD_mkInt _ _)⟩
      unfold execOp
      simp only [ho, ex]
      refine run_v ?_
      unfold convert
      obtain ⟨du, hdu⟩ := (hc.ti u iu hu).under
      simp only [Sem.run_bind, run_underlying hdu w, run_underlying ((hc.ti t i hi).cell_int hk ht) w, Result.andThen_ok]
      rfl
    · cases h
  · rename_i iu i s hu hi hx
    have ex := RD_str (opd_RD hT hg hx)
    split at h
    · rename_i hk ht
      refine ⟨_, h, q_of (v := .string s) ?_ (RD_mkStr _)⟩
      unfold execOp
      simp only [ho, ex]
      refine run_v ?_
      unfold convert
      obtain ⟨du, hdu⟩ := (hc.ti u iu hu).under
      simp only [Sem.run_bind, run_underlying hdu w, run_underlying ((hc.ti t i hi).cell_str hk ht) w, Result.andThen_ok]
      cases du <;> rfl
    · cases h
  · rename_i iu i d _ _ hu hi hx
    split at h
    · rename_i e hku hki hty
      split at h
      · rename_i ie hie
        split at h
        · rename_i hke hte
          split at h
          · rename_i l hl
            have hrd := rdCell_sound hr (t := .sl false (.int .u8)) (Sc := fun k => k < w.heap.size) (ok := fun _ => False) (fun k hk => hk.2.1) (opd_RD hT hg hx) (fun id hid k hk => by
              rcases Nat.lt_or_ge k w.heap.size with h1 | h1
              · exact h1
              · have := hr.hi k h1
                omega) hl
            rw [RT] at hrd
            obtain ⟨A, cap, e1, e2, e3⟩ := hrd
            have ev : a.eval x = .slice A l.length cap := by simpa using e1
            have hu2 : P.underlying u = some (.slice e) := by
              have := (hc.ti u iu hu).desc
              rw [hku] at this
              exact this
            refine ⟨_, h, q_of (v := .string (bytesOf l)) ?_ (RD_mkStr _)⟩
            unfold execOp
            simp only [ho, ev]
            refine run_v ?_
            unfold convert
            simp only [Sem.run_bind, run_underlying hu2 w, run_underlying ((hc.ti t i hi).cell_str hki hty) w, Result.andThen_ok, run_underlying ((hc.ti e ie hie).cell_int hke hte) w]
            have main : (Conv.bytesToString (.slice A l.length cap)).run P w = .ok (.string (bytesOf l)) w := by
              rw [if_neg (by simp)] at e3
              cases A with
              | none =>
                have : l = [] := by
                  rcases List.eq_nil_or_concat l with h1 | ⟨_, _, h1⟩
                  · exact h1
                  · obtain ⟨ad, h2, _⟩ := e3 (by rw [h1]; simp)
                    cases h2
                subst this
                rfl
              | some ad =>
                refine run_bytesToString w ad l.length cap l ?_
                rw [← List.length_map (f := Value.int IntKind.u8)]
                refine run_loadCells_list w ad _ fun j v hv => ?_
                rw [List.getElem?_map, Option.map_eq_some_iff] at hv
                obtain ⟨n, hn, rfl⟩ := hv
                obtain ⟨ad2, h2, _, h4⟩ := e3 (by intro e; rw [e] at hn; simp at hn)
                cases h2
                obtain ⟨c, c1, c2⟩ := h4 j n hn
                rw [RT] at c2
                have := c1 0 (.int .u8 n) (by rw [c2]; rfl)
                simpa [Ty.width] using this
            exact main
          · cases h
        · cases h
      · cases h
    · cases h
  · cases h
end
end Go.Eng
/- Quiet calls; all quiet operations. -/
namespace Go.Eng
open Go.RowKit
set_option linter.unusedVariables false
set_option linter.unusedSimpArgs false
set_option linter.unusedSectionVars false
section
variable {P : Program} {c : Cfg} {S0 : Nat → Prop} {base : Nat → Prop} {w : World} {L : Nat → Nat} {β : Nat → Real} {H : List E} {a : Act} {T : List (Nat × D)} {o : Oper} {R : Type} {r : R} {K : D → Option R}
/-- What a call of f is, as an operation's run. -/
theorem run_callFunc {f : FuncId} (hf : ∃ fn, P.funcs[f]? = some fn ∧ fn.body.isNone = false ∧ (fn.name == "runtime.NumGoroutine") = false) (args : Array Value) (w : World) : (callFunc f args).run P w = .ok (.enter f args) w := by
  obtain ⟨fn, h1, h2, h3⟩ := hf
  unfold callFunc
  have hp : (program.run P w) = .ok P w := rfl
  rw [Sem.run_bind, hp]
  simp only [Result.andThen_ok, h1, h3, h2, Bool.false_eq_true, if_false]
  rfl
theorem run_callValue {k : Call} {x : Operand} (ho : o.op = .call k) (hk : k.callee = .value x) {f : FuncId} {arr : Array Value} (hx : a.eval x = .func (.func f) #[] arr)
    (hf : ∃ fn, P.funcs[f]? = some fn ∧ fn.body.isNone = false ∧ (fn.name == "runtime.NumGoroutine") = false) : (execOp a.eval o).run P w = .ok (.enter f (k.args.map a.eval ++ arr)) w := by
  unfold execOp
  simp only [ho, resolve, hk, hx, Deferred.ofValue]
  simp only [Sem.run_bind, Sem.run_pure, Result.andThen_ok, invoke]
  rw [show #[] ++ k.args.map a.eval = k.args.map a.eval by simp]
  exact run_callFunc hf _ w
theorem run_callInvoke {k : Call} {x : Operand} {name : String} (ho : o.op = .call k) (hk : k.callee = .invoke x name) {f : FuncId} {t : TypeId} {v : Value} (hx : a.eval x = .iface t v)
    (hm : (method (P.types.size + Made.depth) t v name).run P w = .ok (f, v) w)
    (hf : ∃ fn, P.funcs[f]? = some fn ∧ fn.body.isNone = false ∧ (fn.name == "runtime.NumGoroutine") = false) : (execOp a.eval o).run P w = .ok (.enter f (#[v] ++ k.args.map a.eval)) w := by
  unfold execOp
  simp only [ho, resolve, hk, hx]
  simp only [Sem.run_bind, Sem.run_pure, Result.andThen_ok, invoke]
  have h0 : (#[Value.iface t v] ++ k.args.map a.eval)[0]? = some (.iface t v) := by rw [Array.getElem?_append_left (by simp)]; rfl
  rw [h0]
  have h1 : (#[Value.iface t v] ++ k.args.map a.eval).extract 1 (#[Value.iface t v] ++ k.args.map a.eval).size = k.args.map a.eval := by
    apply Array.toList_inj.1
    simp [List.take_of_length_le]
  show (callMethod (.iface t v) name _).run P w = _
  unfold callMethod
  rw [Sem.run_bind]
  have hp : (program.run P w) = .ok P w := rfl
  rw [hp]
  simp only [Result.andThen_ok]
  rw [Sem.run_bind, hm]
  simp only [Result.andThen_ok]
  rw [h1]
  exact run_callFunc hf _ w
variable (hc : CfgOk P c) (hr : Rel S0 base w L β H) (hT : RTm w (stab S0 base w L) β a.tmps T) (hg : GlOk c.gl w (stab S0 base w L))
include hc hr hT hg
/-- All blocks that may be read now. -/
theorem q_callQ {f : FuncId} {args : Array Value} {ds : List D} (hl : args.toList.length = ds.length) (hd : ∀ (i : Nat) v d, args.toList[i]? = some v → ds[i]? = some d → RD w (stab S0 base w L) β v d) (h : callQ c H f ds K = some r) :
    ∃ d, K d = some r ∧ (∃ fn, P.funcs[f]? = some fn ∧ fn.body.isNone = false ∧ (fn.name == "runtime.NumGoroutine") = false) ∧
      Calls P f args w fun e w' => ∃ v, e = .returned v ∧ Below w.heap.size w w' ∧ RD w' (stab S0 base w' L) β v d := by
  unfold callQ at h
  split at h
  · rename_i k hk
    obtain ⟨as, rs, X⟩ := k
    have hP := hc.con f _ hk
    simp only at h hP
    split at h
    · rename_i x hx
      rw [Option.bind_eq_some_iff] at h
      obtain ⟨y, hy, h⟩ := h
      have hstab : ∀ k, stab S0 base w L k → k < w.heap.size := fun k hk => hk.2.1
      have hbound : ∀ k, (base k → S0 k) ∧ k < w.heap.size → k < w.heap.size := fun k hk => hk.2
      have hall : RArgs w (fun k => (base k → S0 k) ∧ k < w.heap.size) as args.toList x := rdShs_sound hr (fun k hk => ⟨hk.1, hk.2.1⟩) as hl hd (fun id _ k hk => by
        have h1 : ¬ base k := fun h2 => by have := hr.low k h2; omega
        have h2 : k < w.heap.size := by
          rcases Nat.lt_or_ge k w.heap.size with h3 | h3
          · exact h3
          · have := hr.hi k h3; omega
        exact ⟨fun h3 => absurd h3 h1, h2⟩) hx
      have hnew : ∀ (w' : World) (ok : Nat → Prop) k, Below w.heap.size w w' → (w.heap.size ≤ k ∧ k < w'.heap.size ∧ ¬ ok k) → stab S0 base w' L k := fun w' ok k hb hk => by
        exact ⟨fun h => absurd (hr.base_le k h) (by omega), hk.2.1, hr.hi k hk.1⟩
      cases rs with
      | one s =>
        simp only at h
        cases hb : (decide (s.ty.strip = s.ty) && (s.ty.noSl || (idsL ds).isEmpty)) with
        | false => rw [hb] at h; cases h
        | true =>
          rw [hb, cond_true] at h
          simp only [Bool.and_eq_true, decide_eq_true_eq, Bool.or_eq_true, List.isEmpty_iff] at hb
          split at h
          · rename_i d H2 hin
            refine ⟨d, h, hP.func, ?_⟩
            rcases hb.2 with hns | hid
            · refine (hP.call w (fun k => (base k → S0 k) ∧ k < w.heap.size) args x y hbound (fun g cs hg0 β => ?_) hall hy).mono ?_
              · exact RD_grow (hg g cs hg0 β) (fun k hk => ⟨⟨hk.1, hk.2.1⟩, rfl⟩) (fun _ _ => rfl)
              · rintro e w' ⟨v, ok, rfl, hb1, _, hres⟩
                exact ⟨v, rfl, hb1, (inSh_RD hb.1 (RSh_noSl (ok' := ok) hns hres) hin).1⟩
            · refine (hP.call w (stab S0 base w L) args x y hstab hg (rdShs_sound hr (fun k hk => hk) as hl hd (fun id h => by rw [hid] at h; cases h) hx) hy).mono ?_
              rintro e w' ⟨v, ok, rfl, hb1, _, hres⟩
              exact ⟨v, rfl, hb1, (inSh_RD hb.1 (RSh_upS hres (fun k hk => hk.elim (fun h => (stab_below hb1 k h).1) (hnew w' ok k hb1))) hin).1⟩
          · cases h
      | tup ss =>
        simp only at h
        cases hb : (ss.all (fun s => decide (s.ty.strip = s.ty)) && (ss.all (fun s => s.ty.noSl) || (idsL ds).isEmpty)) with
        | false => rw [hb] at h; cases h
        | true =>
          rw [hb, cond_true] at h
          simp only [Bool.and_eq_true, List.all_eq_true, decide_eq_true_eq, Bool.or_eq_true, List.isEmpty_iff] at hb
          split at h
          · rename_i es H2 hin
            refine ⟨_, h, hP.func, ?_⟩
            rcases hb.2 with hns | hid
            · refine (hP.call w (fun k => (base k → S0 k) ∧ k < w.heap.size) args x y hbound (fun g cs hg0 β => ?_) hall hy).mono ?_
              · exact RD_grow (hg g cs hg0 β) (fun k hk => ⟨⟨hk.1, hk.2.1⟩, rfl⟩) (fun _ _ => rfl)
              · rintro e w' ⟨v, ok, rfl, hb1, _, _, arr, rfl, hres⟩
                obtain ⟨q1, q2, _⟩ := inShs_RD (β := β) (S := stab S0 base w' L) ss hb.1 (RTup_noSl (ok' := ok) ss hns hres) hin
                exact ⟨_, rfl, hb1, .tup (by simpa using q1) (fun i x d hx hd => q2 i x d (by simpa using hx) hd)⟩
            · refine (hP.call w (stab S0 base w L) args x y hstab hg (rdShs_sound hr (fun k hk => hk) as hl hd (fun id h => by rw [hid] at h; cases h) hx) hy).mono ?_
              rintro e w' ⟨v, ok, rfl, hb1, _, _, arr, rfl, hres⟩
              obtain ⟨q1, q2, _⟩ := inShs_RD (β := β) (S := stab S0 base w' L) ss hb.1 (RTup_upS (fun k hk => hk.elim (fun h => (stab_below hb1 k h).1) (hnew w' ok k hb1)) ss hres) hin
              exact ⟨_, rfl, hb1, .tup (by simpa using q1) (fun i x d hx hd => q2 i x d (by simpa using hx) hd)⟩
          · cases h
    · cases h
  · cases h
theorem q_enter {f : FuncId} {args : Array Value} {d : D} (hrun : (execOp a.eval o).run P w = .ok (.enter f args) w) (h : Calls P f args w fun e w' => ∃ v, e = .returned v ∧ Below w.heap.size w w' ∧ RD w' (stab S0 base w' L) β v d) : QOk P S0 base L β o a w d := by
  intro next Q hn
  unfold Oper.wp
  rw [hrun, Oper.upon_enter]
  refine h.mono ?_
  rintro e w' ⟨v, rfl, hb, hd⟩
  exact hn w' v hb hd
/-- Every quiet operation. -/
theorem opQ_sound (h : opQ c o T H K = some r) : ∃ d, K d = some r ∧ QOk P S0 base L β o a w d := by
  cases ho : o.op with
  | move x => exact q_move hc hr hT hg ho h
  | assign x => exact q_assign hc hr hT hg ho h
  | pick b x y => exact q_pick hc hr hT hg ho h
  | nilCheck x => exact q_nilCheck hc hr hT hg ho h
  | binOp op t x y t2 => exact q_binOp hc hr hT hg ho h
  | unOp op t x => exact q_unOp hc hr hT hg ho h
  | fieldAddr t x f => exact q_fieldAddr hc hr hT hg ho h
  | field t x f => exact q_field hc hr hT hg ho h
  | indexAddr t x i => exact q_indexAddr hc hr hT hg ho h
  | index t x i => exact q_index hc hr hT hg ho h
  | load t x => exact q_load hc hr hT hg ho h
  | convert u t x => exact q_convert hc hr hT hg ho h
  | makeInterface t x => exact q_makeInterface hc hr hT hg ho h
  | makeFunc g first captured => exact q_makeFunc hc hr hT hg ho h
  | extract x n => exact q_extract hc hr hT hg ho h
  | build t parts => exact q_build hc hr hT hg ho h
  | slice t x lo hi mx =>
    cases mx with
    | none => exact q_slice hc hr hT hg ho h
    | some m => unfold opQ at h; simp only [ho] at h; cases h
  | call k =>
    unfold opQ at h
    simp only [ho] at h
    cases hk : k.callee with
    | builtin b =>
      rw [hk] at h
      cases b with
      | len =>
        simp only at h
        split at h
        · rename_i x t ts hx ht
          split at h
          · rename_i i d hi hd
            split at h
            · rename_i n hn
              exact ⟨_, h, q_len hc hr hT hg ho hk hx ht hi hd hn⟩
            · cases h
          · cases h
        · cases h
      | _ => cases h
    | value x =>
      rw [hk] at h
      simp only at h
      split at h
      · rename_i f caps ds hx hd
        obtain ⟨arr, e, hl, hq⟩ := RD_fn (opd_RD hT hg hx)
        obtain ⟨hl2, hq2⟩ := opds_RD hc hr hT hg hd
        obtain ⟨d, h1, h2, h3⟩ := q_callQ hc hr hT hg (args := k.args.map a.eval ++ arr) (ds := ds ++ caps) (by simp at hl2 ⊢; omega) (fun i v d hv hd => by
          have e1 : (k.args.map a.eval ++ arr).toList = k.args.toList.map a.eval ++ arr.toList := by simp
          rw [e1] at hv
          rcases Nat.lt_or_ge i (k.args.toList.map a.eval).length with hi | hi
          · rw [List.getElem?_append_left hi] at hv
            rw [List.getElem?_append_left (by omega)] at hd
            exact hq2 i v d hv hd
          · rw [List.getElem?_append_right hi] at hv
            rw [List.getElem?_append_right (by omega), ← hl2] at hd
            exact hq _ v d (by rw [← Array.getElem?_toList]; exact hv) hd) h
        exact ⟨d, h1, q_enter hc hr hT hg (run_callValue ho hk e h2) h3⟩
      · cases h
    | invoke x name =>
      rw [hk] at h
      simp only at h
      split at h
      · rename_i t d0 ds hx hd
        obtain ⟨u, e, hu⟩ := RD_ifc (opd_RD hT hg hx)
        obtain ⟨hl2, hq2⟩ := opds_RD hc hr hT hg hd
        split at h
        · rename_i f hm
          obtain ⟨d, h1, h2, h3⟩ := q_callQ hc hr hT hg (args := #[u] ++ k.args.map a.eval) (ds := d0 :: ds) (by simp at hl2 ⊢; omega) (fun i v d hv hd => by
            have e1 : (#[u] ++ k.args.map a.eval).toList = u :: k.args.toList.map a.eval := by simp
            rw [e1] at hv
            cases i with
            | zero => simp at hv hd; subst hv; subst hd; exact hu
            | succ i => exact hq2 i v d (by simpa using hv) (by simpa using hd)) h
          exact ⟨d, h1, q_enter hc hr hT hg (run_callInvoke ho hk e (hc.meth t name f hm u w) h2) h3⟩
        · cases h
      · cases h
  | _ => unfold opQ at h; simp only [ho] at h; cases h
end
end Go.Eng
/- Moving values into the call's own memory. -/
namespace Go.Eng
open Go.RowKit
set_option linter.unusedVariables false
set_option linter.unusedSimpArgs false
set_option linter.unusedSectionVars false
/-- A slice that is only read, told with or without owners. -/
theorem RT_frz {w : World} {S : Nat → Prop} {o : Bool} {t : Ty} {ok ok' : Nat → Prop} {cs : List Value} {x : List t.den} (h : RT w S false (.sl false t) ok cs x) : RT w S o (.sl false t) ok' cs x := by
  rw [RT] at h ⊢
  rw [Bool.false_and] at *
  exact h
section
variable {S0 : Nat → Prop} {base : Nat → Prop} {w : World} {L L2 L3 : Nat → Nat} {β : Nat → Real} {H H2 H3 : List E}
/-- An entry that is the call's own no longer. -/
def Gone (H : List E) (id : Nat) : Prop := H[id]? = some E.dead ∨ ∃ t l, H[id]? = some (E.fz t l)
/-- Labels move on: blocks of ok (entries' own till now) become nobody's; some others become read-only. -/
structure Mv (L L2 : Nat → Nat) (H2 : List E) (ok : Nat → Prop) : Prop where
  got : ∀ k, ok k → L2 k = 1 ∧ ∃ id, L k = id + 2 ∧ Gone H2 id
  one : ∀ k, L k = 1 → L2 k = 1
  zero : ∀ k, L k = 0 → L2 k = 0
  kept : ∀ k, 2 ≤ L2 k → L2 k = L k
  alt : ∀ k, L2 k = L k ∨ ∃ id, L k = id + 2 ∧ Gone H2 id
theorem stab_mv (h : ∀ k, L k = 0 → L2 k = 0) (k : Nat) (hk : stab S0 base w L k) : stab S0 base w L2 k ∧ w.heap[k]? = w.heap[k]? := ⟨⟨hk.1, hk.2.1, h k hk.2.2⟩, rfl⟩
theorem RT_stab {o : Bool} {t : Ty} {ok ok' : Nat → Prop} {cs : List Value} {x : t.den} (h : RT w (stab S0 base w L) o t ok cs x) (h0 : ∀ k, L k = 0 → L2 k = 0) (hk : ∀ k, ok k → ok' k) : RT w (stab S0 base w L2) o t ok' cs x :=
  RT_mono t h (stab_mv h0) (fun k h => ⟨hk k h, rfl⟩)
/-- An entry's blocks become nobody's (it is dead from now on) or read-only. -/
theorem Rel.drop (hr : Rel S0 base w L β H) {id : Nat} {e : E} (q : Nat) (hq : q < 2) (he : RE w (stab S0 base w fun k => if L k = id + 2 then q else L k) β (fun k => False) (β id) e) : Rel S0 base w (fun k => if L k = id + 2 then q else L k) β (H.set id e) := by
  have h0 : ∀ k, L k = 0 → (if L k = id + 2 then q else L k) = 0 := fun k h => by rw [if_neg (by omega)]; exact h
  refine ⟨hr.base_le, fun k hk => h0 k (hr.low k hk), fun k hk => h0 k (hr.hi k hk), fun k => ?_, fun i hi => hr.non i (by simpa using hi), fun i e2 he2 => ?_⟩
  · have := hr.top k
    split
    · simp; omega
    · simpa using this
  · rw [List.getElem?_set] at he2
    split at he2
    · rename_i hi
      subst hi
      split at he2
      · cases he2
        exact RE_grow he (fun k hk => ⟨hk, rfl⟩) (fun k hk => hk.elim) (fun _ _ => rfl)
      · cases he2
    · rename_i hi
      refine RE_grow (hr.ent i e2 he2) (stab_mv h0) (fun k hk => ⟨?_, rfl⟩) (fun _ _ => rfl)
      rw [if_neg (by omega)]
      exact hk
theorem Mv.refl (L : Nat → Nat) (H : List E) : Mv L L H (fun _ => False) := ⟨fun _ h => h.elim, fun _ h => h, fun _ h => h, fun _ _ => rfl, fun _ => .inl rfl⟩
/-- What is gone stays gone. -/
def Dd (H H2 : List E) : Prop := ∀ id : Nat, Gone H id → Gone H2 id
theorem Dd.refl (H : List E) : Dd H H := fun _ h => h
theorem Dd.trans (h : Dd H H2) (h2 : Dd H2 H3) : Dd H H3 := fun id hd => h2 id (h id hd)
theorem Mv.trans {ok1 ok2 : Nat → Prop} (h1 : Mv L L2 H2 ok1) (h2 : Mv L2 L3 H3 ok2) (hd : Dd H2 H3) : Mv L L3 H3 (fun k => ok1 k ∨ ok2 k) := by
  refine ⟨fun k hk => ?_, fun k hk => h2.one k (h1.one k hk), fun k hk => h2.zero k (h1.zero k hk), fun k hk => (h2.kept k hk).trans (h1.kept k (by rw [← h2.kept k hk]; exact hk)), fun k => ?_⟩
  · rcases hk with hk | hk
    · obtain ⟨e, id, e2, e3⟩ := h1.got k hk
      exact ⟨h2.one k e, id, e2, hd id e3⟩
    · obtain ⟨e, id, e2, e3⟩ := h2.got k hk
      refine ⟨e, id, ?_, e3⟩
      rw [← h1.kept k (by omega)]
      exact e2
  · rcases h1.alt k with h | ⟨id, e1, e2⟩
    · rcases h2.alt k with h3 | ⟨id, e1, e2⟩
      · exact .inl (h3.trans h)
      · exact .inr ⟨id, by rw [← h]; exact e1, e2⟩
    · exact .inr ⟨id, e1, hd id e2⟩
theorem dead_set {id : Nat} (hid : id < H.length) (e : E) : (H.set id e)[id]? = some e := by simp [hid]
/-- One cell moved. -/
theorem mvCell_sound (hr : Rel S0 base w L β H) {t : Ty} {d : D} {v : Value} {y : t.den} (hp1 : ∀ a b, t ≠ .pair a b) (hp2 : t ≠ .unit) (hd : RD w (stab S0 base w L) β v d) (h : mvCell t d H = some (y, H2)) :
    ∃ L2 ok, Rel S0 base w L2 β H2 ∧ Mv L L2 H2 ok ∧ Dd H H2 ∧ H2.length = H.length ∧ RT w (stab S0 base w L2) true t ok [v] y := by
  have own : ∀ id (t2 : Ty) (l : List t2.den), H[id]? = some (.arr t2 l) → d = .ow id → ∃ A cap, v = .slice A l.length cap ∧ β id = .arr A l.length cap t2.width ∧ RT w (stab S0 base w L) true (.sl true t2) (fun k => L k = id + 2) [.slice A l.length cap] l := by
    intro id t2 l hH e
    subst e
    obtain ⟨A, n, cap, wd, hb, e1⟩ := RD_ow hd
    obtain ⟨A2, cap2, h1, h2⟩ := hr.ent id _ hH
    rw [h1] at hb
    cases hb
    exact ⟨_, _, e1, h1, h2⟩
  have ownz : ∀ id (t2 : Ty) (l : List t2.den), H[id]? = some (.fz t2 l) → d = .ow id → ∃ A cap, v = .slice A l.length cap ∧ β id = .arr A l.length cap t2.width ∧ RT w (stab S0 base w L) false (.sl true t2) (fun _ => False) [.slice A l.length cap] l := by
    intro id t2 l hH e
    subst e
    obtain ⟨A, n, cap, wd, hb, e1⟩ := RD_ow hd
    obtain ⟨A2, cap2, h1, h2⟩ := hr.ent id _ hH
    rw [h1] at hb
    cases hb
    exact ⟨_, _, e1, h1, h2⟩
  have lt : ∀ {id : Nat} {e : E}, H[id]? = some e → id < H.length := fun h => (List.getElem?_eq_some_iff.1 h).1
  have notdead : ∀ {id : Nat} {t2 : Ty} {l : List t2.den} {e2 : E}, H[id]? = some (.arr t2 l) → Dd H (H.set id e2) := fun {_} {_} {_} {_} h i hi => by
    unfold Gone at hi ⊢
    rw [List.getElem?_set]
    split
    · rename_i e3
      subst e3
      rw [h] at hi
      rcases hi with hi | ⟨_, _, hi⟩ <;> cases hi
    · exact hi
  have fzd : ∀ (id : Nat) (H2 : List E), Gone H2 id → Mv L (fun k => if L k = id + 2 then 0 else L k) H2 (fun _ => False) := fun id H2 hgone =>
    ⟨fun _ h => h.elim, fun k h => by show (if L k = id + 2 then 0 else L k) = 1; rw [if_neg (by omega)]; exact h, fun k h => by show (if L k = id + 2 then 0 else L k) = 0; rw [if_neg (by omega)]; exact h, fun k h => by
      show (if L k = id + 2 then 0 else L k) = L k
      have h : 2 ≤ (if L k = id + 2 then 0 else L k) := h
      split
      · rename_i e; rw [if_pos e] at h; omega
      · rfl, fun k => by
      show (if L k = id + 2 then 0 else L k) = L k ∨ _
      split
      · rename_i e; exact .inr ⟨id, e, hgone⟩
      · exact .inl rfl⟩
  have inStab : ∀ (id k : Nat), L k = id + 2 → stab S0 base w (fun k => if L k = id + 2 then 0 else L k) k := fun id k hk => by
    refine ⟨fun hlt => ?_, ?_, ?_⟩
    · have := hr.low k hlt; omega
    · rcases Nat.lt_or_ge k w.heap.size with h3 | h3
      · exact h3
      · have := hr.hi k h3; omega
    · show (if L k = id + 2 then 0 else L k) = 0
      rw [if_pos hk]
  unfold mvCell at h
  split at h
  · rename_i t2
    cases h
    rw [(RD_imm hd).1]
    refine ⟨L, _, hr, Mv.refl L H, Dd.refl H, rfl, ?_⟩
    rw [RT]
    exact ⟨none, 0, rfl, Nat.le_refl _, by rw [if_pos (show (true && true) = true from rfl)]; exact .inl ⟨rfl, rfl⟩⟩
  · rename_i t2 id
    split at h
    · rename_i t3 l hH
      split at h
      · rename_i e
        subst e
        cases h
        obtain ⟨A, cap, rfl, hb, hrt⟩ := own id _ l hH rfl
        refine ⟨_, fun k => L k = id + 2, hr.drop 1 (by omega) trivial, ⟨fun k hk => ⟨by show (if L k = id + 2 then 1 else L k) = 1; rw [if_pos hk], id, hk, .inl (dead_set (lt hH) _)⟩, fun k h => ?_, fun k h => ?_, fun k h => ?_, fun k => ?_⟩, notdead hH, by simp, ?_⟩
        · show (if L k = id + 2 then 1 else L k) = 1
          split <;> omega
        · show (if L k = id + 2 then 1 else L k) = 0
          rw [if_neg (by omega)]; exact h
        · show (if L k = id + 2 then 1 else L k) = L k
          have h : 2 ≤ (if L k = id + 2 then 1 else L k) := h
          split
          · rename_i e; rw [if_pos e] at h; omega
          · rfl
        · show (if L k = id + 2 then 1 else L k) = L k ∨ _
          split
          · rename_i e; exact .inr ⟨id, e, .inl (dead_set (lt hH) _)⟩
          · exact .inl rfl
        · exact RT_stab hrt (fun k h => by show (if L k = id + 2 then 1 else L k) = 0; rw [if_neg (by omega)]; exact h) (fun k hk => hk)
      · cases h
    · cases h
  · cases h
  · rename_i t2 id
    split at h
    · rename_i t3 l hH
      split at h
      · rename_i e
        cases h
        obtain ⟨A, cap, rfl, hb, hrt⟩ := own id _ l hH rfl
        have hrd : RT w (stab S0 base w fun k => if L k = id + 2 then 0 else L k) false (.sl true t3) (fun _ => False) [.slice A l.length cap] l :=
          RT_read _ hrt (fun k hk => (stab_mv (fun k h => by show (if L k = id + 2 then 0 else L k) = 0; rw [if_neg (by omega)]; exact h) k hk).1) (fun k hk => inStab id k hk)
        refine ⟨_, fun _ => False, hr.drop (e := .fz t3 l) 0 (by omega) ⟨A, cap, hb, hrd⟩, fzd id _ (.inr ⟨t3, l, dead_set (lt hH) _⟩), notdead hH, by simp, ?_⟩
        exact RT_frz (RT_cast (b := .sl false t2) (by simp [Ty.strip, e]) hrd)
      · cases h
    · rename_i t3 l hH
      split at h
      · rename_i e
        cases h
        obtain ⟨A, cap, rfl, hb, hrd⟩ := ownz id _ l hH rfl
        refine ⟨L, fun _ => False, hr, Mv.refl L H, Dd.refl H, rfl, ?_⟩
        exact RT_frz (RT_cast (b := .sl false t2) (by simp [Ty.strip, e]) hrd)
      · cases h
    · cases h
  · rename_i t2
    cases h
    rw [(RD_imm hd).1]
    refine ⟨L, _, hr, Mv.refl L H, Dd.refl H, rfl, ?_⟩
    rw [RT]
    exact ⟨none, 0, rfl, Nat.le_refl _, by rw [if_neg (by simp)]; intro hne; exact absurd rfl hne⟩
  · rename_i t2 y2 hno
    split at h
    · rename_i e
      cases h
      have hrt : RT w (stab S0 base w L) false t (fun _ => False) [v] (castDen e y2) := by
        cases hd with | val h => exact RT_cast e h
      refine ⟨L, fun _ => False, hr, Mv.refl L H, Dd.refl H, rfl, ?_⟩
      cases t with
      | pair a b => exact absurd rfl (hp1 a b)
      | unit => exact absurd rfl hp2
      | int k => rw [RT] at hrt ⊢; exact hrt
      | bool => rw [RT] at hrt ⊢; exact hrt
      | str => rw [RT] at hrt ⊢; exact hrt
      | sl o t =>
        cases o with
        | true => exact (hno t rfl).elim
        | false => exact RT_frz hrt
    · cases h
  · cases h
/-- Cells, overwritten from cell c on. -/
def ov (cs : List Value) (c : Nat) (us : List Value) : List Value := cs.zipIdx.map fun p => if c ≤ p.2 then (us[p.2 - c]?).getD p.1 else p.1
theorem ov_get (cs : List Value) (c : Nat) (us : List Value) (i : Nat) : (ov cs c us)[i]? = (cs[i]?).map fun v => if c ≤ i then (us[i - c]?).getD v else v := by
  unfold ov
  rw [List.getElem?_map, List.getElem?_zipIdx]
  cases h : cs[i]? with
  | none => rfl
  | some v => simp
theorem ov_len (cs : List Value) (c : Nat) (us : List Value) : (ov cs c us).length = cs.length := by simp [ov]
theorem ov_right (c1 c2 : List Value) (c : Nat) (us : List Value) (h : c1.length ≤ c) : ov (c1 ++ c2) c us = c1 ++ ov c2 (c - c1.length) us := by
  apply List.ext_getElem?
  intro i
  rw [ov_get]
  rcases Nat.lt_or_ge i c1.length with hi | hi
  · rw [List.getElem?_append_left hi, List.getElem?_append_left hi]
    cases h2 : c1[i]? with
    | none => rfl
    | some v => simp only [Option.map_some]; rw [if_neg (by omega)]
  · rw [List.getElem?_append_right hi, List.getElem?_append_right hi, ov_get]
    cases h2 : c2[i - c1.length]? with
    | none => rfl
    | some v =>
      simp only [Option.map_some]
      by_cases hc : c ≤ i
      · rw [if_pos hc, if_pos (by omega), show i - c1.length - (c - c1.length) = i - c by omega]
      · rw [if_neg hc, if_neg (by omega)]
theorem ov_left (c1 c2 : List Value) (c : Nat) (us : List Value) (h : c ≤ c1.length) : ov (c1 ++ c2) c us = ov c1 c us ++ ov c2 0 (us.drop (c1.length - c)) := by
  apply List.ext_getElem?
  intro i
  rw [ov_get]
  rcases Nat.lt_or_ge i c1.length with hi | hi
  · rw [List.getElem?_append_left hi, List.getElem?_append_left (by rw [ov_len]; exact hi), ov_get]
  · rw [List.getElem?_append_right hi, List.getElem?_append_right (by rw [ov_len]; exact hi), ov_len, ov_get]
    cases h2 : c2[i - c1.length]? with
    | none => rfl
    | some v =>
      simp only [Option.map_some]
      rw [if_pos (by omega), if_pos (Nat.zero_le _), List.getElem?_drop, show c1.length - c + (i - c1.length - 0) = i - c by omega]
theorem ov_nil (cs : List Value) (c : Nat) : ov cs c [] = cs := by
  apply List.ext_getElem?
  intro i
  rw [ov_get]
  cases cs[i]? <;> simp
theorem mvCells_one {t : Ty} (h1 : t.width = 1) (hp1 : ∀ a b, t ≠ .pair a b) (hp2 : t ≠ .unit) (hp : ∀ (x : t.den) c ds H, mvCells t x c ds H = match ds with | d :: r => (mvCell t d H).bind fun y => some (y.1, r, y.2) | [] => some (x, [], H))
    (hr : Rel S0 base w L β H) {ok : Nat → Prop} {cs us : List Value} {ds rest : List D} {x y : t.den} (hx : RT w (stab S0 base w L) true t ok cs x) (hC : CR w (stab S0 base w L) β us ds) (h : mvCells t x 0 ds H = some (y, rest, H2)) :
    ∃ L2 okm, Rel S0 base w L2 β H2 ∧ Mv L L2 H2 okm ∧ Dd H H2 ∧ H2.length = H.length ∧ rest = ds.drop 1 ∧ RT w (stab S0 base w L2) true t (fun k => ok k ∨ okm k) (ov cs 0 us) y := by
  have hlen := RT_len t hx
  rw [h1] at hlen
  rw [hp] at h
  obtain ⟨l1, l2, l3⟩ := hC
  cases ds with
  | nil =>
    cases h
    have : us = [] := List.eq_nil_of_length_eq_zero l1
    subst this
    refine ⟨L, fun _ => False, hr, Mv.refl L H, Dd.refl H, rfl, rfl, ?_⟩
    rw [ov_nil]
    exact RT_stab hx (fun k h => h) (fun k hk => .inl hk)
  | cons d r =>
    cases us with
    | nil => simp at l1
    | cons u us =>
      rw [Option.bind_eq_some_iff] at h
      obtain ⟨⟨y2, H3⟩, h2, h3⟩ := h
      cases h3
      obtain ⟨L2, okm, q1, q2, q3, q4, q5⟩ := mvCell_sound hr hp1 hp2 (l3 0 u d rfl rfl) h2
      refine ⟨L2, okm, q1, q2, q3, q4, rfl, ?_⟩
      cases cs with
      | nil => simp at hlen
      | cons v cs =>
        have : cs = [] := List.eq_nil_of_length_eq_zero (by simpa using hlen)
        subst this
        exact RT_stab q5 (fun k h => h) (fun k hk => .inr hk)
omit S0 base w L L2 L3 β H H2 H3 in
theorem mvCell_dd {H H2 : List E} {t : Ty} {d : D} {y : t.den} (h : mvCell t d H = some (y, H2)) : Dd H H2 := by
  have key : ∀ {id : Nat} {t2 : Ty} {l : List t2.den} {e2 : E}, H[id]? = some (.arr t2 l) → Dd H (H.set id e2) := fun {_} {_} {_} {_} h i hi => by
    unfold Gone at hi ⊢
    rw [List.getElem?_set]
    split
    · rename_i e3
      subst e3
      rw [h] at hi
      rcases hi with hi | ⟨_, _, hi⟩ <;> cases hi
    · exact hi
  unfold mvCell at h
  split at h
  · cases h; exact Dd.refl H
  · split at h
    · rename_i hH
      split at h
      · cases h; exact key hH
      · cases h
    · cases h
  · cases h
  · split at h
    · rename_i hH
      split at h
      · cases h; exact key hH
      · cases h
    · split at h
      · cases h; exact Dd.refl H
      · cases h
    · cases h
  · cases h; exact Dd.refl H
  · split at h
    · cases h; exact Dd.refl H
    · cases h
  · cases h
omit S0 base w L L2 L3 β H H2 H3 in
theorem mvCells_dd : ∀ (t : Ty) {H H2 : List E} {x y : t.den} {c : Nat} {ds rest : List D}, mvCells t x c ds H = some (y, rest, H2) → Dd H H2
  | .unit, H, H2, x, y, c, ds, rest, h => by simp only [mvCells, Option.some.injEq, Prod.mk.injEq] at h; rw [h.2.2]; exact Dd.refl _
  | .int k, H, H2, x, y, c, [], rest, h => by simp only [mvCells, Option.some.injEq, Prod.mk.injEq] at h; rw [h.2.2]; exact Dd.refl _
  | .bool, H, H2, x, y, c, [], rest, h => by simp only [mvCells, Option.some.injEq, Prod.mk.injEq] at h; rw [h.2.2]; exact Dd.refl _
  | .str, H, H2, x, y, c, [], rest, h => by simp only [mvCells, Option.some.injEq, Prod.mk.injEq] at h; rw [h.2.2]; exact Dd.refl _
  | .sl o t, H, H2, x, y, c, [], rest, h => by simp only [mvCells, Option.some.injEq, Prod.mk.injEq] at h; rw [h.2.2]; exact Dd.refl _
  | .int k, H, H2, x, y, c, d :: ds, rest, h => by
    simp only [mvCells, Option.bind_eq_some_iff, Option.some.injEq, Prod.mk.injEq] at h
    obtain ⟨⟨y2, H3⟩, h1, _, _, rfl⟩ := h
    exact mvCell_dd h1
  | .bool, H, H2, x, y, c, d :: ds, rest, h => by
    simp only [mvCells, Option.bind_eq_some_iff, Option.some.injEq, Prod.mk.injEq] at h
    obtain ⟨⟨y2, H3⟩, h1, _, _, rfl⟩ := h
    exact mvCell_dd h1
  | .str, H, H2, x, y, c, d :: ds, rest, h => by
    simp only [mvCells, Option.bind_eq_some_iff, Option.some.injEq, Prod.mk.injEq] at h
    obtain ⟨⟨y2, H3⟩, h1, _, _, rfl⟩ := h
    exact mvCell_dd h1
  | .sl o t, H, H2, x, y, c, d :: ds, rest, h => by
    simp only [mvCells, Option.bind_eq_some_iff, Option.some.injEq, Prod.mk.injEq] at h
    obtain ⟨⟨y2, H3⟩, h1, _, _, rfl⟩ := h
    exact mvCell_dd h1
  | .pair a b, H, H2, x, y, c, ds, rest, h => by
    simp only [mvCells] at h
    cases hb : Nat.ble a.width c with
    | true =>
      rw [hb, cond_true, Option.bind_eq_some_iff] at h
      obtain ⟨⟨y2, rest2, H3⟩, h3, h4⟩ := h
      cases h4
      exact mvCells_dd b h3
    | false =>
      rw [hb, cond_false, Option.bind_eq_some_iff] at h
      obtain ⟨⟨y1, rest1, H3⟩, h3, h⟩ := h
      rw [Option.bind_eq_some_iff] at h
      obtain ⟨⟨y2, rest2, H4⟩, h4, h5⟩ := h
      cases h5
      exact (mvCells_dd a h3).trans (mvCells_dd b h4)
/-- Cells moved over a value's cells. -/
theorem mvCells_sound : ∀ (t : Ty) {L : Nat → Nat} {H H2 : List E} {ok : Nat → Prop} {cs us : List Value} {ds rest : List D} {x y : t.den} {c : Nat} (q : Nat), Rel S0 base w L β H → RT w (stab S0 base w L) true t ok cs x → CR w (stab S0 base w L) β us ds → c < t.width ∨ c = 0 → mvCells t x c ds H = some (y, rest, H2) →
    (∀ k, ok k → L k = q) → (∀ id : Nat, Gone H2 id → id + 2 ≠ q) →
    ∃ L2 okm, Rel S0 base w L2 β H2 ∧ Mv L L2 H2 okm ∧ Dd H H2 ∧ H2.length = H.length ∧ rest = ds.drop (t.width - c) ∧ RT w (stab S0 base w L2) true t (fun k => ok k ∨ okm k) (ov cs c us) y
  | .unit, L, H, H2, ok, cs, us, ds, rest, x, y, c, q, hr, hx, hC, hlt, h, hq, hd => by
    simp only [mvCells, Option.some.injEq, Prod.mk.injEq] at h
    obtain ⟨_, rfl, rfl⟩ := h
    rw [RT] at hx
    subst hx
    refine ⟨L, fun _ => False, hr, Mv.refl L H, Dd.refl H, rfl, by simp [Ty.width], ?_⟩
    rw [RT]
    rfl
  | .int k, L, H, H2, ok, cs, us, ds, rest, x, y, c, q, hr, hx, hC, hlt, h, hq, hd => by
    have : c = 0 := by have : (Ty.int k).width = 1 := rfl; omega
    subst this
    exact mvCells_one (t := .int k) rfl (by simp) (by simp) (fun x c ds H => by cases ds <;> rfl) hr hx hC h
  | .bool, L, H, H2, ok, cs, us, ds, rest, x, y, c, q, hr, hx, hC, hlt, h, hq, hd => by
    have : c = 0 := by have : Ty.bool.width = 1 := rfl; omega
    subst this
    exact mvCells_one (t := .bool) rfl (by simp) (by simp) (fun x c ds H => by cases ds <;> rfl) hr hx hC h
  | .str, L, H, H2, ok, cs, us, ds, rest, x, y, c, q, hr, hx, hC, hlt, h, hq, hd => by
    have : c = 0 := by have : Ty.str.width = 1 := rfl; omega
    subst this
    exact mvCells_one (t := .str) rfl (by simp) (by simp) (fun x c ds H => by cases ds <;> rfl) hr hx hC h
  | .sl o t, L, H, H2, ok, cs, us, ds, rest, x, y, c, q, hr, hx, hC, hlt, h, hq, hd => by
    have : c = 0 := by have : (Ty.sl o t).width = 1 := rfl; omega
    subst this
    exact mvCells_one (t := .sl o t) rfl (by simp) (by simp) (fun x c ds H => by cases ds <;> rfl) hr hx hC h
  | .pair a b, L, H, H2, ok, cs, us, ds, rest, x, y, c, q, hr, hx, hC, hlt, h, hq, hd => by
    rw [RT] at hx
    obtain ⟨p, c1, c2, rfl, h1, h2⟩ := hx
    have l1 := RT_len a h1
    have l2 := RT_len b h2
    have hw : (Ty.pair a b).width = a.width + b.width := rfl
    simp only [mvCells] at h
    cases hb : Nat.ble a.width c with
    | true =>
      rw [hb, cond_true, Option.bind_eq_some_iff] at h
      have hb := Nat.le_of_ble_eq_true hb
      obtain ⟨⟨y2, rest2, H3⟩, h3, h4⟩ := h
      cases h4
      obtain ⟨L2, okm, q1, q2, q3, q4, q5, q6⟩ := mvCells_sound b q hr h2 hC (by omega) h3 (fun k hk => hq k hk.1) hd
      refine ⟨L2, okm, q1, q2, q3, q4, by rw [q5, hw]; congr 1; omega, ?_⟩
      rw [RT]
      refine ⟨fun k => ok k ∧ p k, c1, ov c2 (c - c1.length) us, by rw [ov_right _ _ _ _ (by omega)], RT_stab h1 q2.zero (fun k hk => ⟨.inl hk.1, hk⟩), ?_⟩
      rw [l1]
      refine RT_stab q6 (fun k h => h) (fun k hk => ?_)
      rcases hk with hk | hk
      · exact ⟨.inl hk.1, fun h => hk.2 h.2⟩
      · refine ⟨.inr hk, fun h => ?_⟩
        obtain ⟨_, id, e1, e2⟩ := q2.got k hk
        exact hd id e2 (by rw [← e1]; exact hq k h.1)
    | false =>
      rw [hb, cond_false, Option.bind_eq_some_iff] at h
      have hb : c < a.width := by
        rcases Nat.lt_or_ge c a.width with h | h
        · exact h
        · rw [Nat.ble_eq_true_of_le h] at hb; cases hb
      obtain ⟨⟨y1, rest1, H3⟩, h3, h⟩ := h
      rw [Option.bind_eq_some_iff] at h
      obtain ⟨⟨y2, rest2, H4⟩, h4, h5⟩ := h
      cases h5
      simp only at h4
      have hddall : ∀ (hDd : Dd H3 H2), ∀ id : Nat, Gone H3 id → id + 2 ≠ q := fun hDd id h => hd id (hDd id h)
      -- the tail first: that dead stays dead
      have hDd : Dd H3 H2 := mvCells_dd b h4
      obtain ⟨L2, okm1, q1, q2, q3, q4, q5, q6⟩ := mvCells_sound a q hr h1 hC (.inl hb) h3 (fun k hk => hq k hk.1) (hddall hDd)
      have hC2 : CR w (stab S0 base w L2) β (us.drop (a.width - c)) (ds.drop (a.width - c)) := ⟨by simp [hC.1], fun u hu => hC.2.1 u (List.mem_of_mem_drop hu), fun i u d hu hd => RD_grow (hC.2.2 _ u d (by rw [List.getElem?_drop] at hu; exact hu) (by rw [List.getElem?_drop] at hd; exact hd)) (stab_mv q2.zero) (fun _ _ => rfl)⟩
      rw [q5] at h4
      have hq2 : ∀ k, ok k ∧ ¬ p k → L2 k = q := fun k hk => by
        rcases q2.alt k with h | ⟨id, e1, e2⟩
        · rw [h]; exact hq k hk.1
        · exact absurd (e1.symm.trans (hq k hk.1)) (hddall hDd id e2)
      obtain ⟨L3, okm2, r1, r2, r3, r4, r5, r6⟩ := mvCells_sound b q q1 (RT_stab h2 q2.zero (fun k hk => hk)) hC2 (.inr rfl) h4 hq2 hd
      refine ⟨L3, fun k => okm1 k ∨ okm2 k, r1, q2.trans r2 r3, q3.trans r3, by rw [r4, q4], by rw [r5, hw, List.drop_drop]; congr 1; omega, ?_⟩
      rw [RT]
      refine ⟨fun k => ok k ∧ p k ∨ okm1 k, ov c1 c us, ov c2 0 (us.drop (c1.length - c)), by rw [ov_left _ _ _ _ (by omega)], RT_stab q6 r2.zero (fun k hk => ?_), ?_⟩
      · rcases hk with hk | hk
        · exact ⟨.inl hk.1, .inl hk⟩
        · exact ⟨.inr (.inl hk), .inr hk⟩
      · rw [l1]
        refine RT_stab r6 (fun k h => h) (fun k hk => ?_)
        rcases hk with hk | hk
        · refine ⟨.inl hk.1, fun h => ?_⟩
          rcases h with h | h
          · exact hk.2 h.2
          · obtain ⟨_, id, e1, e2⟩ := q2.got k h
            exact hddall hDd id e2 (by rw [← e1]; exact hq k hk.1)
        · refine ⟨.inr (.inr hk), fun h => ?_⟩
          obtain ⟨_, id, e1, e2⟩ := r2.got k hk
          rcases h with h | h
          · have h3 := q2.kept k (by omega)
            exact hd id e2 (by rw [← e1, h3]; exact hq k h.1)
          · have h3 := (q2.got k h).1
            omega
end
end Go.Eng
/- Operations that write: new variables, stores. -/
namespace Go.Eng
open Go.RowKit
set_option linter.unusedVariables false
set_option linter.unusedSimpArgs false
set_option linter.unusedSectionVars false
/-- What holds behind an operation (a: the frame ahead of it). -/
structure Post (nf : Nat) (S0 : Nat → Prop) (base : Nat → Prop) (w : World) (L : Nat → Nat) (β : Nat → Real) (H : List E) (tmps : Array Value) (w' : World) (L' : Nat → Nat) (β' : Nat → Real) (T2 : List (Nat × D)) (H2 : List E) (v : Value) (d : D) : Prop where
  rel : Rel S0 base w' L' β' H2
  tmp : RTm w' (stab S0 base w' L') β' tmps T2
  val : RD w' (stab S0 base w' L') β' v d
  st : ∀ k, stab S0 base w L k → stab S0 base w' L' k ∧ w'.heap[k]? = w.heap[k]?
  low : Bel base w w'
  fix : ∀ id, id < nf → β id ≠ .non → β' id = β id
def KOk (P : Program) (nf : Nat) (S0 : Nat → Prop) (base : Nat → Prop) (L : Nat → Nat) (β : Nat → Real) (H : List E) (o : Oper) (a : Act) (w : World) (T2 : List (Nat × D)) (H2 : List E) (d : D) : Prop :=
  ∀ (next : Act → World → Prop) (Q : Exit → Act → World → Prop), (∀ w' L' β' v, Post nf S0 base w L β H a.tmps w' L' β' T2 H2 v d → next (a.put o.dst v) w') → o.wp P a w next Q
section
variable {P : Program} {c : Cfg} {h : Hint} {S0 : Nat → Prop} {base : Nat → Prop} {w : World} {L : Nat → Nat} {β : Nat → Real} {H : List E} {a : Act} {T : List (Nat × D)} {o : Oper} {R : Type} {r : R} {K : List (Nat × D) → List E → D → Option R}
theorem KOk.of_q {d : D} (hr : Rel S0 base w L β H) (hT : RTm w (stab S0 base w L) β a.tmps T) (h : QOk P S0 base L β o a w d) : KOk P c.nfix S0 base L β H o a w T H d := by
  intro next Q hn
  refine h next Q fun w' v hb hd => hn w' L β v ⟨hr.below hb, hT.mono fun v d h => RD_below h hb, hd, stab_below hb, hb.bel hr.base_le, fun _ _ _ => rfl⟩
theorem KOk.of_run {T2 : List (Nat × D)} {H2 : List E} {d : D} {w' : World} {L' : Nat → Nat} {β' : Nat → Real} {v : Value} (hrun : (execOp a.eval o).run P w = .ok (.value v) w') (hp : Post c.nfix S0 base w L β H a.tmps w' L' β' T2 H2 v d) : KOk P c.nfix S0 base L β H o a w T2 H2 d := by
  intro next Q hn
  unfold Oper.wp
  rw [hrun, Oper.upon_value]
  exact hn w' L' β' v hp
theorem KOk.of_skip {T2 : List (Nat × D)} {H2 : List E} {d : D} {w' : World} {L' : Nat → Nat} {β' : Nat → Real} (hrun : (execOp a.eval o).run P w = .ok .skip w') (hp : Post c.nfix S0 base w L β H a.tmps w' L' β' T2 H2 undef d) : KOk P c.nfix S0 base L β H o a w T2 H2 d := by
  intro next Q hn
  unfold Oper.wp
  rw [hrun, Oper.upon_skip]
  exact hn w' L' β' undef hp
theorem below_alloc (w : World) (ob : Obj) : Below w.heap.size w (w.alloc ob) := (Below.refl w.heap.size w).alloc (Nat.le_refl _) ob
theorem alloc_at (w : World) (ob : Obj) : (w.alloc ob).heap[w.heap.size]? = some ob := by
  show (w.heap.push ob)[w.heap.size]? = some ob
  simp
/-- A new block, and the entry that it is. -/
theorem Rel.new (hr : Rel S0 base w L β H) {ob : Obj} {e : E} {q : Real} (he : RE (w.alloc ob) (stab S0 base w L) β (fun k => k = w.heap.size) q e) :
    Rel S0 base (w.alloc ob) (fun k => if k = w.heap.size then H.length + 2 else L k) (fun id => if id = H.length then q else β id) (H ++ [e]) ∧
    (∀ k, stab S0 base w L k → stab S0 base (w.alloc ob) (fun k => if k = w.heap.size then H.length + 2 else L k) k ∧ (w.alloc ob).heap[k]? = w.heap[k]?) ∧
    ∀ id, β id ≠ .non → (if id = H.length then q else β id) = β id := by
  have hβ : ∀ id, β id ≠ .non → (if id = H.length then q else β id) = β id := fun id hne => by
    rw [if_neg]
    intro e
    exact hne (hr.non id (by omega))
  have hsz : (w.alloc ob).heap.size = w.heap.size + 1 := by show (w.heap.push ob).size = _; simp
  have hst : ∀ k, stab S0 base w L k → stab S0 base (w.alloc ob) (fun k => if k = w.heap.size then H.length + 2 else L k) k ∧ (w.alloc ob).heap[k]? = w.heap[k]? := fun k hk => by
    have h2 := hk.2.1
    refine ⟨⟨hk.1, by omega, ?_⟩, (below_alloc w ob).block k h2⟩
    show (if k = w.heap.size then H.length + 2 else L k) = 0
    rw [if_neg (by omega)]
    exact hk.2.2
  refine ⟨⟨fun k hk => by have := hr.base_le k hk; omega, fun k hk => ?_, fun k hk => ?_, fun k => ?_, fun id hid => ?_, fun id e2 he2 => ?_⟩, hst, hβ⟩
  · have := hr.base_le k hk
    show (if k = w.heap.size then H.length + 2 else L k) = 0
    rw [if_neg (by omega)]
    exact hr.low k hk
  · show (if k = w.heap.size then H.length + 2 else L k) = 0
    rw [if_neg (by omega)]
    exact hr.hi k (by omega)
  · show (if k = w.heap.size then H.length + 2 else L k) < _
    simp only [List.length_append, List.length_singleton]
    have := hr.top k
    split <;> omega
  · simp only [List.length_append, List.length_singleton] at hid
    rw [if_neg (by omega)]
    exact hr.non id (by omega)
  · rcases Nat.lt_or_ge id H.length with hid | hid
    · rw [List.getElem?_append_left hid] at he2
      rw [if_neg (by omega)]
      refine RE_grow (hr.ent id e2 he2) hst (fun k hk => ?_) hβ
      have hk2 : k < w.heap.size := by
        rcases Nat.lt_or_ge k w.heap.size with h3 | h3
        · exact h3
        · have := hr.hi k h3; omega
      refine ⟨?_, (below_alloc w ob).block k hk2⟩
      show (if k = w.heap.size then H.length + 2 else L k) = id + 2
      rw [if_neg (by omega)]
      exact hk
    · rw [List.getElem?_append_right hid] at he2
      have : id = H.length := by
        have := (List.getElem?_eq_some_iff.1 he2).1
        simp at this
        omega
      subst this
      simp only [Nat.sub_self, List.getElem?_cons_zero, Option.some.injEq] at he2
      subst he2
      rw [if_pos rfl]
      refine RE_grow he (fun k hk => ⟨(hst k hk).1, rfl⟩) (fun k hk => ⟨?_, rfl⟩) hβ
      show (if k = w.heap.size then H.length + 2 else L k) = H.length + 2
      rw [if_pos hk]
theorem post_new (hr : Rel S0 base w L β H) (hT : RTm w (stab S0 base w L) β a.tmps T) {ob : Obj} {e : E} {q : Real} {v : Value} {d : D} (he : RE (w.alloc ob) (stab S0 base w L) β (fun k => k = w.heap.size) q e) (hd : ∀ S β', β' H.length = q → RD (w.alloc ob) S β' v d) :
    Post c.nfix S0 base w L β H a.tmps (w.alloc ob) (fun k => if k = w.heap.size then H.length + 2 else L k) (fun id => if id = H.length then q else β id) T (H ++ [e]) v d := by
  obtain ⟨h1, h2, h3⟩ := hr.new he
  exact ⟨h1, hT.mono fun v d h => RD_grow h h2 h3, hd _ _ (by simp), h2, (below_alloc w ob).bel hr.base_le, fun id _ hlt => h3 id hlt⟩
theorem box_RE {ob : Obj} {S : Nat → Prop} {arr : Array Value} {e : TypeId} {ds : List D} (hob : ob = .cells arr e (0, 0)) (hC : CR w S β arr.toList ds) (hS : ∀ k, S k → k < w.heap.size) : RE (w.alloc ob) S β (fun k => k = w.heap.size) (.box w.heap.size) (.box ds) := by
  subst hob
  refine ⟨w.heap.size, arr, e, rfl, rfl, alloc_at _ _, by simpa using hC.1, fun i x hx => hC.2.1 x (by rw [← Array.getElem?_toList] at hx; exact List.mem_of_getElem? hx), fun i x d hx hd => ?_⟩
  exact RD_grow (hC.2.2 i x d (by rw [Array.getElem?_toList]; exact hx) hd) (fun k hk => ⟨hk, (below_alloc w _).block k (hS k hk)⟩) (fun _ _ => rfl)
variable (hc : CfgOk P c) (hr : Rel S0 base w L β H) (hT : RTm w (stab S0 base w L) β a.tmps T) (hg : GlOk c.gl w (stab S0 base w L))
include hc hr hT hg
theorem k_alloc {e : TypeId} (ho : o.op = .alloc e) (h : opK c h o T H K = some r) : ∃ T2 H2 d, K T2 H2 d = some r ∧ KOk P c.nfix S0 base L β H o a w T2 H2 d := by
  unfold opK at h
  simp only [ho] at h
  split at h
  · rename_i i hi
    split at h
    · rename_i ds hz
      refine ⟨_, _, _, h, ?_⟩
      obtain ⟨j, hj, _, _, zv, hz1, hz2⟩ := (hc.ti e i hi).bytes_of
      obtain ⟨hzl, hzr⟩ := vDs_RD (w := w) (S := stab S0 base w L) (β := β) hz
      have hCz : CR w (stab S0 base w L) β zv.cells.toList ds := by
        rw [hz2]
        refine ⟨hzl, fun u hu => ?_, fun i u d hu hd => (hzr i u d hu hd).1⟩
        obtain ⟨i2, hi2⟩ := List.getElem?_of_mem hu
        have hlt : i2 < ds.length := by rw [← hzl]; exact (List.getElem?_eq_some_iff.1 hi2).1
        exact (hzr i2 u _ hi2 (List.getElem?_eq_getElem hlt)).2
      refine KOk.of_run (v := .pointer (some ⟨w.heap.size, 0, none⟩)) ?_ (post_new hr hT (box_RE (e := e) rfl hCz (fun k hk => hk.2.1)) (fun S β' hb => .bp hb))
      unfold execOp
      simp only [ho]
      refine run_v ?_
      unfold Instr.alloc zeroValue
      simp only [Sem.run_bind, hj w, Result.andThen_ok, hz1]
      rfl
    · cases h
  · cases h
theorem k_box {e : TypeId} {x : Operand} (ho : o.op = .box e x) (h : opK c h o T H K = some r) : ∃ T2 H2 d, K T2 H2 d = some r ∧ KOk P c.nfix S0 base L β H o a w T2 H2 d := by
  unfold opK at h
  simp only [ho] at h
  split at h
  · rename_i i d hi hd
    cases hb : (Nat.beq (dCells d).length i.size && Nat.ble 1 i.size) with
    | false => rw [hb] at h; cases h
    | true =>
      rw [hb, cond_true] at h
      simp only [Bool.and_eq_true] at hb
      have hb1 := Nat.eq_of_beq_eq_true hb.1
      have hb2 := Nat.le_of_ble_eq_true hb.2
      refine ⟨_, _, _, h, ?_⟩
      have hCz := RD_cells (opd_RD hT hg hd) (by intro e; rw [e] at hb1; simp at hb1; omega)
      refine KOk.of_run (v := .pointer (some ⟨w.heap.size, 0, none⟩)) ?_ (post_new hr hT (box_RE (e := e) rfl hCz (fun k hk => hk.2.1)) (fun S β' hb => .bp hb))
      unfold execOp
      simp only [ho]
      refine run_v ?_
      unfold Instr.box
      rfl
  · cases h
end
section
variable {S0 : Nat → Prop} {base : Nat → Prop} {w w' : World} {L : Nat → Nat} {β : Nat → Real} {H : List E}
/-- An entry's own blocks are written. -/
theorem Rel.write (hr : Rel S0 base w L β H) {id : Nat} {e : E} (hw : ∀ k, L k ≠ id + 2 → w'.heap[k]? = w.heap[k]?) (hsz : w'.heap.size = w.heap.size) (he : RE w' (stab S0 base w' L) β (fun k => L k = id + 2) (β id) e) :
    Rel S0 base w' L β (H.set id e) ∧ ∀ k, stab S0 base w L k → stab S0 base w' L k ∧ w'.heap[k]? = w.heap[k]? := by
  have hst : ∀ k, stab S0 base w L k → stab S0 base w' L k ∧ w'.heap[k]? = w.heap[k]? := fun k hk => ⟨⟨hk.1, by rw [hsz]; exact hk.2.1, hk.2.2⟩, hw k (by rw [hk.2.2]; omega)⟩
  refine ⟨⟨fun k hk => by rw [hsz]; exact hr.base_le k hk, hr.low, fun k hk => hr.hi k (by rw [← hsz]; exact hk), by simpa using hr.top, fun i hi => hr.non i (by simpa using hi), fun i e2 he2 => ?_⟩, hst⟩
  rw [List.getElem?_set] at he2
  split at he2
  · rename_i hi
    subst hi
    split at he2
    · cases he2; exact he
    · cases he2
  · rename_i hi
    exact RE_grow (hr.ent i e2 he2) hst (fun k hk => ⟨hk, hw k (by omega)⟩) (fun _ _ => rfl)
end
end Go.Eng
