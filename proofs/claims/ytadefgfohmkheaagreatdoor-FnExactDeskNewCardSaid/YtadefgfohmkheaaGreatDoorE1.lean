/- Part of the proof: the evaluator of typed functions, and that its answers are the contracts of the calls. -/
import Derived.Below
import Derived.KernelRfl
import Derived.Still
import Derived.StillTail
import Derived.Tactics
import Derived.Laws.StructEq
import Derived.Laws.Cells
import Derived.Laws.Entries
import Derived.Laws.CopyRow
/- Typed pure values and how memory reads as them. -/
namespace Go.Eng
open Go.RowKit
set_option linter.unusedVariables false
/-- The types of pure values: one cell each, but for unit and pair (structs are pairs to the right, ending in unit). -/
inductive Ty where
  | int (k : IntKind)
  | bool
  | str
  | sl (own : Bool) (t : Ty)
  | unit
  | pair (a b : Ty)
  deriving DecidableEq, Inhabited
@[reducible] def Ty.den : Ty → Type
  | .int _ => Int
  | .bool => Bool
  | .str => ByteArray
  | .sl _ t => List t.den
  | .unit => Unit
  | .pair a b => a.den × b.den
/-- How many cells. -/
def Ty.width : Ty → Nat
  | .unit => 0
  | .pair a b => a.width + b.width
  | _ => 1
/-- The same type, no slice of it said to be owned. -/
def Ty.strip : Ty → Ty
  | .sl _ t => .sl false t.strip
  | .pair a b => .pair a.strip b.strip
  | t => t
theorem Ty.den_strip : ∀ t : Ty, t.strip.den = t.den
  | .sl _ t => by show List t.strip.den = List t.den; rw [den_strip t]
  | .pair a b => by show (a.strip.den × b.strip.den) = (a.den × b.den); rw [den_strip a, den_strip b]
  | .int _ => rfl
  | .bool => rfl
  | .str => rfl
  | .unit => rfl
theorem Ty.width_strip : ∀ t : Ty, t.strip.width = t.width
  | .sl _ t => rfl
  | .pair a b => by show a.strip.width + b.strip.width = a.width + b.width; rw [width_strip a, width_strip b]
  | .int _ => rfl
  | .bool => rfl
  | .str => rfl
  | .unit => rfl
theorem Ty.strip_strip : ∀ t : Ty, t.strip.strip = t.strip
  | .sl _ t => by simp [Ty.strip, strip_strip t]
  | .pair a b => by simp [Ty.strip, strip_strip a, strip_strip b]
  | .int _ => rfl
  | .bool => rfl
  | .str => rfl
  | .unit => rfl
/-- Whether every slice in it is owned. -/
def Ty.allOwn : Ty → Bool
  | .sl o t => o && t.allOwn
  | .pair a b => a.allOwn && b.allOwn
  | _ => true
/-- Cells cs, in world w, read as x: what is only read lies in blocks of S; with o, owned slices lie in blocks of ok, each in its own. -/
def RT (w : World) (S : Nat → Prop) : (o : Bool) → (t : Ty) → (Nat → Prop) → List Value → t.den → Prop
  | _, .int k, _, cs, x => cs = [.int k x]
  | _, .bool, _, cs, x => cs = [.bool x]
  | _, .str, _, cs, x => cs = [.string x]
  | _, .unit, _, cs, _ => cs = []
  | o, .pair a b, ok, cs, x => ∃ (p : Nat → Prop) (c1 c2 : List Value), cs = c1 ++ c2 ∧ RT w S o a (fun k => ok k ∧ p k) c1 x.1 ∧ RT w S o b (fun k => ok k ∧ ¬ p k) c2 x.2
  | o, .sl own t, ok, cs, l => ∃ (A : Option Addr) (cap : Nat), cs = [.slice A l.length cap] ∧ l.length ≤ cap ∧
      if (own && o) = true then
        (A = none ∧ cap = 0) ∨ ∃ (g st : Nat) (arr : Array Value) (e : TypeId) (lab : Nat → Nat), A = some ⟨g, st, none⟩ ∧ ok g ∧ w.heap[g]? = some (.cells arr e (0, 0)) ∧ st + cap * t.width ≤ arr.size ∧
          ∀ j x, l[j]? = some x → ∃ c : List Value, c.length = t.width ∧ (∀ i v, c[i]? = some v → arr[st + (j * t.width + i)]? = some v) ∧ RT w S o t (fun k => ok k ∧ k ≠ g ∧ lab k = j) c x
      else
        l ≠ [] → ∃ ad : Addr, A = some ad ∧ S ad.block ∧ ∀ j x, l[j]? = some x → ∃ c : List Value, (∀ i v, c[i]? = some v → w.cell? (ad.add (j * t.width + i)) = some v) ∧ RT w S false t (fun _ => False) c x
section
variable {w w' : World} {S S' ok ok' : Nat → Prop}
theorem RT_len : ∀ (t : Ty) {o : Bool} {ok : Nat → Prop} {cs : List Value} {x : t.den}, RT w S o t ok cs x → cs.length = t.width
  | .int _, _, _, _, _, h => by rw [RT] at h; rw [h]; rfl
  | .bool, _, _, _, _, h => by rw [RT] at h; rw [h]; rfl
  | .str, _, _, _, _, h => by rw [RT] at h; rw [h]; rfl
  | .unit, _, _, _, _, h => by rw [RT] at h; rw [h]; rfl
  | .pair a b, _, _, _, _, h => by
    rw [RT] at h
    obtain ⟨p, c1, c2, rfl, h1, h2⟩ := h
    rw [List.length_append, RT_len a h1, RT_len b h2]; rfl
  | .sl _ _, _, _, _, _, h => by
    rw [RT] at h
    obtain ⟨A, cap, rfl, _⟩ := h
    rfl
/-- Each cell holds a value of one cell. -/
def one (v : Value) : Bool := match v with | .agg _ => false | .tuple _ => false | _ => true
theorem RT_one : ∀ (t : Ty) {o : Bool} {ok : Nat → Prop} {cs : List Value} {x : t.den}, RT w S o t ok cs x → ∀ v ∈ cs, one v = true
  | .int _, _, _, _, _, h => by rw [RT] at h; subst h; simp [one]
  | .bool, _, _, _, _, h => by rw [RT] at h; subst h; simp [one]
  | .str, _, _, _, _, h => by rw [RT] at h; subst h; simp [one]
  | .unit, _, _, _, _, h => by rw [RT] at h; subst h; simp
  | .pair a b, _, _, _, _, h => by
    rw [RT] at h
    obtain ⟨p, c1, c2, rfl, h1, h2⟩ := h
    intro v hv
    rcases List.mem_append.1 hv with hv | hv
    · exact RT_one a h1 v hv
    · exact RT_one b h2 v hv
  | .sl _ _, _, _, _, _, h => by
    rw [RT] at h
    obtain ⟨A, cap, rfl, _⟩ := h
    simp [one]
theorem cell_same {ad : Addr} (h : w'.heap[ad.block]? = w.heap[ad.block]?) (n : Nat) : w'.cell? (ad.add n) = w.cell? (ad.add n) := by
  have hb : (ad.add n).block = ad.block := by unfold Addr.add; split <;> rfl
  exact World.cell?_of_block (w := w) (by rw [hb]; exact h)
theorem add_at (g st n : Nat) : (⟨g, st, none⟩ : Addr).add n = ⟨g, st + n, none⟩ := by
  unfold Addr.add
  split
  · rename_i h; rw [h]; rfl
  · rfl
theorem cell_blk {w : World} {g : Nat} {arr : Array Value} {e : TypeId} {f : Nat × Nat} (h : w.heap[g]? = some (.cells arr e f)) (n : Nat) : w.cell? ⟨g, n, none⟩ = arr[n]? := by
  unfold World.cell?
  simp only [h, Option.isSome_none, Bool.false_eq_true, if_false]
/-- What reads stays so where the blocks that it reads stay. -/
theorem RT_mono : ∀ (t : Ty) {o : Bool} {ok ok' : Nat → Prop} {cs : List Value} {x : t.den}, RT w S o t ok cs x → (∀ k, S k → S' k ∧ w'.heap[k]? = w.heap[k]?) → (∀ k, ok k → ok' k ∧ w'.heap[k]? = w.heap[k]?) → RT w' S' o t ok' cs x
  | .int _, _, _, _, _, _, h, _, _ => by rw [RT] at h ⊢; exact h
  | .bool, _, _, _, _, _, h, _, _ => by rw [RT] at h ⊢; exact h
  | .str, _, _, _, _, _, h, _, _ => by rw [RT] at h ⊢; exact h
  | .unit, _, _, _, _, _, h, _, _ => by rw [RT] at h ⊢; exact h
  | .pair a b, _, _, _, _, _, h, hS, hk => by
    rw [RT] at h ⊢
    obtain ⟨p, c1, c2, rfl, h1, h2⟩ := h
    exact ⟨p, c1, c2, rfl, RT_mono a h1 hS (fun k hp => ⟨⟨(hk k hp.1).1, hp.2⟩, (hk k hp.1).2⟩), RT_mono b h2 hS (fun k hp => ⟨⟨(hk k hp.1).1, hp.2⟩, (hk k hp.1).2⟩)⟩
  | .sl own t, _, _, _, _, _, h, hS, hk => by
    rw [RT] at h ⊢
    obtain ⟨A, cap, rfl, hc, h⟩ := h
    refine ⟨A, cap, rfl, hc, ?_⟩
    split
    · rename_i ho
      rw [if_pos ho] at h
      rcases h with h | ⟨g, st, arr, e, lab, hA, hg, hb, hf, hr⟩
      · exact .inl h
      · refine .inr ⟨g, st, arr, e, lab, hA, (hk g hg).1, (hk g hg).2.trans hb, hf, fun j x hj => ?_⟩
        obtain ⟨c, h1, h2, h3⟩ := hr j x hj
        exact ⟨c, h1, h2, RT_mono t h3 hS (fun k hp => ⟨⟨(hk k hp.1).1, hp.2⟩, (hk k hp.1).2⟩)⟩
    · rename_i ho
      rw [if_neg ho] at h
      intro hl
      obtain ⟨ad, hA, hs, hr⟩ := h hl
      refine ⟨ad, hA, (hS _ hs).1, fun j x hj => ?_⟩
      obtain ⟨c, h2, h3⟩ := hr j x hj
      exact ⟨c, fun i v hv => (cell_same (hS _ hs).2 _).trans (h2 i v hv), RT_mono t h3 hS (fun k hp => hp.elim)⟩
/-- Owned or not: it may be taken for memory that is only read. -/
theorem RT_read : ∀ (t : Ty) {o : Bool} {ok ok' : Nat → Prop} {cs : List Value} {x : t.den}, RT w S o t ok cs x → (∀ k, S k → S' k) → (∀ k, ok k → S' k) → RT w S' false t ok' cs x
  | .int _, _, _, _, _, _, h, _, _ => by rw [RT] at h ⊢; exact h
  | .bool, _, _, _, _, _, h, _, _ => by rw [RT] at h ⊢; exact h
  | .str, _, _, _, _, _, h, _, _ => by rw [RT] at h ⊢; exact h
  | .unit, _, _, _, _, _, h, _, _ => by rw [RT] at h ⊢; exact h
  | .pair a b, _, _, _, _, _, h, hS, hk => by
    rw [RT] at h ⊢
    obtain ⟨p, c1, c2, rfl, h1, h2⟩ := h
    exact ⟨fun _ => True, c1, c2, rfl, RT_read a h1 hS (fun k hp => hk k hp.1), RT_read b h2 hS (fun k hp => hk k hp.1)⟩
  | .sl own t, _, _, _, _, _, h, hS, hk => by
    rw [RT] at h ⊢
    obtain ⟨A, cap, rfl, hc, h⟩ := h
    refine ⟨A, cap, rfl, hc, ?_⟩
    rw [Bool.and_false, if_neg (by simp)]
    intro hl
    split at h
    · rcases h with ⟨_, h⟩ | ⟨g, st, arr, e, lab, hA, hg, hb, hf, hr⟩
      · subst h
        exact absurd (List.eq_nil_of_length_eq_zero (by omega)) hl
      · refine ⟨⟨g, st, none⟩, hA, hk g hg, fun j x hj => ?_⟩
        obtain ⟨c, h1, h2, h3⟩ := hr j x hj
        refine ⟨c, fun i v hv => ?_, RT_read t h3 hS (fun k hp => hk k hp.1)⟩
        rw [add_at, cell_blk hb]
        exact h2 i v hv
    · obtain ⟨ad, hA, hs, hr⟩ := h hl
      refine ⟨ad, hA, hS _ hs, fun j x hj => ?_⟩
      obtain ⟨c, h2, h3⟩ := hr j x hj
      exact ⟨c, h2, RT_read t h3 hS (fun k hp => hp.elim)⟩
/-- What is wholly owned leans on no other memory. -/
theorem RT_own : ∀ (t : Ty) {ok : Nat → Prop} {cs : List Value} {x : t.den}, t.allOwn = true → RT w S true t ok cs x → RT w S' true t ok cs x
  | .int _, _, _, _, _, h => by rw [RT] at h ⊢; exact h
  | .bool, _, _, _, _, h => by rw [RT] at h ⊢; exact h
  | .str, _, _, _, _, h => by rw [RT] at h ⊢; exact h
  | .unit, _, _, _, _, h => by rw [RT] at h ⊢; exact h
  | .pair a b, _, _, _, ha, h => by
    rw [RT] at h ⊢
    simp only [Ty.allOwn, Bool.and_eq_true] at ha
    obtain ⟨p, c1, c2, rfl, h1, h2⟩ := h
    exact ⟨p, c1, c2, rfl, RT_own a ha.1 h1, RT_own b ha.2 h2⟩
  | .sl own t, _, _, _, ha, h => by
    rw [RT] at h ⊢
    simp only [Ty.allOwn, Bool.and_eq_true] at ha
    obtain ⟨A, cap, rfl, hc, h⟩ := h
    refine ⟨A, cap, rfl, hc, ?_⟩
    rw [ha.1] at h ⊢
    rw [if_pos (show (true && true) = true from rfl)] at h ⊢
    rcases h with h | ⟨g, st, arr, e, lab, hA, hg, hb, hf, hr⟩
    · exact .inl h
    · refine .inr ⟨g, st, arr, e, lab, hA, hg, hb, hf, fun j x hj => ?_⟩
      obtain ⟨c, h1, h2, h3⟩ := hr j x hj
      exact ⟨c, h1, h2, RT_own t ha.2 h3⟩
end
/-- x of type a, taken at a type that differs in who owns alone. -/
def castDen {a b : Ty} (h : a.strip = b.strip) (x : a.den) : b.den := cast (by rw [← Ty.den_strip a, ← Ty.den_strip b, h]) x
theorem castDen_rfl {a : Ty} (h : a.strip = a.strip) (x : a.den) : castDen h x = x := rfl
theorem RT_strip_aux {w : World} {S : Nat → Prop} : ∀ (t : Ty) {ok : Nat → Prop} {cs : List Value} {x : t.den} {y : t.strip.den}, HEq x y → (RT w S false t ok cs x ↔ RT w S false t.strip ok cs y)
  | .int _, _, _, _, _, h => by cases h; exact Iff.rfl
  | .bool, _, _, _, _, h => by cases h; exact Iff.rfl
  | .str, _, _, _, _, h => by cases h; exact Iff.rfl
  | .unit, _, _, _, _, h => by cases h; exact Iff.rfl
  | .pair a b, ok, cs, x, y, h => by
    have hp : HEq x.1 y.1 ∧ HEq x.2 y.2 := by
      have ha := Ty.den_strip a
      have hb := Ty.den_strip b
      revert h
      revert x y
      show ∀ (x : a.den × b.den) (y : a.strip.den × b.strip.den), HEq x y → HEq x.1 y.1 ∧ HEq x.2 y.2
      generalize a.strip.den = A at *
      generalize b.strip.den = B at *
      subst ha
      subst hb
      intro x y h
      cases h
      exact ⟨HEq.rfl, HEq.rfl⟩
    have go : ∀ y' : (Ty.pair a.strip b.strip).den, y' = y → (RT w S false (.pair a b) ok cs x ↔ RT w S false (.pair a.strip b.strip) ok cs y') := by
      rintro y' rfl
      constructor
      · intro h
        rw [RT] at h ⊢
        obtain ⟨p, c1, c2, e, h1, h2⟩ := h
        exact ⟨p, c1, c2, e, (RT_strip_aux a hp.1).1 h1, (RT_strip_aux b hp.2).1 h2⟩
      · intro h
        rw [RT] at h ⊢
        obtain ⟨p, c1, c2, e, h1, h2⟩ := h
        exact ⟨p, c1, c2, e, (RT_strip_aux a hp.1).2 h1, (RT_strip_aux b hp.2).2 h2⟩
    exact go y rfl
  | .sl own t, ok, cs, x, y, h => by
    have hp : ∃ f : t.den = t.strip.den, y = x.map (cast f) := by
      have ht := Ty.den_strip t
      revert h
      revert x y
      show ∀ (x : List t.den) (y : List t.strip.den), HEq x y → ∃ f : t.den = t.strip.den, y = x.map (cast f)
      generalize t.strip.den = A at *
      subst ht
      intro x y h
      cases h
      exact ⟨rfl, (List.map_id x).symm⟩
    obtain ⟨f, rfl⟩ := hp
    show RT w S false (.sl own t) ok cs x ↔ RT w S false (.sl false t.strip) ok cs (x.map (cast f))
    constructor
    · intro h
      rw [RT] at h ⊢
      simp only [Bool.and_false, Bool.false_eq_true, if_false, List.length_map, Ty.width_strip] at h ⊢
      obtain ⟨A, cap, e, hc, h⟩ := h
      refine ⟨A, cap, e, hc, fun hl => ?_⟩
      obtain ⟨ad, hA, hs, hr⟩ := h (fun e => hl (by rw [e]; rfl))
      refine ⟨ad, hA, hs, fun j x2 hj => ?_⟩
      rw [List.getElem?_map, Option.map_eq_some_iff] at hj
      obtain ⟨z, hz, rfl⟩ := hj
      obtain ⟨c, h1, h2⟩ := hr j z hz
      exact ⟨c, h1, (RT_strip_aux t (cast_heq f z).symm).1 h2⟩
    · intro h
      rw [RT] at h ⊢
      simp only [Bool.and_false, Bool.false_eq_true, if_false, List.length_map, Ty.width_strip] at h ⊢
      obtain ⟨A, cap, e, hc, h⟩ := h
      refine ⟨A, cap, e, hc, fun hl => ?_⟩
      obtain ⟨ad, hA, hs, hr⟩ := h (fun e => hl (by simpa using e))
      refine ⟨ad, hA, hs, fun j x2 hj => ?_⟩
      obtain ⟨c, h1, h2⟩ := hr j (cast f x2) (by rw [List.getElem?_map, hj]; rfl)
      exact ⟨c, h1, (RT_strip_aux t (cast_heq f x2).symm).2 h2⟩
theorem RT_cast {w : World} {S : Nat → Prop} {a b : Ty} (h : a.strip = b.strip) {ok : Nat → Prop} {cs : List Value} {x : a.den} (hr : RT w S false a ok cs x) : RT w S false b ok cs (castDen h x) := by
  have h1 : RT w S false a.strip ok cs (cast (Ty.den_strip a).symm x) := (RT_strip_aux a (cast_heq _ x).symm).1 hr
  refine (RT_strip_aux b (y := cast (by rw [Ty.den_strip b]) (castDen h x)) (cast_heq _ _).symm).2 ?_
  have : HEq (cast (Ty.den_strip a).symm x) (cast (show b.den = b.strip.den by rw [Ty.den_strip b]) (castDen h x)) :=
    (cast_heq _ x).trans ((cast_heq _ x).symm.trans (cast_heq _ (castDen h x)).symm)
  revert this
  generalize (cast (show b.den = b.strip.den by rw [Ty.den_strip b]) (castDen h x)) = z
  generalize (cast (Ty.den_strip a).symm x) = y at h1
  revert z
  rw [← h]
  intro z hz
  rw [← eq_of_heq hz]
  exact h1
end Go.Eng
/- Abstract values of a call, its own memory, and what ties them to the machine's. -/
namespace Go.Eng
open Go.RowKit
set_option linter.unusedVariables false
/-- What a slot or a cell of the call's own holds: a pure value, or a reference to an entry (by its number) of the call's own memory. -/
inductive D where
  | val (t : Ty) (x : t.den)
  | imm (v : Value)
  | ow (id : Nat)
  | os (id off len : Nat)
  | bp (id off : Nat)
  | ap (id j c : Nat)
  | fp (cells : List D)
  | fn (g : Fn) (caps : List D)
  | ifc (t : TypeId) (d : D)
  | mp (id : Nat)
  | agg (cells : List D)
  | tup (ds : List D)
  | no
instance : Inhabited D := ⟨.imm .nilIface⟩
mutual
/-- Whether it holds a reference to an entry that p says. -/
def D.refs (p : Nat → Bool) : D → Bool
  | .val _ _ => false
  | .imm _ => false
  | .no => false
  | .ow id => p id
  | .os id _ _ => p id
  | .bp id _ => p id
  | .ap id _ _ => p id
  | .mp id => p id
  | .ifc _ d => D.refs p d
  | .fp cs => refsL p cs
  | .fn _ cs => refsL p cs
  | .agg cs => refsL p cs
  | .tup cs => refsL p cs
def refsL (p : Nat → Bool) : List D → Bool
  | [] => false
  | d :: ds => D.refs p d || refsL p ds
end
theorem refsL_get {p : Nat → Bool} : ∀ {ds : List D} (h : refsL p ds = false) (i : Nat) (d : D), ds[i]? = some d → d.refs p = false
  | [], _, _, _, h => by simp at h
  | d :: ds, h, 0, e, he => by
    simp only [refsL, Bool.or_eq_false_iff] at h
    simp only [List.getElem?_cons_zero, Option.some.injEq] at he
    rw [← he]; exact h.1
  | d :: ds, h, i + 1, e, he => by
    simp only [refsL, Bool.or_eq_false_iff] at h
    exact refsL_get h.2 i e (by simpa using he)
theorem refsL_of {p : Nat → Bool} : ∀ {ds : List D} (h : ∀ (i : Nat) (d : D), ds[i]? = some d → d.refs p = false), refsL p ds = false
  | [], _ => rfl
  | d :: ds, h => by
    simp only [refsL, Bool.or_eq_false_iff]
    exact ⟨h 0 d rfl, refsL_of fun i e he => h (i + 1) e (by simpa using he)⟩
/-- An entry of the call's own memory: a variable's block; a slice's row (owned; or handed out, so that it is only read from then on). -/
inductive E where
  | box (cells : List D)
  | arr (t : Ty) (l : List t.den)
  | fz (t : Ty) (l : List t.den)
  /-- an owned row, of whose row j (it reads as x) the own slices at the cells hs are out, each an entry of its own -/
  | det (t : Ty) (l : List t.den) (j : Nat) (x : t.den) (hs : List (Nat × Nat))
  /-- a row whose elements own their slices up to the n-th, and only read them from there on -/
  | mix (t : Ty) (l : List t.den) (n : Nat)
  | dead
instance : Inhabited E := ⟨.dead⟩
def hsRefs (p : Nat → Bool) : List (Nat × Nat) → Bool
  | [] => false
  | h :: r => p h.2 || hsRefs p r
theorem hsRefs_mem {p : Nat → Bool} : ∀ {hs : List (Nat × Nat)} (h : hsRefs p hs = false) (x : Nat × Nat), x ∈ hs → p x.2 = false
  | [], _, _, h => by cases h
  | y :: r, h, x, hx => by
    simp only [hsRefs, Bool.or_eq_false_iff] at h
    rcases List.mem_cons.1 hx with e | e
    · rw [e]; exact h.1
    · exact hsRefs_mem h.2 x e
theorem hsRefs_of {p : Nat → Bool} : ∀ {hs : List (Nat × Nat)}, (∀ x ∈ hs, p x.2 = false) → hsRefs p hs = false
  | [], _ => rfl
  | y :: r, h => by
    simp only [hsRefs, Bool.or_eq_false_iff]
    exact ⟨h y (by simp), hsRefs_of fun x hx => h x (by simp [hx])⟩
/-- Whether an entry names an entry that p says. -/
def E.refs (p : Nat → Bool) : E → Bool
  | .box cs => refsL p cs
  | .det _ _ _ _ hs => hsRefs p hs
  | _ => false
theorem hsRefs_none : ∀ (hs : List (Nat × Nat)), hsRefs (fun _ => false) hs = false
  | [] => rfl
  | _ :: r => hsRefs_none r
/-- Where an entry lies in the machine. -/
inductive Real where
  | box (g : Nat)
  | arr (A : Option Addr) (len cap width : Nat)
  | non
/-- Values of one cell that hold no address but nil. -/
def plain : Value → Bool
  | .pointer none => true
  | .slice none 0 0 => true
  | .map none => true
  | .nilFunc => true
  | .nilIface => true
  | _ => false
theorem plain_one {v : Value} (h : plain v = true) : one v = true := by
  unfold plain at h
  split at h <;> first | rfl | cases h
inductive RD (w : World) (S : Nat → Prop) (β : Nat → Real) : Value → D → Prop
  | val {t : Ty} {x : t.den} {v : Value} (h : RT w S false t (fun _ => False) [v] x) : RD w S β v (.val t x)
  | imm {v : Value} (h : plain v = true) : RD w S β v (.imm v)
  | no {v : Value} : RD w S β v .no
  | ow {id : Nat} {A : Option Addr} {len cap wd : Nat} (h : β id = .arr A len cap wd) : RD w S β (.slice A len cap) (.ow id)
  | os {id off len n cap c wd : Nat} {A X : Option Addr} (h : β id = .arr A n cap wd) (hX : c = 0 ∨ X = A.map (·.add (off * wd))) (h1 : len ≤ c) (h2 : off + c ≤ cap) : RD w S β (.slice X len c) (.os id off len)
  | bp {id off g : Nat} (h : β id = .box g) : RD w S β (.pointer (some ⟨g, off, none⟩)) (.bp id off)
  | ap {id j c n cap wd : Nat} {ad : Addr} (h : β id = .arr (some ad) n cap wd) : RD w S β (.pointer (some (ad.add (j * wd + c)))) (.ap id j c)
  | fp {ad : Addr} {cells : List D} (xs : Nat → Value) (hs : S ad.block) (hx : ∀ (i : Nat) d, cells[i]? = some d → w.cell? (ad.add i) = some (xs i) ∧ one (xs i) = true) (hr : ∀ (i : Nat) d, cells[i]? = some d → RD w S β (xs i) d) : RD w S β (.pointer (some ad)) (.fp cells)
  | fn {g : Fn} {arr : Array Value} {caps : List D} (hl : arr.size = caps.length) (hr : ∀ (i : Nat) x d, arr[i]? = some x → caps[i]? = some d → RD w S β x d) : RD w S β (.func g #[] arr) (.fn g caps)
  | ifc {t : TypeId} {v : Value} {d : D} (h : RD w S β v d) : RD w S β (.iface t v) (.ifc t d)
  | agg {arr : Array Value} {ds : List D} (hl : arr.size = ds.length) (ho : ∀ (i : Nat) x, arr[i]? = some x → one x = true) (hr : ∀ (i : Nat) x d, arr[i]? = some x → ds[i]? = some d → RD w S β x d) : RD w S β (.agg arr) (.agg ds)
  | tup {arr : Array Value} {ds : List D} (hl : arr.size = ds.length) (hr : ∀ (i : Nat) x d, arr[i]? = some x → ds[i]? = some d → RD w S β x d) : RD w S β (.tuple arr) (.tup ds)
section
variable {w w' : World} {S S' : Nat → Prop} {β β' : Nat → Real}
/-- It stays where the blocks that are read stay, and the entries that it names. -/
theorem RD_mono {p : Nat → Bool} {v : Value} {d : D} (h : RD w S β v d) (hS : ∀ k, S k → S' k ∧ w'.heap[k]? = w.heap[k]?) (hβ : ∀ id, p id = false → β id ≠ .non → β' id = β id) : d.refs p = false → RD w' S' β' v d := by
  induction h with
  | val h => exact fun _ => .val (RT_mono _ h hS (fun k hk => hk.elim))
  | imm h => exact fun _ => .imm h
  | no => exact fun _ => .no
  | ow h => exact fun hp => .ow ((hβ _ (by simpa [D.refs] using hp) (by rw [h]; simp)).trans h)
  | os h hX h1 h2 => exact fun hp => .os ((hβ _ (by simpa [D.refs] using hp) (by rw [h]; simp)).trans h) hX h1 h2
  | bp h => exact fun hp => .bp ((hβ _ (by simpa [D.refs] using hp) (by rw [h]; simp)).trans h)
  | ap h => exact fun hp => .ap ((hβ _ (by simpa [D.refs] using hp) (by rw [h]; simp)).trans h)
  | fp xs hs hx hr ih =>
    intro hp
    simp only [D.refs] at hp
    exact .fp xs (hS _ hs).1 (fun i d hd => ⟨(cell_same (hS _ hs).2 _).trans (hx i d hd).1, (hx i d hd).2⟩) (fun i d hd => ih i d hd (refsL_get hp i d hd))
  | fn hl hr ih =>
    intro hp
    simp only [D.refs] at hp
    exact .fn hl (fun i x d hx hd => ih i x d hx hd (refsL_get hp i d hd))
  | ifc h ih =>
    intro hp
    simp only [D.refs] at hp
    exact .ifc (ih hp)
  | agg hl ho hr ih =>
    intro hp
    simp only [D.refs] at hp
    exact .agg hl ho (fun i x d hx hd => ih i x d hx hd (refsL_get hp i d hd))
  | tup hl hr ih =>
    intro hp
    simp only [D.refs] at hp
    exact .tup hl (fun i x d hx hd => ih i x d hx hd (refsL_get hp i d hd))
end
mutual
theorem refs_none (d : D) : d.refs (fun _ => false) = false := by
  cases d with
  | val | imm | ow | os | bp | ap | mp | no => rfl
  | ifc t d => exact refs_none d
  | fp cs => exact refsL_none cs
  | fn g cs => exact refsL_none cs
  | agg cs => exact refsL_none cs
  | tup cs => exact refsL_none cs
theorem refsL_none (ds : List D) : refsL (fun _ => false) ds = false := by
  cases ds with
  | nil => rfl
  | cons d ds => simp only [refsL, refs_none d, refsL_none ds, Bool.or_self]
end
theorem RD_grow {w w' : World} {S S' : Nat → Prop} {β β' : Nat → Real} {v : Value} {d : D} (h : RD w S β v d) (hS : ∀ k, S k → S' k ∧ w'.heap[k]? = w.heap[k]?) (hβ : ∀ id, β id ≠ .non → β' id = β id) : RD w' S' β' v d :=
  RD_mono (p := fun _ => false) h hS (fun id _ => hβ id) (refs_none d)
/-- An entry, and the blocks that are its own. -/
def RE (w : World) (S : Nat → Prop) (β : Nat → Real) (ok : Nat → Prop) (r : Real) : E → Prop
  | .box cells => ∃ (g : Nat) (arr : Array Value) (e : TypeId), r = .box g ∧ ok g ∧ w.heap[g]? = some (.cells arr e (0, 0)) ∧ arr.size = cells.length ∧ (∀ (i : Nat) x, arr[i]? = some x → one x = true) ∧ ∀ (i : Nat) x d, arr[i]? = some x → cells[i]? = some d → RD w S β x d
  | .arr t l => ∃ (A : Option Addr) (cap : Nat), r = .arr A l.length cap t.width ∧ RT w S true (.sl true t) ok [.slice A l.length cap] l
  | .fz t l => ∃ (A : Option Addr) (cap : Nat), r = .arr A l.length cap t.width ∧ RT w S false (.sl true t) (fun _ => False) [.slice A l.length cap] l
  | .det t l j x hs => ∃ (g st cap : Nat) (arr : Array Value) (e : TypeId) (lab : Nat → Nat), r = .arr (some ⟨g, st, none⟩) l.length cap t.width ∧ l.length ≤ cap ∧ ok g ∧ w.heap[g]? = some (.cells arr e (0, 0)) ∧ st + cap * t.width ≤ arr.size ∧ j < l.length ∧
      (∀ i y, i ≠ j → l[i]? = some y → ∃ c : List Value, c.length = t.width ∧ (∀ q v, c[q]? = some v → arr[st + (i * t.width + q)]? = some v) ∧ RT w S true t (fun k => ok k ∧ k ≠ g ∧ lab k = i) c y) ∧
      ∃ c c0 : List Value, c.length = t.width ∧ (∀ q v, c[q]? = some v → arr[st + (j * t.width + q)]? = some v) ∧ RT w S true t (fun k => ok k ∧ k ≠ g ∧ lab k = j) c0 x ∧
        (∀ q, (∀ h ∈ hs, h.1 ≠ q) → c[q]? = c0[q]?) ∧ ∀ h ∈ hs, ∃ A n cp wd, c[h.1]? = some (.slice A n cp) ∧ β h.2 = .arr A n cp wd
  | .mix t l n => ∃ (A : Option Addr) (cap : Nat), r = .arr A l.length cap t.width ∧ l.length ≤ cap ∧ n ≤ l.length ∧ ((A = none ∧ cap = 0) ∨ ∃ (g st : Nat) (arr : Array Value) (e : TypeId) (lab : Nat → Nat), A = some ⟨g, st, none⟩ ∧ ok g ∧ w.heap[g]? = some (.cells arr e (0, 0)) ∧ st + cap * t.width ≤ arr.size ∧
      ∀ i y, l[i]? = some y → ∃ c : List Value, c.length = t.width ∧ (∀ q v, c[q]? = some v → arr[st + (i * t.width + q)]? = some v) ∧ if i < n then RT w S true t (fun k => ok k ∧ k ≠ g ∧ lab k = i) c y else RT w S false t (fun _ => False) c y)
  | .dead => True
/-- As the world goes on, its blocks B stay. -/
structure Bel (B : Nat → Prop) (w w' : World) : Prop where
  os : w'.os = w.os
  tape : w'.tape = w.tape
  output : w'.output = w.output
  size : w.heap.size ≤ w'.heap.size
  block : ∀ k, B k → w'.heap[k]? = w.heap[k]?
theorem Bel.trans {B : Nat → Prop} {a b c : World} (h : Bel B a b) (k : Bel B b c) : Bel B a c :=
  ⟨k.os.trans h.os, k.tape.trans h.tape, k.output.trans h.output, Nat.le_trans h.size k.size, fun i hi => (k.block i hi).trans (h.block i hi)⟩
theorem Bel.refl (B : Nat → Prop) (w : World) : Bel B w w := ⟨rfl, rfl, rfl, Nat.le_refl _, fun _ _ => rfl⟩
theorem _root_.Go.RowKit.Below.bel {n : Nat} {B : Nat → Prop} {w w' : World} (h : Below n w w') (hB : ∀ k, B k → k < n) : Bel B w w' := ⟨h.os, h.tape, h.output, h.size, fun k hk => h.block k (hB k hk)⟩
/-- The blocks that are only read: of those that were there when the call began and are not its own ('base') those of S0. -/
def stab (S0 : Nat → Prop) (base : Nat → Prop) (w : World) (L : Nat → Nat) : Nat → Prop := fun k => (base k → S0 k) ∧ k < w.heap.size ∧ L k = 0
/-- The machine's world holds the call's own memory H: block k belongs to entry L k - 2 (0: it is only read; 1: nobody may touch it), entry id lies at β id; the call began at the heap's size 'base'. -/
structure Rel (S0 : Nat → Prop) (base : Nat → Prop) (w : World) (L : Nat → Nat) (β : Nat → Real) (H : List E) : Prop where
  base_le : ∀ k, base k → k < w.heap.size
  low : ∀ k, base k → L k = 0
  hi : ∀ k, w.heap.size ≤ k → L k = 0
  top : ∀ k, L k < H.length + 2
  non : ∀ id, H.length ≤ id → β id = .non
  ent : ∀ id e, H[id]? = some e → RE w (stab S0 base w L) β (fun k => L k = id + 2) (β id) e
section
variable {w w' : World} {S S' ok ok' : Nat → Prop} {β β' : Nat → Real} {r : Real}
theorem RE_mono {p : Nat → Bool} {e : E} (h : RE w S β ok r e) (hS : ∀ k, S k → S' k ∧ w'.heap[k]? = w.heap[k]?) (hk : ∀ k, ok k → ok' k ∧ w'.heap[k]? = w.heap[k]?) (hβ : ∀ id, p id = false → β id ≠ .non → β' id = β id)
    (hp : e.refs p = false) : RE w' S' β' ok' r e := by
  cases e with
  | box cells =>
    obtain ⟨g, arr, ty, hr, hg, hb, hl, ho, hc⟩ := h
    exact ⟨g, arr, ty, hr, (hk g hg).1, (hk g hg).2.trans hb, hl, ho, fun i x d hx hd => RD_mono (hc i x d hx hd) hS hβ (refsL_get hp i d hd)⟩
  | arr t l =>
    obtain ⟨A, cap, hr, h⟩ := h
    exact ⟨A, cap, hr, RT_mono _ h hS hk⟩
  | fz t l =>
    obtain ⟨A, cap, hr, h⟩ := h
    exact ⟨A, cap, hr, RT_mono _ h hS (fun k hk => hk.elim)⟩
  | det t l j x hs =>
    obtain ⟨g, st, cap, arr, e, lab, hr, hlc, hg, hb, hf, hj, hrow, c, c0, h1, h2, h3, h4, h5⟩ := h
    refine ⟨g, st, cap, arr, e, lab, hr, hlc, (hk g hg).1, (hk g hg).2.trans hb, hf, hj, fun i y hi hy => ?_, c, c0, h1, h2, RT_mono t h3 hS (fun k hp => ⟨⟨(hk k hp.1).1, hp.2⟩, (hk k hp.1).2⟩), h4, fun h hh => ?_⟩
    · obtain ⟨c, e1, e2, e3⟩ := hrow i y hi hy
      exact ⟨c, e1, e2, RT_mono t e3 hS (fun k hp => ⟨⟨(hk k hp.1).1, hp.2⟩, (hk k hp.1).2⟩)⟩
    · obtain ⟨A, n, cp, wd, e1, e2⟩ := h5 h hh
      exact ⟨A, n, cp, wd, e1, (hβ _ (hsRefs_mem hp h hh) (by rw [e2]; simp)).trans e2⟩
  | mix t l n =>
    obtain ⟨A, cap, hr, hlc, hn, h⟩ := h
    refine ⟨A, cap, hr, hlc, hn, ?_⟩
    rcases h with h | ⟨g, st, arr, e, lab, hA, hg, hb, hf, hrow⟩
    · exact .inl h
    · refine .inr ⟨g, st, arr, e, lab, hA, (hk g hg).1, (hk g hg).2.trans hb, hf, fun i y hy => ?_⟩
      obtain ⟨c, e1, e2, e3⟩ := hrow i y hy
      refine ⟨c, e1, e2, ?_⟩
      split
      · rename_i hi
        rw [if_pos hi] at e3
        exact RT_mono t e3 hS (fun k hp => ⟨⟨(hk k hp.1).1, hp.2⟩, (hk k hp.1).2⟩)
      · rename_i hi
        rw [if_neg hi] at e3
        exact RT_mono t e3 hS (fun k hp => hp.elim)
  | dead => trivial
theorem RE_grow {e : E} (h : RE w S β ok r e) (hS : ∀ k, S k → S' k ∧ w'.heap[k]? = w.heap[k]?) (hk : ∀ k, ok k → ok' k ∧ w'.heap[k]? = w.heap[k]?) (hβ : ∀ id, β id ≠ .non → β' id = β id) : RE w' S' β' ok' r e :=
  RE_mono (p := fun _ => false) h hS hk (fun id _ => hβ id) (by cases e <;> first | rfl | exact refsL_none _ | exact hsRefs_none _)
end
section
variable {S0 : Nat → Prop} {base : Nat → Prop} {w w' : World} {L : Nat → Nat} {β : Nat → Real} {H : List E}
theorem stab_below (hb : Below w.heap.size w w') (k : Nat) (hk : stab S0 base w L k) : stab S0 base w' L k ∧ w'.heap[k]? = w.heap[k]? :=
  ⟨⟨hk.1, Nat.lt_of_lt_of_le hk.2.1 hb.size, hk.2.2⟩, hb.block k hk.2.1⟩
/-- The world goes on, all its blocks as they were. -/
theorem Rel.below (h : Rel S0 base w L β H) (hb : Below w.heap.size w w') : Rel S0 base w' L β H := by
  refine ⟨fun k hk => Nat.lt_of_lt_of_le (h.base_le k hk) hb.size, h.low, fun k hk => h.hi k (Nat.le_trans hb.size hk), h.top, h.non, fun id e he => RE_grow (h.ent id e he) (stab_below hb) (fun k hk => ⟨hk, hb.block k ?_⟩) (fun _ _ => rfl)⟩
  rcases Nat.lt_or_ge k w.heap.size with h1 | h1
  · exact h1
  · have := h.hi k h1
    omega
theorem RD_below {v : Value} {d : D} (h : RD w (stab S0 base w L) β v d) (hb : Below w.heap.size w w') : RD w' (stab S0 base w' L) β v d :=
  RD_grow h (stab_below hb) (fun _ _ => rfl)
end
end Go.Eng
/- Comparing structs. -/
namespace Go.Eng
open Go.RowKit
set_option linter.unusedVariables false
/-- What a cell that is compared holds. -/
inductive CK where
  | int (k : IntKind)
  | bool
  | str
def eqGo (P : Program) (rec : TypeId → Option (List CK)) : List Field → Nat → Option (List CK)
  | [], _ => some []
  | f :: r, off => match rec f.type with
    | some ks => bif (f.name != "_") && (Nat.beq f.offset off && (match P.info? f.type with | some i => Nat.beq i.size ks.length | none => false)) then
        match eqGo P rec r (off + ks.length) with
        | some l => some (ks ++ l)
        | none => none
      else none
    | none => none
/-- The cells of a type that is compared cell by cell. -/
def eqKinds (P : Program) : Nat → TypeId → Option (List CK)
  | 0, _ => none
  | m + 1, t => match P.underlying t with
    | some .bool => some [.bool]
    | some (.int k) => some [.int k]
    | some .string => some [.str]
    | some (.struct fs) => bif P.stoodInHeld t then none else eqGo P (eqKinds P m) (P.fieldsOf t).toList 0
    | _ => none
def eqV1 : Value → Value → Bool
  | .int _ a, .int _ b => a == b
  | .string a, .string b => a.toList == b.toList
  | .bool a, .bool b => a == b
  | _, _ => false
def eqVs : List Value → List Value → Bool
  | x :: r, y :: s => eqV1 x y && eqVs r s
  | _, _ => true
def CK.fits : CK → Value → Prop
  | .int k, v => ∃ n, v = .int k n
  | .bool, v => ∃ b, v = .bool b
  | .str, v => ∃ s, v = .string s
def fitsV : List CK → List Value → Prop
  | [], xs => xs = []
  | k :: ks, xs => ∃ x r, xs = x :: r ∧ k.fits x ∧ fitsV ks r
theorem fitsV_len : ∀ {ks : List CK} {xs : List Value}, fitsV ks xs → xs.length = ks.length
  | [], xs, h => by rw [show xs = [] from h]; rfl
  | k :: ks, xs, ⟨x, r, e, _, h⟩ => by rw [e, List.length_cons, List.length_cons, fitsV_len h]
theorem fitsV_append : ∀ {ks l : List CK} {xs : List Value}, fitsV (ks ++ l) xs → fitsV ks (xs.take ks.length) ∧ fitsV l (xs.drop ks.length)
  | [], l, xs, h => ⟨by rfl, by simpa using h⟩
  | k :: ks, l, xs, ⟨x, r, e, hk, h⟩ => by
    subst e
    obtain ⟨h1, h2⟩ := fitsV_append h
    exact ⟨⟨x, r.take ks.length, by simp, hk, h1⟩, by simpa using h2⟩
theorem eqVs_append : ∀ {a b c d : List Value}, a.length = c.length → eqVs (a ++ b) (c ++ d) = (eqVs a c && eqVs b d)
  | [], b, c, d, h => by
    have : c = [] := List.length_eq_zero_iff.1 h.symm
    subst this
    simp only [List.nil_append]
    cases b <;> cases d <;> simp [eqVs]
  | x :: a, b, c, d, h => by
    cases c with
    | nil => simp at h
    | cons y c =>
      simp only [List.cons_append, eqVs]
      rw [eqVs_append (by simpa using h), Bool.and_assoc]
/-- Value v has the cells xs. -/
def ofCells (P : Program) (t : TypeId) (v : Value) (xs : List Value) : Prop :=
  match P.underlying t with
  | some (.struct _) | some (.array _ _) => ∃ arr : Array Value, v = .agg arr ∧ arr.toList = xs
  | _ => xs = [v]
section
variable {P : Program} {w : World}
theorem run_part_cells {t : TypeId} {arr : Array Value} {off n : Nat} {i : TypeInfo} {xs : List Value} (hi : P.info? t = some i) (hn : i.size = n) (hu : (∃ d, P.underlying t = some d))
    (hx : (arr.toList.drop off).take n = xs) (h1 : xs.length = n) (hs : (∀ fs, P.underlying t ≠ some (.struct fs)) → (∀ a b, P.underlying t ≠ some (.array a b)) → n = 1) :
    ∃ v, (part t arr off).run P w = .ok v w ∧ ofCells P t v xs := by
  obtain ⟨d, hd⟩ := hu
  have agg : (isAgg t).run P w = .ok true w → ∃ arr2 : Array Value, (part t arr off).run P w = .ok (.agg arr2) w ∧ arr2.toList = xs := fun ha => by
    refine ⟨arr.extract off (off + n), ?_, ?_⟩
    · unfold part
      simp only [Sem.run_bind, ha, Result.andThen_ok, if_true, show (sizeOf t).run P w = .ok n w by rw [← hn]; simp [sizeOf, typeInfo, hi, program, Sem.run]]
      rfl
    · rw [← hx]
      simp [Array.toList_extract, List.take_drop]
  unfold ofCells
  rw [hd]
  cases d
  case struct fs =>
    obtain ⟨a2, h2, h3⟩ := agg (by unfold isAgg; simp only [Sem.run_bind, run_underlying hd, Result.andThen_ok]; rfl)
    exact ⟨_, h2, a2, rfl, h3⟩
  case array m e =>
    obtain ⟨a2, h2, h3⟩ := agg (by unfold isAgg; simp only [Sem.run_bind, run_underlying hd, Result.andThen_ok]; rfl)
    exact ⟨_, h2, a2, rfl, h3⟩
  all_goals
    have hn1 : n = 1 := hs (fun fs e => by rw [hd] at e; cases e) (fun a b e => by rw [hd] at e; cases e)
    subst hn1
    obtain ⟨v, rfl⟩ := List.length_eq_one_iff.1 h1
    have hv : arr[off]? = some v := by
      have : ((arr.toList.drop off).take 1)[0]? = some v := by rw [hx]; rfl
      rw [List.getElem?_take, if_pos (by omega), List.getElem?_drop] at this
      simpa using this
    refine ⟨v, ?_, rfl⟩
    unfold part isAgg
    simp only [Sem.run_bind, run_underlying hd, Result.andThen_ok, hv]
    rfl
theorem run_equal_cells : ∀ (m d : Nat) (t : TypeId) {ks : List CK} {x y : Value} {xs ys : List Value}, eqKinds P m t = some ks → fitsV ks xs → fitsV ks ys → ofCells P t x xs → ofCells P t y ys → (Op.equalIn (d + m) t x y).run P w = .ok (eqVs xs ys) w
  | 0, _, _, _, _, _, _, _, h, _, _, _, _ => by simp [eqKinds] at h
  | m + 1, d, t, ks, x, y, xs, ys, h, hx, hy, cx, cy => by
    unfold eqKinds at h
    unfold ofCells at cx cy
    split at h
    · rename_i hu
      cases h
      rw [hu] at cx cy
      obtain ⟨_, _, e1, ⟨a, rfl⟩, e2⟩ := hx
      obtain ⟨_, _, f1, ⟨b, rfl⟩, f2⟩ := hy
      subst cx; subst cy
      cases e1; cases f1
      rw [show d + (m + 1) = (d + m) + 1 from rfl, run_equalIn_bool w _ _ _ _ hu]
      simp [eqVs, eqV1]
    · rename_i k hu
      cases h
      rw [hu] at cx cy
      obtain ⟨_, _, e1, ⟨a, rfl⟩, e2⟩ := hx
      obtain ⟨_, _, f1, ⟨b, rfl⟩, f2⟩ := hy
      subst cx; subst cy
      cases e1; cases f1
      rw [show d + (m + 1) = (d + m) + 1 from rfl, run_equalIn_int w _ _ _ _ _ _ hu]
      simp [eqVs, eqV1]
    · rename_i hu
      cases h
      rw [hu] at cx cy
      obtain ⟨_, _, e1, ⟨a, rfl⟩, e2⟩ := hx
      obtain ⟨_, _, f1, ⟨b, rfl⟩, f2⟩ := hy
      subst cx; subst cy
      cases e1; cases f1
      rw [show d + (m + 1) = (d + m) + 1 from rfl, run_equalIn_string w _ _ _ _ hu]
      simp [eqVs, eqV1]
    · rename_i fs hu
      rw [hu] at cx cy
      obtain ⟨xa, rfl, rfl⟩ := cx
      obtain ⟨ya, rfl, rfl⟩ := cy
      cases hst : P.stoodInHeld t with
      | true => rw [hst] at h; cases h
      | false =>
        rw [hst, cond_false] at h
        have hf : P.underlying t = some (.struct (P.fieldsOf t)) := by unfold Program.fieldsOf; rw [hu]
        rw [show d + (m + 1) = (d + m) + 1 from rfl, run_equalIn_struct w _ _ _ _ hf hst]
        have key : ∀ (l : List Field) (off : Nat) (ks : List CK), eqGo P (eqKinds P m) l off = some ks → fitsV ks (xa.toList.drop off) → fitsV ks (ya.toList.drop off) → (Op.eqFields (d + m) xa ya l).run P w = .ok (eqVs (xa.toList.drop off) (ya.toList.drop off)) w := by
          intro l
          induction l with
          | nil =>
            intro off ks h hx hy
            cases h
            rw [show xa.toList.drop off = [] from hx]
            rfl
          | cons f l ih =>
            intro off ks h hx hy
            unfold eqGo at h
            split at h
            · rename_i k1 hk1
              cases hb : ((f.name != "_") && (Nat.beq f.offset off && (match P.info? f.type with | some i => Nat.beq i.size k1.length | none => false))) with
              | false => rw [hb] at h; cases h
              | true =>
                rw [hb, cond_true] at h
                simp only [Bool.and_eq_true, bne_iff_ne, ne_eq] at hb
                obtain ⟨hname, hoff, hsz⟩ := hb
                have hoff := Nat.eq_of_beq_eq_true hoff
                split at h
                · rename_i k2 hk2
                  cases h
                  obtain ⟨x1, x2⟩ := fitsV_append hx
                  obtain ⟨y1, y2⟩ := fitsV_append hy
                  rw [List.drop_drop] at x2 y2
                  split at hsz
                  · rename_i i hi
                    have hsz := Nat.eq_of_beq_eq_true hsz
                    have hud : ∃ d, P.underlying f.type = some d := by
                      cases m with
                      | zero => simp [eqKinds] at hk1
                      | succ m =>
                        unfold eqKinds at hk1
                        cases hq : P.underlying f.type with
                        | none => rw [hq] at hk1; cases hk1
                        | some q => exact ⟨q, rfl⟩
                    have hone : (∀ fs, P.underlying f.type ≠ some (.struct fs)) → (∀ a b, P.underlying f.type ≠ some (.array a b)) → k1.length = 1 := fun n1 n2 => by
                      cases m with
                      | zero => simp [eqKinds] at hk1
                      | succ m =>
                        unfold eqKinds at hk1
                        split at hk1
                        · cases hk1; rfl
                        · cases hk1; rfl
                        · cases hk1; rfl
                        · rename_i q hq; exact absurd hq (n1 _)
                        · cases hk1
                    obtain ⟨a, p1, c1⟩ := run_part_cells (w := w) (arr := xa) (off := f.offset) hi hsz hud (by rw [hoff]) (fitsV_len x1) hone
                    obtain ⟨b, p2, c2⟩ := run_part_cells (w := w) (arr := ya) (off := f.offset) hi hsz hud (by rw [hoff]) (fitsV_len y1) hone
                    have he := run_equal_cells m d f.type hk1 x1 y1 c1 c2
                    simp only [Op.eqFields, if_pos hname, Sem.run_bind, p1, Result.andThen_ok, p2, he, Sem.run_ite]
                    have hsplit : eqVs (xa.toList.drop off) (ya.toList.drop off) = (eqVs ((xa.toList.drop off).take k1.length) ((ya.toList.drop off).take k1.length) && eqVs (xa.toList.drop (off + k1.length)) (ya.toList.drop (off + k1.length))) := by
                      rw [← eqVs_append (by rw [fitsV_len x1, fitsV_len y1]), ← List.drop_drop, ← List.drop_drop, List.take_append_drop, List.take_append_drop]
                    rw [hsplit]
                    cases eqVs ((xa.toList.drop off).take k1.length) ((ya.toList.drop off).take k1.length) with
                    | false => simp
                    | true =>
                      simp only [Bool.not_true, Bool.false_eq_true, if_false, Bool.true_and]
                      exact ih _ _ hk2 x2 y2
                  · cases hsz
                · cases h
            · cases h
        simpa using key _ 0 ks h (by simpa using hx) (by simpa using hy)
    · cases h
end
end Go.Eng
/- The evaluator. -/
namespace Go.Eng
open Go.RowKit
set_option linter.unusedVariables false
/-- What the evaluator knows of a type of the program. -/
inductive TK where
  | cell
  | slice (elem : TypeId)
  | struct (fs : List (Nat × Nat × Bool))
  | iface
  deriving DecidableEq
structure TI where
  kind : TK
  size : Nat
  bytes : Nat
  zero : List Value
  ty : Ty
/-- The shape of an argument or of a result: one cell, or a struct. -/
inductive Sh where
  | one (t : Ty)
  | agg (t : Ty)
  deriving DecidableEq
@[reducible] def Sh.ty : Sh → Ty
  | .one t => t
  | .agg t => t
@[reducible] def Shs.den : List Sh → Type
  | [] => Unit
  | s :: r => s.ty.den × Shs.den r
/-- The shape of what a function returns. -/
inductive Rs where
  | one (s : Sh)
  | tup (ss : List Sh)
@[reducible] def Rs.den : Rs → Type
  | .one s => s.ty.den
  | .tup ss => Shs.den ss
/-- What is known of a function that is called: its arguments' shapes, its results', and the answer. -/
structure Con where
  as : List Sh
  rs : Rs
  fn : Shs.den as → Option rs.den
/-- What is known of a function that writes into what its arguments own: the answer, and what they hold then. -/
structure ConM where
  as : List Sh
  rs : Rs
  fn : Shs.den as → Option (rs.den × Shs.den as)
/-- The evaluator's setting. -/
structure Cfg where
  ti : TypeId → Option TI
  gl : Nat → Option (List D)
  meth : TypeId → String → Option FuncId
  con : FuncId → Option Con
  /-- types that are compared cell by cell -/
  eqt : TypeId → Option (List CK) := fun _ => none
  /-- functions that write into what their arguments own -/
  mu : FuncId → Option ConM := fun _ => none
  /-- so many entries were the caller's: no append may move them -/
  nfix : Nat := 0
/-- Hints: at a slot that a make, an append or a literal fills: the type of the rows; at a loop (by its first region): the slots that are wanted on, and slots or cells of variables (box, cell) whose nil slice becomes an owned one. -/
structure Hint where
  row : Nat → Option Ty := fun _ => none
  keep : Nat → List Nat := fun _ => []
  ini : Nat → List (Nat × Ty) := fun _ => []
  inib : Nat → List (Nat × Nat × Ty) := fun _ => []
  /-- at a part of a sequence (by its first region): the slots, and how many entries, that are wanted on -/
  join : Nat → Option (List Nat × Nat) := fun _ => none
  /-- at a loop (by its first region): rows whose elements come to own their slices, one by one -/
  mix : Nat → List (Nat × Ty) := fun _ => []
structure St where
  T : List (Nat × D)
  H : List E
def look (T : List (Nat × D)) (t : Nat) : Option D :=
  match T with
  | [] => none
  | p :: r => bif Nat.beq p.1 t then some p.2 else look r t
/-- A value of one cell that a text holds. -/
def vD : Value → Option D
  | .int k n => some (.val (.int k) n)
  | .bool b => some (.val .bool b)
  | .string s => some (.val .str s)
  | v => bif plain v then some (.imm v) else none
def vDs : List Value → Option (List D)
  | [] => some []
  | v :: r => (vD v).bind fun d => (vDs r).bind fun ds => some (d :: ds)
def opd (c : Cfg) (T : List (Nat × D)) : Operand → Option D
  | .tmp t => look T t
  | .const (.agg cs) => (vDs cs.toList).map .agg
  | .const v => vD v
  | .func f => some (.fn (.func f) [])
  | .global g => (c.gl g).map .fp
/-- The cells of a pure value; its slices are only read. -/
def cells : (t : Ty) → t.den → List D
  | .unit, _ => []
  | .pair a b, x => cells a x.1 ++ cells b x.2
  | .sl o t, x => [.val (.sl o t) x]
  | .int k, x => [.val (.int k) x]
  | .bool, x => [.val .bool x]
  | .str, x => [.val .str x]
/-- No owned slice is in it. -/
def noOwn : D → Bool
  | .val t _ => decide (t.strip = t)
  | _ => true
/-- A cell as a pure value that is only read. -/
def rdCell (t : Ty) (d : D) (H : List E) : Option t.den :=
  match d with
  | .val t2 x => if h : t2.strip = t.strip then some (castDen h x) else none
  | .imm (.slice none 0 0) => match t with | .sl _ _ => some [] | _ => none
  | .ow id => match H[id]? with
    | some (.arr t2 l) => if h : (Ty.sl true t2).strip = t.strip then some (castDen h l) else none
    | some (.fz t2 l) => if h : (Ty.sl true t2).strip = t.strip then some (castDen h l) else none
    | _ => none
  | .os id off len => match H[id]? with
    | some (.arr t2 l) => bif decide (off + len ≤ l.length) then (if h : (Ty.sl true t2).strip = t.strip then some (castDen h ((l.drop off).take len)) else none) else none
    | some (.fz t2 l) => bif decide (off + len ≤ l.length) then (if h : (Ty.sl true t2).strip = t.strip then some (castDen h ((l.drop off).take len)) else none) else none
    | _ => none
  | _ => none
def rdCells : (t : Ty) → List D → List E → Option (t.den × List D)
  | .unit, ds, _ => some ((), ds)
  | .pair a b, ds, H => (rdCells a ds H).bind fun x => (rdCells b x.2 H).bind fun y => some ((x.1, y.1), y.2)
  | .int k, d :: ds, H => (rdCell (.int k) d H).map (·, ds)
  | .bool, d :: ds, H => (rdCell .bool d H).map (·, ds)
  | .str, d :: ds, H => (rdCell .str d H).map (·, ds)
  | .sl o t, d :: ds, H => (rdCell (.sl o t) d H).map (·, ds)
  | _, [], _ => none
/-- A cell moved into memory of type t: an owned slice goes with it (own column) or is from now on only read. -/
def mvCell (t : Ty) (d : D) (H : List E) : Option (t.den × List E) :=
  match t, d with
  | .sl true t, .imm (.slice none 0 0) => some ([], H)
  | .sl true t, .ow id => match H[id]? with
    | some (.arr t2 l) => if h : t2 = t then some (h ▸ l, H.set id .dead) else none
    | _ => none
  | .sl true _, _ => none
  | .sl false t, .ow id => match H[id]? with
    | some (.arr t2 l) => if h : t2.strip = t.strip then some (castDen (a := .sl true t2) (b := .sl false t) (by simp [Ty.strip, h]) l, H.set id (.fz t2 l)) else none
    | some (.fz t2 l) => if h : t2.strip = t.strip then some (castDen (a := .sl true t2) (b := .sl false t) (by simp [Ty.strip, h]) l, H) else none
    | _ => none
  | .sl false t, .imm (.slice none 0 0) => some ([], H)
  | t, .val t2 x => if h : t2.strip = t.strip then some (castDen h x, H) else none
  | _, _ => none
/-- Cells moved over a value's cells, from cell c on; what lies behind stays. -/
def mvCells : (t : Ty) → t.den → Nat → List D → List E → Option (t.den × List D × List E)
  | .unit, x, _, ds, H => some (x, ds, H)
  | .pair a b, x, c, ds, H =>
    bif Nat.ble a.width c then (mvCells b x.2 (c - a.width) ds H).bind fun y => some ((x.1, y.1), y.2)
    else (mvCells a x.1 c ds H).bind fun y => (mvCells b x.2 0 y.2.1 y.2.2).bind fun z => some ((y.1, z.1), z.2)
  | .int _, x, _, [], H => some (x, [], H)
  | .bool, x, _, [], H => some (x, [], H)
  | .str, x, _, [], H => some (x, [], H)
  | .sl _ _, x, _, [], H => some (x, [], H)
  | .int k, _, _, d :: ds, H => (mvCell (.int k) d H).bind fun y => some (y.1, ds, y.2)
  | .bool, _, _, d :: ds, H => (mvCell .bool d H).bind fun y => some (y.1, ds, y.2)
  | .str, _, _, d :: ds, H => (mvCell .str d H).bind fun y => some (y.1, ds, y.2)
  | .sl o t, _, _, d :: ds, H => (mvCell (.sl o t) d H).bind fun y => some (y.1, ds, y.2)
def Ty.zero : (t : Ty) → t.den
  | .int _ => (0 : Int)
  | .bool => false
  | .str => ⟨#[]⟩
  | .sl _ _ => []
  | .unit => ()
  | .pair a b => (a.zero, b.zero)
def zeros : Ty → List Value
  | .int k => [.int k 0]
  | .bool => [.bool false]
  | .str => [.string ⟨#[]⟩]
  | .sl _ _ => [.slice none 0 0]
  | .unit => []
  | .pair a b => zeros a ++ zeros b
/-- A result comes in: its owned slices become entries. -/
def inCells : (t : Ty) → t.den → List E → List D × List E
  | .unit, _, H => ([], H)
  | .pair a b, x, H => let y := inCells a x.1 H; let z := inCells b x.2 y.2; (y.1 ++ z.1, z.2)
  | .sl true t, x, H => ([.ow H.length], H ++ [.arr t x])
  | .sl false t, x, H => ([.val (.sl false t) x], H)
  | .int k, x, H => ([.val (.int k) x], H)
  | .bool, x, H => ([.val .bool x], H)
  | .str, x, H => ([.val .str x], H)
def inSh (s : Sh) (x : s.ty.den) (H : List E) : Option (D × List E) :=
  match s, x with
  | .agg t, x => let y := inCells t x H; some (.agg y.1, y.2)
  | .one t, x => let y := inCells t x H; match y.1 with | [d] => some (d, y.2) | _ => none
def inShs : (ss : List Sh) → Shs.den ss → List E → Option (List D × List E)
  | [], _, H => some ([], H)
  | s :: r, x, H => (inSh s x.1 H).bind fun y => (inShs r x.2 y.2).bind fun z => some (y.1 :: z.1, z.2)
def rdSh (s : Sh) (d : D) (H : List E) : Option s.ty.den :=
  match s, d with
  | .agg t, .agg ds => (rdCells t ds H).bind fun y => match y.2 with | [] => some y.1 | _ => none
  | .one t, d => bif Nat.beq t.width 1 then (rdCells t [d] H).bind fun y => match y.2 with | [] => some y.1 | _ => none else none
  | _, _ => none
def rdShs : (ss : List Sh) → List D → List E → Option (Shs.den ss)
  | [], [], _ => some ()
  | s :: r, d :: ds, H => (rdSh s d H).bind fun x => (rdShs r ds H).bind fun y => some (x, y)
  | _, _, _ => none
/-- A value of one cell. -/
def single : D → Bool
  | .agg _ => false
  | .no => false
  | .tup _ => false
  | _ => true
def mvSh (s : Sh) (d : D) (H : List E) : Option (s.ty.den × List E) :=
  match s, d with
  | .agg t, .agg ds => bif Nat.beq ds.length t.width then (mvCells t t.zero 0 ds H).bind fun y => some (y.1, y.2.2) else none
  | .one t, d => bif Nat.beq t.width 1 && single d then (mvCells t t.zero 0 [d] H).bind fun y => some (y.1, y.2.2) else none
  | _, _ => none
def mvShs : (ss : List Sh) → List D → List E → Option (Shs.den ss × List E)
  | [], [], H => some ((), H)
  | s :: r, d :: ds, H => (mvSh s d H).bind fun x => (mvShs r ds x.2).bind fun y => some ((x.1, y.1), y.2)
  | _, _, _ => none
def Shs.allOwn : List Sh → Bool
  | [] => true
  | s :: r => s.ty.allOwn && Shs.allOwn r
/-- Entries that these values name are only read from now on. -/
def fzD (H : List E) (p : Nat → Bool) : List E := H.mapIdx fun i e => bif p i then (match e with | .arr t l => .fz t l | e => e) else e
mutual
def D.ids : D → List Nat
  | .ow id => [id]
  | .os id _ _ => [id]
  | .bp id _ => [id]
  | .ap id _ _ => [id]
  | .mp id => [id]
  | .ifc _ d => D.ids d
  | .fp cs => idsL cs
  | .fn _ cs => idsL cs
  | .agg cs => idsL cs
  | .tup cs => idsL cs
  | .val _ _ => []
  | .imm _ => []
  | .no => []
def idsL : List D → List Nat
  | [] => []
  | d :: ds => D.ids d ++ idsL ds
end
def fzAll (H : List E) : List Nat → List E
  | [] => H
  | i :: r => fzAll (match H[i]? with | some (.arr t l) => H.set i (.fz t l) | _ => H) r
def intBin (op : BinOp) (k : IntKind) (x y : Int) : Option D :=
  match op with
  | .add => some (.val (.int k) (k.wrap (x + y)))
  | .sub => some (.val (.int k) (k.wrap (x - y)))
  | .mul => some (.val (.int k) (k.wrap (x * y)))
  | .quo => some (.val (.int k) (k.wrap (x.tdiv y)))
  | .rem => some (.val (.int k) (x.tmod y))
  | .eql => some (.val .bool (x == y))
  | .neq => some (.val .bool (x != y))
  | .lss => some (.val .bool (decide (x < y)))
  | .leq => some (.val .bool (decide (x ≤ y)))
  | .gtr => some (.val .bool (decide (x > y)))
  | .geq => some (.val .bool (decide (x ≥ y)))
  | _ => none
def strBin (op : BinOp) (x y : ByteArray) : Option D :=
  match op with
  | .add => some (.val .str (x ++ y))
  | .eql => some (.val .bool (x.toList == y.toList))
  | .neq => some (.val .bool (!(x.toList == y.toList)))
  | .lss => some (.val .bool (Op.bytesLess x.toList y.toList))
  | .leq => some (.val .bool (Op.bytesLess x.toList y.toList || x.toList == y.toList))
  | .gtr => some (.val .bool (!(Op.bytesLess x.toList y.toList || x.toList == y.toList)))
  | .geq => some (.val .bool (!(Op.bytesLess x.toList y.toList)))
  | _ => none
def isConst : Operand → Bool
  | .const _ => true
  | _ => false
/-- Cells compared. -/
def eqDs : List CK → List D → List D → Option Bool
  | [], [], [] => some true
  | .int k :: ks, .val (.int k1) x :: r, .val (.int k2) y :: s => bif decide (k1 = k) && decide (k2 = k) then (match eqDs ks r s with | some b => some ((x == y) && b) | none => none) else none
  | .bool :: ks, .val .bool x :: r, .val .bool y :: s => match eqDs ks r s with | some b => some ((x == y) && b) | none => none
  | .str :: ks, .val .str x :: r, .val .str y :: s => match eqDs ks r s with | some b => some ((x.toList == y.toList) && b) | none => none
  | _, _, _ => none
def binD (i : Option TI) (q : Option (List CK)) (cst : Bool) (op : BinOp) (a b : D) : Option D :=
  match a, b with
  | .agg cs, .agg ds => match q with
    | some ks => match eqDs ks cs ds with
      | some b => match op with
        | .eql => some (.val .bool b)
        | .neq => some (.val .bool (!b))
        | _ => none
      | none => none
    | none => none
  | .val (.int k) x, .val (.int k2) y => bif decide (k = k2) then intBin op k x y else none
  | .val .str x, .val .str y => strBin op x y
  | .val .bool x, .val .bool y => match i with
    | some i => match i.kind, i.ty with
      | .cell, .bool => match op with | .eql => some (.val .bool (x == y)) | .neq => some (.val .bool (!(x == y))) | _ => none
      | _, _ => none
    | none => none
  | .ifc _ _, .imm .nilIface => match i with
    | some i => match i.kind with
      | .iface => match op with | .eql => some (.val .bool false) | .neq => some (.val .bool true) | _ => none
      | _ => none
    | none => none
  | .imm .nilIface, .imm .nilIface => match i with
    | some i => match i.kind with
      | .iface => bif cst then match op with | .eql => some (.val .bool true) | .neq => some (.val .bool false) | _ => none else none
      | _ => none
    | none => none
  | _, _ => none
/-- What must hold for an operation on two values. -/
def binK {R : Type} (op : BinOp) (a b : D) (r : Option R) : Option R :=
  match a, b with
  | .val (.int _) _, .val (.int _) y => match op with
    | .quo => if y = (0 : Int) then none else r
    | .rem => if y = (0 : Int) then none else r
    | _ => r
  | .val .str x, .val .str y => match op with
    | .add => if ((ByteArray.size x + ByteArray.size y : Nat) : Int) > IntKind.i64.max then none else r
    | _ => r
  | _, _ => r
def lenD (i : TI) (H : List E) : D → Option Int
  | .val .str s => if i.kind = .cell ∧ i.ty = .str then some (s.size : Int) else none
  | .val (.sl _ _) l => match i.kind with | .slice _ => some (l.length : Int) | _ => none
  | .imm (.slice none 0 0) => match i.kind with | .slice _ => some 0 | _ => none
  | .ow id => match i.kind with
    | .slice _ => match H[id]? with
      | some (.arr _ l) => some (l.length : Int)
      | some (.fz _ l) => some (l.length : Int)
      | some (.mix _ l _) => some (l.length : Int)
      | _ => none
    | _ => none
  | .os _ _ len => match i.kind with | .slice _ => some (len : Int) | _ => none
  | _ => none
def isAggTI (i : TI) : Bool := match i.kind with | .struct _ => true | _ => false
def mkVal (i : TI) (ds : List D) : Option D :=
  bif isAggTI i then bif Nat.beq ds.length i.size then some (.agg ds) else none
  else match ds with | d :: _ => some d | [] => none
def dCells : D → List D
  | .agg ds => ds
  | .no => []
  | .tup _ => []
  | d => [d]
def setCells (cs : List D) : Nat → List D → List D
  | _, [] => cs
  | i, d :: ds => setCells (cs.set i d) (i + 1) ds
section
variable {R : Type}
/-- Bytes as a string. -/
def bytesOf (l : List Int) : ByteArray := l.foldl (fun r n => r.push (UInt8.ofNat n.toNat)) ByteArray.empty
/-- What lies at an address, n cells. -/
def ldK (H : List E) (d : D) (n : Nat) (K : List D → Option R) : Option R :=
  match d with
  | .bp id off => match H[id]? with
    | some (.box cs) => K ((cs.drop off).take n)
    | _ => none
  | .fp cs => K (cs.take n)
  | .ap id j c => match H[id]? with
    | some (.arr t l) => (l[j]?).bind fun x => let ds := ((cells t x).drop c).take n; bif ds.all noOwn then K ds else none
    | some (.fz t l) => (l[j]?).bind fun x => K (((cells t x).drop c).take n)
    | some (.mix t l m) => (l[j]?).bind fun x => if j = m then K (((cells t x).drop c).take n) else none
    | _ => none
  | _ => none
/-- An own slice put over a cell. -/
def putSl (s : Ty) (l : List s.den) : (t : Ty) → t.den → Nat → Option t.den
  | .pair a b, x, c => bif Nat.ble a.width c then (match putSl s l b x.2 (c - a.width) with | some y => some (x.1, y) | none => none) else (match putSl s l a x.1 c with | some y => some (y, x.2) | none => none)
  | .sl true t2, _, _ => if h : s = t2 then some (h ▸ l) else none
  | _, _, _ => none
/-- Cell c is a slice that is owned, the only one. -/
def oneOwn : Ty → Nat → Bool
  | .pair a b, c => bif Nat.ble a.width c then decide (a.strip = a) && oneOwn b (c - a.width) else oneOwn a c && decide (b.strip = b)
  | .sl true _, c => Nat.beq c 0
  | _, _ => false
def stK (H : List E) (d : D) (ds : List D) (K : List E → Option R) : Option R :=
  match d with
  | .bp id off => match H[id]? with
    | some (.box cs) => bif Nat.ble (off + ds.length) cs.length then K (H.set id (.box (setCells cs off ds))) else none
    | _ => none
  | .ap id j c => match H[id]? with
    | some (.arr t l) => bif !(Nat.blt c t.width) then none else (l[j]?).bind fun x => match mvCells t x c ds H with
      | some (y, [], H2) => match H2[id]? with
        | some (.arr _ _) => K (H2.set id (.arr t (l.set j y)))
        | _ => none
      | _ => none
    | some (.mix t l m) => match ds with
      | [.ow id2] => match H[id2]? with
        | some (.arr s l2) => bif oneOwn t c then (l[j]?).bind fun x => match putSl s l2 t x c with
            | some y => if j = m then K ((H.set id2 .dead).set id (.mix t (l.set j y) (m + 1))) else none
            | none => none
          else none
        | _ => none
      | _ => none
    | _ => none
  | _ => none
/-- Nil put over a slice's cell. -/
def nilCell : (t : Ty) → t.den → Nat → t.den
  | .pair a b, x, c => bif Nat.ble a.width c then (x.1, nilCell b x.2 (c - a.width)) else (nilCell a x.1 c, x.2)
  | .sl _ _, _, _ => []
  | .int _, x, _ => x
  | .bool, x, _ => x
  | .str, x, _ => x
  | .unit, x, _ => x
/-- The own slices among a row's cells (from cell c on) go out: each becomes an entry. -/
def outC (t : Ty) : t.den → Nat → List D → List (Nat × Nat) → List E → t.den × List D × List (Nat × Nat) × List E
  | x, _, [], hs, H => (x, [], hs, H)
  | x, c, d :: r, hs, H => match d with
    | .val (.sl true s) l => let y := outC t (nilCell t x c) (c + 1) r ((c, H.length) :: hs) (H ++ [.arr s l]); (y.1, .ow H.length :: y.2.1, y.2.2)
    | d => let y := outC t x (c + 1) r hs H; (y.1, d :: y.2.1, y.2.2)
/-- What is out comes back. -/
def attL (id : Nat) (t : Ty) (l : List t.den) (j : Nat) : t.den → List (Nat × Nat) → List E → List E
  | x, [], H => H.set id (.arr t (l.set j x))
  | x, h :: r, H => match H[h.2]? with
    | some (.arr s l2) => match putSl s l2 t x h.1 with
      | some y => attL id t l j y r ((H.set h.2 .dead).set id (.det t l j y r))
      | none => H
    | _ => H
def attAll : Nat → List E → List E
  | 0, H => H
  | n + 1, H => attAll n (match H[n]? with | some (.det t l j x hs) => attL n t l j x hs H | _ => H)
/-- Entries that were moved out, put back with what they hold now. -/
def back1 (d e : D) (H : List E) : List E :=
  match d, e with
  | .val (.sl true s) l, .ow id => H.set id (.arr s l)
  | _, _ => H
def backC : List D → List D → List E → List E
  | d :: r, e :: ds, H => backC r ds (back1 d e H)
  | _, _, H => H
def dL (d : D) : List D := match d with | .agg ds => ds | d => [d]
def backSh (s : Sh) (x : s.ty.den) (d : D) (H : List E) : List E := backC (cells s.ty x) (dL d) H
def backShs : (ss : List Sh) → Shs.den ss → List D → List E → List E
  | s :: r, x, d :: ds, H => backShs r x.2 ds (backSh s x.1 d H)
  | _, _, _, H => H
/-- Values of slots or variables that name an entry, forgotten. -/
def killT (p : Nat → Bool) : List (Nat × D) → List (Nat × D)
  | [] => []
  | x :: r => (bif x.2.refs p then (x.1, .no) else x) :: killT p r
def killC (p : Nat → Bool) : List D → List D
  | [] => []
  | d :: r => (bif d.refs p then .no else d) :: killC p r
def killE (p : Nat → Bool) : List E → List E
  | [] => []
  | .box cs :: r => .box (killC p cs) :: killE p r
  | .det t l j x hs :: r => (bif hsRefs p hs then .dead else .det t l j x hs) :: killE p r
  | e :: r => e :: killE p r
end
end Go.Eng
/- The evaluator: operations, regions, code, functions. -/
namespace Go.Eng
open Go.RowKit
set_option linter.unusedVariables false
def putT (T : List (Nat × D)) (dst : Option Nat) (d : D) : List (Nat × D) :=
  match dst with
  | some t => (t, d) :: T
  | none => T
/-- undef, as the machine leaves it at an operation that is not wanted. -/
def unD : D := .tup []
def opds (c : Cfg) (T : List (Nat × D)) : List Operand → Option (List D)
  | [] => some []
  | x :: r => (opd c T x).bind fun d => (opds c T r).bind fun ds => some (d :: ds)
section
variable {R : Type}
/-- None of these entries is a variable's block. -/
def noBox (H : List E) : List Nat → Bool
  | [] => true
  | i :: r => (match H[i]? with | some (.box _) => false | some (.det _ _ _ _ _) => false | some (.mix _ _ _) => false | _ => true) && noBox H r
/-- A call of a function that writes into what its arguments own. -/
def callM (c : Cfg) (H : List E) (f : FuncId) (args : List D) (K : List E → D → Option R) : Option R :=
  match c.mu f with
  | some k => match mvShs k.as args H with
    | some (x, H1) => (k.fn x).bind fun y =>
      match k.rs, y with
      | .one s, y => match inSh s y.1 H1 with
        | some (d, H2) => let H3 := backShs k.as y.2 args H2; K (attAll H3.length H3) d
        | none => none
      | .tup ss, y => match inShs ss y.1 H1 with
        | some (ds, H2) => let H3 := backShs k.as y.2 args H2; K (attAll H3.length H3) (.tup ds)
        | none => none
    | none => none
  | none => none
/-- A call of function f by what is known of it. -/
def callK (c : Cfg) (H : List E) (f : FuncId) (args : List D) (K : List E → D → Option R) : Option R :=
  match c.con f with
  | some k => match rdShs k.as args H with
    | some x => (k.fn x).bind fun y =>
      match k.rs, y with
      | .one s, y => bif s.ty.allOwn || noBox H (idsL args) then
          match inSh s y (bif s.ty.allOwn then H else fzAll H (idsL args)) with
          | some (d, H2) => K H2 d
          | none => none
        else none
      | .tup ss, y => bif Shs.allOwn ss || noBox H (idsL args) then
          match inShs ss y (bif Shs.allOwn ss then H else fzAll H (idsL args)) with
          | some (ds, H2) => K H2 (.tup ds)
          | none => none
        else none
    | none => none
  | none => callM c H f args K
def Ty.noSl : Ty → Bool
  | .sl _ _ => false
  | .pair a b => a.noSl && b.noSl
  | _ => true
/-- No slice of the result is owned: a call that returns it makes no entry. -/
def Rs.quiet : Rs → Bool
  | .one s => decide (s.ty.strip = s.ty)
  | .tup ss => ss.all fun s => decide (s.ty.strip = s.ty)
/-- A call that leaves the entries alone. -/
def callQ (c : Cfg) (H : List E) (f : FuncId) (args : List D) (K : D → Option R) : Option R :=
  match c.con f with
  | some k => match rdShs k.as args H with
    | some x => (k.fn x).bind fun y =>
      match k.rs, y with
      | .one s, y => bif decide (s.ty.strip = s.ty) && (s.ty.noSl || (idsL args).isEmpty) then (match inSh s y H with
        | some (d, _) => K d
        | none => none) else none
      | .tup ss, y => bif ss.all (fun s => decide (s.ty.strip = s.ty)) && (ss.all (fun s => s.ty.noSl) || (idsL args).isEmpty) then (match inShs ss y H with
        | some (ds, _) => K (.tup ds)
        | none => none) else none
    | none => none
  | none => none
/-- Which calls leave the entries alone. -/
def quietF (c : Cfg) (f : FuncId) : Bool := match c.con f with | some k => k.rs.quiet | none => false
def rowsOf (t : Ty) : List (List D) → List E → Option (List t.den × List E)
  | [], H => some ([], H)
  | r :: rs, H => match mvCells t t.zero 0 r H with
    | some (x, [], H2) => bif Nat.beq r.length t.width then (match rowsOf t rs H2 with | some (l, H3) => some (x :: l, H3) | none => none) else none
    | _ => none
def partsOk : Nat → List (Nat × Operand) → Bool
  | _, [] => true
  | i, p :: r => Nat.beq p.1 i && partsOk (i + 1) r
def fillD (fs : List (Nat × Nat × Bool)) (cs : List D) : List (Nat × List D) → Option (List D)
  | [] => some cs
  | (i, ds) :: r => match fs[i]? with
    | some (off, size, _) => bif Nat.beq ds.length size && (Nat.ble 1 size && Nat.ble (off + size) cs.length) then fillD fs (setCells cs off ds) r else none
    | none => none
/-- One operation that leaves the entries alone. -/
def opQ (c : Cfg) (o : Oper) (T : List (Nat × D)) (H : List E) (K : D → Option R) : Option R :=
  match o.op with
  | .move x => match opd c T x with | some d => K d | none => none
  | .assign x => match opd c T x with | some d => K d | none => none
  | .pick b x y => match opd c T b with
    | some (.val .bool t) => match opd c T x, opd c T y with
      | some (.val .bool u), some (.val .bool v) => K (.val .bool (bif t then u else v))
      | dx, dy => bif t then (match dx with | some d => K d | none => none) else (match dy with | some d => K d | none => none)
    | _ => none
  | .build t parts => match c.ti t with
    | some i => match i.kind, vDs i.zero, opds c T (parts.toList.map (·.2)) with
      | .struct fs, some z, some ds => match fillD fs z ((parts.toList.map (·.1)).zip (ds.map dCells)) with
        | some cs => K (.agg cs)
        | none => none
      | _, _, _ => none
    | none => none
  | .load t x => match c.ti t, opd c T x with
    | some i, some d => ldK H d i.size fun ds => match mkVal i ds with | some d => K d | none => none
    | _, _ => none
  | .nilCheck x => match opd c T x with
    | some (.bp id off) => K (.bp id off)
    | some (.ap id j c) => K (.ap id j c)
    | some (.fp cs) => K (.fp cs)
    | _ => none
  | .binOp op t x y _ => match opd c T x, opd c T y with
    | some a, some b => binK op a b (match binD (c.ti t) (c.eqt t) (isConst x || isConst y) op a b with | some d => K d | none => none)
    | _, _ => none
  | .unOp op _ x => match op, opd c T x with
    | .not, some (.val .bool b) => K (.val .bool (!b))
    | .neg, some (.val (.int k) n) => K (.val (.int k) (k.wrap (0 - n)))
    | _, _ => none
  | .fieldAddr t x f => match c.ti t, opd c T x with
    | some i, some d => match i.kind with
      | .struct fs => match fs[f]? with
        | some (off, size, _) => bif Nat.ble 1 size then
            match d with
            | .bp id a => K (.bp id (a + off))
            | .ap id j a => K (.ap id j (a + off))
            | .fp cs => K (.fp (cs.drop off))
            | _ => none
          else none
        | none => none
      | _ => none
    | _, _ => none
  | .field t x f => match c.ti t, opd c T x with
    | some i, some (.agg cs) => match i.kind with
      | .struct fs => match fs[f]? with
        | some (off, size, ag) => bif Nat.ble (off + size) cs.length then
            (bif ag then K (.agg ((cs.drop off).take size)) else match cs.drop off with | d :: _ => K d | [] => none)
          else none
        | none => none
      | _ => none
    | _, _ => none
  | .indexAddr t x ix => match c.ti t, opd c T x, opd c T ix with
    | some i, some d, some (.val (.int _) n) => match i.kind with
      | .slice e => match c.ti e with
        | some ie => match d with
          | .val (.sl _ t) l => if 0 ≤ n then (bif Nat.beq t.width ie.size then (l[n.toNat]?).bind fun x => K (.fp (cells t x)) else none) else none
          | .ow id => match H[id]? with
            | some (.arr t l) => bif Nat.beq t.width ie.size then (if 0 ≤ n then (if n < (l.length : Int) then K (.ap id n.toNat 0) else none) else none) else none
            | some (.fz t l) => bif Nat.beq t.width ie.size then (if 0 ≤ n then (if n < (l.length : Int) then K (.ap id n.toNat 0) else none) else none) else none
            | some (.mix t l _) => bif Nat.beq t.width ie.size then (if 0 ≤ n then (if n < (l.length : Int) then K (.ap id n.toNat 0) else none) else none) else none
            | _ => none
          | _ => none
        | none => none
      | _ => none
    | _, _, _ => none
  | .index t x ix => match c.ti t, opd c T x, opd c T ix with
    | some i, some (.val .str s), some (.val (.int _) n) => if i.kind = .cell ∧ i.ty = .str then (if 0 ≤ n then (s[n.toNat]?).bind fun b => K (.val (.int .u8) (b.toNat : Int)) else none) else none
    | _, _, _ => none
  | .slice t x lo hi none => match c.ti t, opd c T x, (match lo with | some q => opd c T q | none => some (.val (.int .i64) 0)) with
    | some i, some (.val .str s), some (.val (.int _) n) => if i.kind = .cell ∧ i.ty = .str then
        match (match hi with | some q => opd c T q | none => some (.val (.int .i64) (s.size : Int))) with
        | some (.val (.int _) m) => if 0 ≤ n then (if n ≤ m then (if m ≤ (s.size : Int) then K (.val .str (s.extract n.toNat m.toNat)) else none) else none) else none
        | _ => none
      else none
    | some i, some (.val (.sl o t2) l), some (.val (.int _) n) => match i.kind with
      | .slice e => match c.ti e with
        | some ie => bif Nat.beq t2.width ie.size then
            match (match hi with | some q => opd c T q | none => some (.val (.int .i64) (l.length : Int))) with
            | some (.val (.int _) m) => if 0 ≤ n then (if n ≤ m then (if m ≤ (l.length : Int) then K (.val (.sl o t2) ((l.drop n.toNat).take (m.toNat - n.toNat))) else none) else none) else none
            | _ => none
          else none
        | none => none
      | _ => none
    | _, _, _ => none
  | .convert u t x => match c.ti u, c.ti t, opd c T x with
    | some _, some i, some (.val (.int k) n) => match i.kind, i.ty with
      | .cell, .int k2 => K (.val (.int k2) (k2.wrap n))
      | _, _ => none
    | some _, some i, some (.val .str s) => match i.kind, i.ty with
      | .cell, .str => K (.val .str s)
      | _, _ => none
    | some iu, some i, some d => match iu.kind, i.kind, i.ty with
      | .slice e, .cell, .str => match c.ti e with
        | some ie => match ie.kind, ie.ty with
          | .cell, .int .u8 => match rdCell (.sl false (.int .u8)) d H with
            | some l => K (.val .str (bytesOf l))
            | none => none
          | _, _ => none
        | none => none
      | _, _, _ => none
    | _, _, _ => none
  | .makeInterface t x => match c.ti t, opd c T x with
    | some i, some d => bif decide (i.kind = .iface) then none else K (.ifc t d)
    | _, _ => none
  | .makeFunc g first captured => match first.toList, opds c T captured.toList with
    | [], some ds => K (.fn g ds)
    | _, _ => none
  | .extract x i => match opd c T x with
    | some (.tup ds) => match ds[i]? with | some d => K d | none => none
    | _ => none
  | .call k => match k.callee with
    | .builtin .len => match k.args.toList, k.argTypes.toList with
      | [x], t :: _ => match c.ti t, opd c T x with
        | some i, some d => match lenD i H d with | some n => K (.val (.int .i64) n) | none => none
        | _, _ => none
      | _, _ => none
    | .builtin _ => none
    | .value x => match opd c T x, opds c T k.args.toList with
      | some (.fn (.func f) caps), some ds => callQ c H f (ds ++ caps) K
      | _, _ => none
    | .invoke x name => match opd c T x, opds c T k.args.toList with
      | some (.ifc t d), some ds => match c.meth t name with
        | some f => callQ c H f (d :: ds) K
        | none => none
      | _, _ => none
  | _ => none
/-- What append's second argument holds; a slice of the call's own goes with it. -/
def srcK (t : Ty) (dy : D) (H : List E) (K : List t.den → List E → Option R) : Option R :=
  match dy with
  | .ow id2 => match H[id2]? with
    | some (.arr t2 l2) => if ht : t2 = t then K (ht ▸ l2) (H.set id2 .dead) else none
    | _ => none
  | .val (.sl _ t2) l2 => if ht : t2.strip = t then K (castDen (a := .sl true t2) (b := .sl true t) (by rw [← ht]; simp [Ty.strip, Ty.strip_strip]) l2) H else none
  | _ => none
def appK (nf : Nat) (h : Hint) (o : Oper) (T : List (Nat × D)) (H : List E) (ie : TI) (dx dy : D) (K : List (Nat × D) → List E → D → Option R) : Option R :=
  match dx with
  | .imm (.slice none 0 0) =>
    let t := (h.row (o.dst.getD 0)).getD ie.ty
    bif Nat.beq t.width ie.size then
      srcK t dy H fun l2 H2 => if l2.length * ie.bytes ≤ 140737488355328 then K T (H2 ++ [.arr t l2]) (.ow H2.length) else none
    else none
  | .ow id => match H[id]? with
    | some (.arr t l) => bif Nat.beq t.width ie.size && Nat.ble nf id then
        srcK t dy H fun l2 H2 => match H2[id]? with
          | some (.arr _ _) => if (l.length + l2.length) * ie.bytes ≤ 140737488355328 then K (killT (Nat.beq id) T) (killE (Nat.beq id) (H2.set id (.arr t (l ++ l2)))) (.ow id) else none
          | _ => none
      else none
    | _ => none
  | _ => none
/-- Is a slice nil? Nothing is known of an empty one: both answers must come to the same. -/
def nilQ (c : Cfg) (op : BinOp) (t : TypeId) (T : List (Nat × D)) (x y : Operand) : Option (Bool × Bool) :=
  match op with
  | .eql | .neq => match c.ti t, opd c T x, opd c T y with
    | some i, some (.val (.sl _ _) l), some (.imm (.slice none 0 0)) => match i.kind with
      | .slice _ => some (l.isEmpty, match op with | .eql => true | _ => false)
      | _ => none
    | _, _, _ => none
  | _ => none
open Classical in
noncomputable def both (x y : Option R) : Option R := if x = y then x else none
theorem both_self (x : Option R) : both x x = x := by unfold both; rw [if_pos rfl]
theorem both_some {x y : Option R} {r : R} (h : both x y = some r) : x = some r ∧ y = some r := by
  unfold both at h
  split at h
  · rename_i e; exact ⟨h, e ▸ h⟩
  · cases h
/-- One operation. -/
noncomputable def opK (c : Cfg) (h : Hint) (o : Oper) (T : List (Nat × D)) (H : List E) (K : List (Nat × D) → List E → D → Option R) : Option R :=
  match o.op with
  | .alloc e => match c.ti e with
    | some i => match vDs i.zero with
      | some ds => K T (H ++ [.box ds]) (.bp H.length 0)
      | none => none
    | none => none
  | .box e x => match c.ti e, opd c T x with
    | some i, some d => bif Nat.beq (dCells d).length i.size && Nat.ble 1 i.size then K T (H ++ [.box (dCells d)]) (.bp H.length 0) else none
    | _, _ => none
  | .buildSlice t n parts => match c.ti t with
    | some i => match i.kind with
      | .slice e => match c.ti e, opds c T (parts.toList.map (·.2)) with
        | some ie, some ds => bif partsOk 0 parts.toList && Nat.beq parts.size n && Nat.ble (n * ie.size) 16777216 then
            let t := (h.row (o.dst.getD 0)).getD ie.ty
            bif Nat.beq t.width ie.size && Nat.ble 1 ie.size then
            match rowsOf t (ds.map dCells) H with
            | some (l, H2) => K T (H2 ++ [.arr t l]) (.ow H2.length)
            | none => none
            else none
          else none
        | _, _ => none
      | _ => none
    | none => none
  | .store t x y => match c.ti t, opd c T x, opd c T y with
    | some i, some d, some v => bif Nat.beq (dCells v).length i.size && Nat.ble 1 i.size then stK H d (dCells v) fun H2 => K T H2 unD else none
    | _, _, _ => none
  | .makeSlice t n m => match c.ti t, opd c T n, opd c T m with
    | some i, some (.val (.int .i64) a), some (.val (.int .i64) b) => match i.kind with
      | .slice e => match c.ti e with
        | some ie =>
          let t := (h.row (o.dst.getD 0)).getD ie.ty
          bif decide (t.strip = ie.ty.strip) then
          if 0 ≤ a then (if a ≤ b then (if b * (ie.bytes : Int) ≤ 140737488355328 then (if b ≤ 9223372036854775807 then K T (H ++ [.arr t (List.replicate a.toNat t.zero)]) (.ow H.length) else none) else none) else none) else none
          else none
        | none => none
      | _ => none
    | _, _, _ => none
  | .call k => match k.callee with
    | .builtin .append => match k.args.toList, k.argTypes.toList with
      | [x, y], [ts, ts2] => match c.ti ts, opd c T x, opd c T y with
        | some i, some dx, some dy => match i.kind with
          | .slice e => match c.ti e with
            | some ie => bif Nat.beq ts ts2 && Nat.ble 1 ie.bytes then appK c.nfix h o T H ie dx dy K else none
            | none => none
          | _ => none
        | _, _, _ => none
      | _, _ => none
    | .builtin _ => opQ c o T H fun d => K T H d
    | .value x => match opd c T x, opds c T k.args.toList with
      | some (.fn (.func f) caps), some ds => callK c H f (ds ++ caps) fun H d => K T H d
      | _, _ => none
    | .invoke x name => match opd c T x, opds c T k.args.toList with
      | some (.ifc t d), some ds => match c.meth t name with
        | some f => callK c H f (d :: ds) fun H d => K T H d
        | none => none
      | _, _ => none
  | .load t x => match opd c T x with
    | some (.ap id j q) => match H[id]? with
      | some (.arr t2 l) => (l[j]?).bind fun x =>
          match c.ti t with
          | some i =>
            let ds := ((cells t2 x).drop q).take i.size
            bif ds.all noOwn then (match mkVal i ds with | some d => K T H d | none => none)
            else
              let y := outC t2 x q ds [] H
              bif y.2.1.all noOwn then (match mkVal i y.2.1 with | some d => K T (y.2.2.2.set id (.det t2 l j y.1 y.2.2.1)) d | none => none) else none
          | none => none
      | _ => opQ c o T H fun d => K T H d
    | _ => opQ c o T H fun d => K T H d
  | .binOp op t x y _ => match nilQ c op t T x y with
    | some (e, p) => bif e then both (K T H (.val .bool p)) (K T H (.val .bool (!p))) else K T H (.val .bool (!p))
    | none => opQ c o T H fun d => K T H d
  | _ => opQ c o T H fun d => K T H d
/-- The operations of a region, in the order of the text. -/
noncomputable def opsK (c : Cfg) (h : Hint) (ops : Array Oper) : List Oper → List (Nat × D) → List E → (List (Nat × D) → List E → Option R) → Option R
  | [], T, H, K => K T H
  | o :: rest, T, H, K => match o.guard with
    | none => opK c h o T H fun T H d => opsK c h ops rest (putT T o.dst d) H K
    | some (j, want) => match (ops[j]?).bind (·.dst) with
      | some g => match look T g with
        | some (.val .bool b) =>
          bif b then (bif want then opK c h o ((g, .val .bool true) :: T) H fun T H d => opsK c h ops rest (putT T o.dst d) H K else opsK c h ops rest (putT ((g, .val .bool true) :: T) o.dst unD) H K)
          else (bif want then opsK c h ops rest (putT ((g, .val .bool false) :: T) o.dst unD) H K else opK c h o ((g, .val .bool false) :: T) H fun T H d => opsK c h ops rest (putT T o.dst d) H K)
        | some (.tup []) => opsK c h ops rest (putT T o.dst unD) H K
        | _ => none
      | none => none
/-- The operations that opQ takes. -/
def quietO (c : Cfg) (o : Oper) : Bool :=
  match o.op with
  | .alloc _ | .box _ _ | .buildSlice _ _ _ | .store _ _ _ | .makeSlice _ _ _ => false
  | .call k => match k.callee with
    | .builtin .len => true
    | .builtin _ => false
    | .value (.func f) => quietF c f
    | .value _ => true
    | .invoke _ _ => true
  | _ => true
def quietN (c : Cfg) : List Oper → Nat
  | [] => 0
  | o :: r => bif quietO c o then quietN c r + 1 else 0
/-- Quiet operations, in the order of the text. -/
def opsQ (c : Cfg) (ops : Array Oper) : List Oper → List (Nat × D) → List E → (List (Nat × D) → Option R) → Option R
  | [], T, H, K => K T
  | o :: rest, T, H, K => match o.guard with
    | none => opQ c o T H fun d => opsQ c ops rest (putT T o.dst d) H K
    | some (j, want) => match (ops[j]?).bind (·.dst) with
      | some g => match look T g with
        | some (.val .bool b) =>
          bif b then (bif want then opQ c o ((g, .val .bool true) :: T) H fun d => opsQ c ops rest (putT ((g, .val .bool true) :: T) o.dst d) H K else opsQ c ops rest (putT ((g, .val .bool true) :: T) o.dst unD) H K)
          else (bif want then opsQ c ops rest (putT ((g, .val .bool false) :: T) o.dst unD) H K else opQ c o ((g, .val .bool false) :: T) H fun d => opsQ c ops rest (putT ((g, .val .bool false) :: T) o.dst d) H K)
        | some (.tup []) => opsQ c ops rest (putT T o.dst unD) H K
        | _ => none
      | none => none
/-- Where a region's order is left open: the first m operations are quiet, none reads what another one fills but behind it, and each later one waits for all before it. -/
def onlyAfter (md : Region.Mode) (o : Oper) (i : Nat) : Bool := o.after.any fun e => Region.binds md e && Nat.beq e.on i
def backOnly (md : Region.Mode) (o : Oper) (i : Nat) : Bool := o.after.all fun e => !(Region.binds md e) || decide (e.on < i)
def pairOk (md : Region.Mode) (ops : Array Oper) (i j : Nat) (a b : Oper) : Bool :=
  (match a.dst with
   | some d => (!(b.looksAt ops).contains d || onlyAfter md b i || onlyAfter md a j) && b.dst != some d
   | none => true)
def headOk (md : Region.Mode) (ops : Array Oper) (m : Nat) : Bool :=
  (List.range m).all fun i => (List.range m).all fun j => Nat.beq i j || match ops[i]?, ops[j]? with
    | some a, some b => pairOk md ops i j a b
    | _, _ => false
def tailOk (md : Region.Mode) (ops : Array Oper) (m : Nat) : Bool :=
  (List.range ops.size).all fun j => match ops[j]? with
    | some b => backOnly md b j && (Nat.blt j m || (List.range j).all fun i => onlyAfter md b i)
    | none => false
/-- Operations that add entries: they may stand among quiet ones where a region's order is left open. -/
def heavyO (c : Cfg) (o : Oper) : Bool :=
  match o.op with
  | .alloc _ | .box _ _ | .buildSlice _ _ _ | .makeSlice _ _ _ => true
  | .call k => match k.callee with
    | .value (.func f) => match c.con f with | some _ => true | none => false
    | _ => false
  | _ => false
def headN (c : Cfg) : List Oper → Nat
  | [] => 0
  | o :: r => match o.guard with
    | none => bif quietO c o || heavyO c o then headN c r + 1 else 0
    | some _ => 0
/-- The entries that an operation's operands name. -/
def idsO (c : Cfg) (T : List (Nat × D)) (o : Oper) : List Nat := o.op.operands.toList.flatMap fun x => match opd c T x with | some d => d.ids | none => []
/-- Quiet operations and such as add entries, in the order of the text; the log: which of them adds, and what its operands name. -/
noncomputable def headK (c : Cfg) (h : Hint) : List Oper → Nat → List (Nat × D) → List E → List (Nat × Bool × List Nat) → (List (Nat × D) → List E → List (Nat × Bool × List Nat) → Option R) → Option R
  | [], _, T, H, g, K => K T H g
  | o :: r, i, T, H, g, K => match o.guard with
    | some _ => none
    | none =>
      bif (idsO c T o).all (fun id => Nat.blt id H.length) then
        bif quietO c o then opQ c o T H fun d => headK c h r (i + 1) (putT T o.dst d) H ((i, false, idsO c T o) :: g) K
        else bif heavyO c o then opK c h o T H fun _ H2 d => headK c h r (i + 1) (putT T o.dst d) H2 ((i, true, idsO c T o) :: g) K
        else none
      else none
/-- What an operation waits for, itself or through others: a bit each. -/
def maskO (md : Region.Mode) (ms : List Nat) (o : Oper) : Nat :=
  o.after.toList.foldr (fun e r => bif Region.binds md e then Nat.lor (Nat.lor (Nat.pow 2 e.on) ((ms[e.on]?).getD 0)) r else r) 0
def masks (md : Region.Mode) : List Oper → List Nat → List Nat
  | [], ms => ms
  | o :: r, ms => masks md r (ms ++ [maskO md ms o])
def waits (ms : List Nat) (j i : Nat) : Bool := Nat.testBit ((ms[j]?).getD 0) i
/-- Each that adds waits for those before it; a quiet one names no entry of one that it is free of. -/
def okLog (ms : List Nat) (g : List (Nat × Bool × List Nat)) : Bool :=
  g.all fun a => g.all fun b =>
    (a.2.1 || (!b.2.1 || (waits ms a.1 b.1 || (waits ms b.1 a.1 || a.2.2.all fun id => !(b.2.2.contains id))))) && (!(a.2.1 && (b.2.1 && Nat.blt a.1 b.1)) || waits ms b.1 a.1)
def tail2 (md : Region.Mode) (ops : Array Oper) (m : Nat) (ms : List Nat) : Bool :=
  (List.range ops.size).all fun j => match ops[j]? with
    | some b => backOnly md b j && (Nat.blt j m || (List.range j).all fun i => waits ms j i)
    | none => false
inductive Ex where
  | nrm
  | exit (id : Nat)
  | ret
def firstRegion : Code → Nat
  | .region id _ _ => id
  | .seq a _ => firstRegion a
  | .block _ b => firstRegion b
  | .loop b => firstRegion b
  | .scope b => firstRegion b
  | _ => 0
def keepT (T : List (Nat × D)) : List Nat → List (Nat × D)
  | [] => []
  | t :: r => match look T t with
    | some d => (t, d) :: keepT T r
    | none => keepT T r
def refsT (p : Nat → Bool) : List (Nat × D) → Bool
  | [] => false
  | x :: r => x.2.refs p || refsT p r
def refsE (p : Nat → Bool) : List E → Bool
  | [] => false
  | .box cs :: r => refsL p cs || refsE p r
  | .det _ _ _ _ hs :: r => hsRefs p hs || refsE p r
  | _ :: r => refsE p r
/-- The state as a loop's round begins: slots that are wanted on, and the entries that were there before the loop. -/
def roundK (keep : List Nat) (n : Nat) (T : List (Nat × D)) (H : List E) (K : List (Nat × D) → List E → Option R) : Option R :=
  let T2 := keepT T keep
  let H2 := H.take n
  bif refsT (Nat.ble n) T2 || refsE (Nat.ble n) H2 then none else K T2 H2
/-- Goes on, if there is any round to spend. -/
def blk (n : Nat) (f : List (Nat × D) → List E → Option R) (T : List (Nat × D)) (H : List E) : Option R :=
  match n with
  | 0 => none
  | _ + 1 => f T H
/-- The same, of an answer. -/
def pass (n : Nat) (x : Option R) : Option R :=
  match n with
  | 0 => none
  | _ + 1 => x
theorem blk_eq (n : Nat) (f : List (Nat × D) → List E → Option R) (T : List (Nat × D)) (H : List E) : blk n f T H = pass n (f T H) := by cases n <;> rfl
/-- A join keeps the caller's entries. -/
def jn (nf : Nat) (j : Option (List Nat × Nat)) : Option (List Nat × Nat) :=
  match j with
  | none => none
  | some (k, m) => some (k, bif Nat.ble nf m then m else nf)
/-- Where ways meet. -/
def joinK (j : Option (List Nat × Nat)) (n : Nat) (f : List (Nat × D) → List E → Option R) : List (Nat × D) → List E → Option R :=
  match j with
  | none => f
  | some (keep, m) => fun T H => roundK keep m T H (blk n f)
/-- What follows a round. -/
def againK (keep : List Nat) (m : Nat) (again : List (Nat × D) → List E → Option R) (K : Ex → List (Nat × D) → List E → Option R) : Ex → List (Nat × D) → List E → Option R
  | .nrm, T, H => roundK keep m T H again
  | .exit i, T, H => K (.exit i) T H
  | .ret, T, H => K .ret T H
def iterK (g : List (Nat × D) → List E → (Ex → List (Nat × D) → List E → Option R) → Option R) (keep : List Nat) (m : Nat) (K : Ex → List (Nat × D) → List E → Option R) : Nat → List (Nat × D) → List E → Option R
  | 0, _, _ => none
  | n + 1, T, H => g T H (againK keep m (iterK g keep m K n) K)
/-- What follows a part of a sequence; a block. -/
def seqK (next : List (Nat × D) → List E → Option R) (K : Ex → List (Nat × D) → List E → Option R) : Ex → List (Nat × D) → List E → Option R
  | .nrm, T, H => next T H
  | .exit i, T, H => K (.exit i) T H
  | .ret, T, H => K .ret T H
def blockK (id : Nat) (K : Ex → List (Nat × D) → List E → Option R) : Ex → List (Nat × D) → List E → Option R
  | .nrm, T, H => K .nrm T H
  | .exit i, T, H => bif Nat.beq i id then K .nrm T H else K (.exit i) T H
  | .ret, T, H => K .ret T H
/-- Nil slices of slots, of variables' cells, become owned ones (without a row as yet). -/
def iniT : List (Nat × Ty) → List (Nat × D) → List E → List (Nat × D) × List E
  | [], T, H => (T, H)
  | (t, ty) :: r, T, H => match look T t with
    | some (.imm (.slice none 0 0)) => iniT r ((t, .ow H.length) :: T) (H ++ [.arr ty []])
    | _ => iniT r T H
def iniB : List (Nat × Nat × Ty) → List E → List E
  | [], H => H
  | (id, off, ty) :: r, H => match H[id]? with
    | some (.box cs) => match cs[off]? with
      | some (.imm (.slice none 0 0)) => iniB r (H.set id (.box (cs.set off (.ow H.length))) ++ [.arr ty []])
      | _ => iniB r H
    | _ => iniB r H
/-- Rows of which nothing is owned as yet; rows that are owned wholly. -/
def iniM : List (Nat × Ty) → List E → List E
  | [], H => H
  | (id, t) :: r, H => match H[id]? with
    | some (.arr t2 l) => iniM r (if h : t2 = t.strip then H.set id (.mix t (castDen (a := .sl true t2) (b := .sl true t) (by simp [Ty.strip, h, Ty.strip_strip]) l) 0) else H)
    | _ => iniM r H
def finM : List (Nat × Ty) → List E → (List E → Option R) → Option R
  | [], H, K => K H
  | (id, _) :: r, H, K => match H[id]? with
    | some (.mix t l n) => if n = l.length then finM r (H.set id (.arr t l)) K else none
    | _ => finM r H K
def mixK (l : List (Nat × Ty)) (K : Ex → List (Nat × D) → List E → Option R) : Ex → List (Nat × D) → List E → Option R :=
  match l with
  | [] => K
  | l => fun ex T H => match ex with
    | .exit i => finM l H fun H => K (.exit i) T H
    | ex => K ex T H
noncomputable def regionK (c : Cfg) (h : Hint) (ops : Array Oper) (draw : Bool) (T : List (Nat × D)) (H : List E) (K : List (Nat × D) → List E → Option R) : Option R :=
  bif draw then
    bif headOk .any ops (quietN c ops.toList) && tailOk .any ops (quietN c ops.toList) && Region.seqB .any ops (ops.size - quietN c ops.toList) (quietN c ops.toList) (Array.replicate (quietN c ops.toList) true ++ Array.replicate (ops.size - quietN c ops.toList) false) then
      opsQ c ops (ops.toList.take (quietN c ops.toList)) T H fun T => opsK c h ops (ops.toList.drop (quietN c ops.toList)) T H K
    else
      bif headOk .any ops (headN c ops.toList) && tail2 .any ops (headN c ops.toList) (masks .any ops.toList []) && Region.seqB .any ops (ops.size - headN c ops.toList) (headN c ops.toList) (Array.replicate (headN c ops.toList) true ++ Array.replicate (ops.size - headN c ops.toList) false) then
        headK c h (ops.toList.take (headN c ops.toList)) 0 T H [] fun T H g => bif okLog (masks .any ops.toList []) g then opsK c h ops (ops.toList.drop (headN c ops.toList)) T H K else none
      else none
  else opsK c h ops ops.toList T H K
noncomputable def codeK (c : Cfg) (h : Hint) (n : Nat) : Code → List (Nat × D) → List E → (Ex → List (Nat × D) → List E → Option R) → Option R
  | .skip, T, H, K => K .nrm T H
  | .region _ ops draw, T, H, K => regionK c h ops draw T H fun T H => K .nrm T H
  | .seq a b, T, H, K => codeK c h n a T H (seqK (joinK (jn c.nfix (h.join (firstRegion b))) n fun T H => codeK c h n b T H K) K)
  | .cond x a b, T, H, K => match x with
    | .tmp t => match look T t with
      | some (.val .bool v) => bif v then codeK c h n a ((t, .val .bool true) :: T) H K else codeK c h n b ((t, .val .bool false) :: T) H K
      | _ => none
    | .const (.bool v) => bif v then codeK c h n a T H K else codeK c h n b T H K
    | _ => none
  | .block id b, T, H, K => codeK c h n b T H (blockK id K)
  | .loop b, T, H, K =>
    let s := iniT (h.ini (firstRegion b)) T (iniB (h.inib (firstRegion b)) (iniM (h.mix (firstRegion b)) H))
    roundK (h.keep (firstRegion b)) s.2.length s.1 s.2 (iterK (fun T H K => codeK c h n b T H K) (h.keep (firstRegion b)) s.2.length (mixK (h.mix (firstRegion b)) K) n)
  | .exit id, T, H, K => K (.exit id) T H
  | .ret, T, H, K => K .ret T H
  | _, _, _, _ => none
/-- What a function's result slots hold. -/
def resD (c : Cfg) (T : List (Nat × D)) (H : List E) : List ResultVar → Option (List D)
  | [] => some []
  | .tmp t :: r => (look T t).bind fun d => (resD c T H r).bind fun ds => some (d :: ds)
  | .cell a t :: r => match c.ti t, look T a with
    | some i, some (.bp id off) => match H[id]? with
      | some (.box cs) => (mkVal i ((cs.drop off).take i.size)).bind fun d => (resD c T H r).bind fun ds => some (d :: ds)
      | _ => none
    | _, _ => none
def mvRs (rs : Rs) (ds : List D) (H : List E) : Option rs.den :=
  match rs, ds with
  | .one s, [d] => match mvSh s d H with | some (x, _) => some x | none => none
  | .tup ss, ds => bif Nat.beq ds.length 1 then none else match mvShs ss ds H with | some (x, _) => some x | none => none
  | _, _ => none
end
def argT : Nat → List D → List (Nat × D)
  | _, [] => []
  | i, d :: r => (i, d) :: argT (i + 1) r
def argSh (s : Sh) (x : s.ty.den) : D := match s, x with
  | .agg t, x => .agg (cells t x)
  | .one t, x => match cells t x with | [d] => d | _ => .no
def argShs : (ss : List Sh) → Shs.den ss → List D
  | [], _ => []
  | s :: r, x => argSh s x.1 :: argShs r x.2
/-- What follows a function's body. -/
def endK {R : Type} (c : Cfg) (fn : Func) (f : List D → List E → Option R) : Ex → List (Nat × D) → List E → Option R
  | .exit _, _, _ => none
  | .nrm, T, H => (resD c T H fn.results.toList).bind fun ds => f ds H
  | .ret, T, H => (resD c T H fn.results.toList).bind fun ds => f ds H
/-- A function's answer, n rounds at most in each loop. -/
noncomputable def evF (c : Cfg) (h : Hint) (fn : Func) (as : List Sh) (rs : Rs) (n : Nat) (x : Shs.den as) : Option rs.den :=
  match fn.body with
  | some b => codeK c h n b (argT 0 (argShs as x)) [] (endK c fn (mvRs rs))
  | none => none
/-- The way to a part of a code. -/
inductive Way where
  | a | b
def codeAt : List Way → Code → Code
  | [], x => x
  | .a :: r, .seq x _ => codeAt r x
  | .b :: r, .seq _ y => codeAt r y
  | .a :: r, .cond _ x _ => codeAt r x
  | .b :: r, .cond _ _ y => codeAt r y
  | _ :: r, .block _ x => codeAt r x
  | _ :: r, .loop x => codeAt r x
  | _ :: r, .scope x => codeAt r x
  | _, x => x
/-- What follows the part of a code at the end of a way; 'outer': what follows the round of each loop on the way. -/
noncomputable def kontK {R : Type} (c : Cfg) (h : Hint) (n : Nat) (K : Ex → List (Nat × D) → List E → Option R) : List Way → Code → List (Nat × (List (Nat × D) → List E → Option R)) → Ex → List (Nat × D) → List E → Option R
  | .a :: r, .seq x y, o => kontK c h n (seqK (joinK (jn c.nfix (h.join (firstRegion y))) n fun T H => codeK c h n y T H K) K) r x o
  | .b :: r, .seq _ y, o => kontK c h n K r y o
  | .a :: r, .cond _ x _, o => kontK c h n K r x o
  | .b :: r, .cond _ _ y, o => kontK c h n K r y o
  | _ :: r, .block id x, o => kontK c h n (blockK id K) r x o
  | _ :: r, .loop x, (m, f) :: o => kontK c h n (againK (h.keep (firstRegion x)) m f (mixK (h.mix (firstRegion x)) K)) r x o
  | _, _, _ => K
/-- The part of a code at the end of a way, and what follows it. -/
noncomputable def partAt {R : Type} (c : Cfg) (h : Hint) (n : Nat) (K : Ex → List (Nat × D) → List E → Option R) (w : List Way) (b : Code) (o : List (Nat × (List (Nat × D) → List E → Option R))) : List (Nat × D) → List E → Option R :=
  fun T H => codeK c h n (codeAt w b) T H (kontK c h n K w b o)
/-- The same, as a join comes to it. -/
noncomputable def joinAt {R : Type} (c : Cfg) (h : Hint) (n : Nat) (K : Ex → List (Nat × D) → List E → Option R) (w : List Way) (b : Code) (o : List (Nat × (List (Nat × D) → List E → Option R))) : List (Nat × D) → List E → Option R :=
  blk n (partAt c h n K w b o)
theorem joinAt_eq {R : Type} {c : Cfg} {h : Hint} {n : Nat} {K : Ex → List (Nat × D) → List E → Option R} {w : List Way} {b : Code} {o : List (Nat × (List (Nat × D) → List E → Option R))} {T : List (Nat × D)} {H : List E} {x : Option R} (e : partAt c h n K w b o T H = x) : joinAt c h n K w b o T H = pass n x := by
  rw [← e]; exact blk_eq _ _ _ _
/-- A loop of a code, at the end of a way. -/
noncomputable def loopAt {R : Type} (c : Cfg) (h : Hint) (n : Nat) (K : Ex → List (Nat × D) → List E → Option R) (w : List Way) (b : Code) (o : List (Nat × (List (Nat × D) → List E → Option R))) (m : Nat) : Nat → List (Nat × D) → List E → Option R :=
  match codeAt w b with
  | .loop x => iterK (fun T H K => codeK c h n x T H K) (h.keep (firstRegion x)) m (mixK (h.mix (firstRegion x)) (kontK c h n K w b o))
  | _ => fun _ _ _ => none
end Go.Eng
/- What the evaluator's answers mean: contracts, the setting's conditions, a frame's slots. -/
namespace Go.Eng
open Go.RowKit
set_option linter.unusedVariables false
section
variable (P : Program)
/-- What the evaluator knows of a type holds. -/
structure TIok (t : TypeId) (i : TI) : Prop where
  info : (P.info? t).map (fun j => (j.zero.map (fun v => v.cells.toList), j.size, j.bytes)) = some (some i.zero, i.size, i.bytes)
  desc : match i.kind with
    | .cell => ∃ d, P.underlying t = some d ∧ (match d with | .struct _ | .array _ _ => False | _ => True) ∧ (∀ k, i.ty = .int k → d = .int k) ∧ (i.ty = .str → d = .string) ∧ (i.ty = .bool → d = .bool) ∧ (∀ ms, d = .interface ms → False)
    | .iface => ∃ ms, P.underlying t = some (.interface ms)
    | .slice e => P.underlying t = some (.slice e)
    | .struct fs => ∃ fields : Array Field, P.underlying t = some (.struct fields) ∧ fields.size = fs.length ∧ ∀ (j : Nat) f, fields[j]? = some f → ∃ b, fs[j]? = some (f.offset, b) ∧ (P.info? f.type).map (·.size) = some b.1 ∧ ∃ d, P.underlying f.type = some d ∧ b.2 = (match d with | .struct _ | .array _ _ => true | _ => false)
  zero : i.zero.length = i.size
  zeros : zeros i.ty = i.zero
end
/-- A value of a shape. -/
def RSh (w : World) (S : Nat → Prop) (o : Bool) (s : Sh) (ok : Nat → Prop) (v : Value) (x : s.ty.den) : Prop :=
  match s, x with
  | .one t, x => t.width = 1 ∧ RT w S o t ok [v] x
  | .agg t, x => ∃ arr : Array Value, v = .agg arr ∧ RT w S o t ok arr.toList x
def RArgs (w : World) (S : Nat → Prop) : (ss : List Sh) → List Value → Shs.den ss → Prop
  | [], vs, _ => vs = []
  | s :: r, vs, x => ∃ (v : Value) (vr : List Value), vs = v :: vr ∧ RSh w S false s (fun _ => False) v x.1 ∧ RArgs w S r vr x.2
def RTup (w : World) (S : Nat → Prop) : (ss : List Sh) → (Nat → Prop) → List Value → Shs.den ss → Prop
  | [], _, vs, _ => vs = []
  | s :: r, ok, vs, x => ∃ (p : Nat → Prop) (v : Value) (vr : List Value), vs = v :: vr ∧ RSh w S true s (fun k => ok k ∧ p k) v x.1 ∧ RTup w S r (fun k => ok k ∧ ¬ p k) vr x.2
def RRes (w : World) (S : Nat → Prop) (rs : Rs) (ok : Nat → Prop) (v : Value) (x : rs.den) : Prop :=
  match rs, x with
  | .one s, x => RSh w S true s ok v x
  | .tup ss, x => ss.length ≠ 1 ∧ ∃ arr : Array Value, v = .tuple arr ∧ RTup w S ss ok arr.toList x
/-- Package-level variables that are only read. -/
def GlOk (gl : Nat → Option (List D)) (w : World) (S : Nat → Prop) : Prop :=
  ∀ g cs, gl g = some cs → ∀ β, RD w S β (.pointer (some ⟨g, 0, none⟩)) (.fp cs)
/-- A contract: the function may be called, and where X answers y it returns what reads as y; old memory is as it was; what is owned of the result is new, each slice by itself. -/
structure PFun (P : Program) (gl : Nat → Option (List D)) (f : FuncId) (as : List Sh) (rs : Rs) (X : Shs.den as → Option rs.den) : Prop where
  func : ∃ fn, P.funcs[f]? = some fn ∧ fn.body.isNone = false ∧ (fn.name == "runtime.NumGoroutine") = false
  call : ∀ (w : World) (S : Nat → Prop) (args : Array Value) (x : Shs.den as) (y : rs.den), (∀ k, S k → k < w.heap.size) → GlOk gl w S → RArgs w S as args.toList x → X x = some y →
    Calls P f args w fun e w' => ∃ (v : Value) (ok : Nat → Prop), e = .returned v ∧ Below w.heap.size w w' ∧ (∀ k, ok k → w.heap.size ≤ k ∧ k < w'.heap.size) ∧
      RRes w' (fun k => S k ∨ (w.heap.size ≤ k ∧ k < w'.heap.size ∧ ¬ ok k)) rs ok v y
/-- The contract of a function that writes into what its arguments own (blocks of ok0): they hold x' then; all other old memory is as it was. -/
structure PMut (P : Program) (gl : Nat → Option (List D)) (f : FuncId) (as : List Sh) (rs : Rs) (X : Shs.den as → Option (rs.den × Shs.den as)) : Prop where
  func : ∃ fn, P.funcs[f]? = some fn ∧ fn.body.isNone = false ∧ (fn.name == "runtime.NumGoroutine") = false
  call : ∀ (w : World) (S ok0 : Nat → Prop) (args : Array Value) (x : Shs.den as) (y : rs.den) (x' : Shs.den as), (∀ k, S k → k < w.heap.size ∧ ¬ ok0 k) → (∀ k, ok0 k → k < w.heap.size) → GlOk gl w S → RTup w S as ok0 args.toList x → X x = some (y, x') →
    Calls P f args w fun e w' => ∃ (v : Value) (ok1 ok2 : Nat → Prop), e = .returned v ∧ Bel (fun k => k < w.heap.size ∧ ¬ ok0 k) w w' ∧ (∀ k, ok1 k ∨ ok2 k → k < w'.heap.size ∧ (k < w.heap.size → ok0 k)) ∧ (∀ k, ok1 k → ¬ ok2 k) ∧
      RRes w' (fun k => S k ∨ (k < w'.heap.size ∧ (k < w.heap.size → ok0 k) ∧ ¬ ok1 k ∧ ¬ ok2 k)) rs ok2 v y ∧ RTup w' (fun k => S k ∨ (k < w'.heap.size ∧ (k < w.heap.size → ok0 k) ∧ ¬ ok1 k ∧ ¬ ok2 k)) as ok1 args.toList x'
structure CfgOk (P : Program) (c : Cfg) : Prop where
  mixed : P.follows .mixedOrders = true
  ti : ∀ t i, c.ti t = some i → TIok P t i
  con : ∀ f k, c.con f = some k → PFun P c.gl f k.as k.rs k.fn
  mu : ∀ f k, c.mu f = some k → PMut P c.gl f k.as k.rs k.fn
  eqt : ∀ t ks, c.eqt t = some ks → eqKinds P 64 t = some ks ∧ (∃ fs, P.underlying t = some (.struct fs)) ∧ P.eqGuardType P.depth t = false
  meth : ∀ t name f, c.meth t name = some f → ∀ v w, (method (P.types.size + Made.depth) t v name).run P w = .ok (f, v) w
/-- The slots hold what T says. -/
def RTm (w : World) (S : Nat → Prop) (β : Nat → Real) (tmps : Array Value) (T : List (Nat × D)) : Prop :=
  ∀ t d, look T t = some d → ∃ v, tmps[t]? = some v ∧ RD w S β v d
section
variable {w w' : World} {S S' : Nat → Prop} {β β' : Nat → Real} {tmps : Array Value} {T : List (Nat × D)}
theorem look_put (T : List (Nat × D)) (t t2 : Nat) (d : D) : look ((t, d) :: T) t2 = if t = t2 then some d else look T t2 := by
  show (bif Nat.beq t t2 then some d else look T t2) = _
  by_cases h : t = t2
  · subst h; rw [if_pos rfl, Nat.beq_refl]; rfl
  · rw [if_neg h]
    cases hb : Nat.beq t t2 with
    | true => exact absurd (Nat.eq_of_beq_eq_true hb) h
    | false => rfl
theorem RTm.put (h : RTm w S β tmps T) {t : Nat} {v : Value} {d : D} (ht : t < tmps.size) (hd : RD w S β v d) : RTm w S β (tmps.setIfInBounds t v) ((t, d) :: T) := by
  intro t2 d2 h2
  rw [look_put] at h2
  split at h2
  · rename_i e
    subst e
    cases h2
    exact ⟨v, by simp [ht], hd⟩
  · rename_i e
    obtain ⟨v2, h3, h4⟩ := h t2 d2 h2
    exact ⟨v2, by rw [Array.getElem?_setIfInBounds_ne e]; exact h3, h4⟩
/-- A slot that T does not speak of may hold whatever it holds. -/
theorem RTm.mono (h : RTm w S β tmps T) (hm : ∀ v d, RD w S β v d → RD w' S' β' v d) : RTm w' S' β' tmps T := fun t d ht => by
  obtain ⟨v, h1, h2⟩ := h t d ht
  exact ⟨v, h1, hm v d h2⟩
/-- A slot whose value is told anew (the same value, otherwise said). -/
theorem RTm.say (h : RTm w S β tmps T) {t : Nat} {v : Value} {d : D} (ht : tmps[t]? = some v) (hd : RD w S β v d) : RTm w S β tmps ((t, d) :: T) := by
  intro t2 d2 h2
  rw [look_put] at h2
  split at h2
  · rename_i e
    subst e
    cases h2
    exact ⟨v, ht, hd⟩
  · exact h t2 d2 h2
end
theorem vD_RD {w : World} {S : Nat → Prop} {β : Nat → Real} {v : Value} {d : D} (h : vD v = some d) : RD w S β v d ∧ one v = true := by
  unfold vD at h
  split at h
  · cases h; exact ⟨.val (by rw [RT]), rfl⟩
  · cases h; exact ⟨.val (by rw [RT]), rfl⟩
  · cases h; exact ⟨.val (by rw [RT]), rfl⟩
  · cases hp : plain v with
    | true => rw [hp] at h; cases h; exact ⟨.imm hp, plain_one hp⟩
    | false => rw [hp] at h; cases h
theorem vDs_RD {w : World} {S : Nat → Prop} {β : Nat → Real} : ∀ {vs : List Value} {ds : List D}, vDs vs = some ds → vs.length = ds.length ∧ ∀ (i : Nat) x d, vs[i]? = some x → ds[i]? = some d → RD w S β x d ∧ one x = true
  | [], ds, h => by cases h; exact ⟨rfl, fun i x d hx => by simp at hx⟩
  | v :: r, ds, h => by
    simp only [vDs, Option.bind_eq_some_iff] at h
    obtain ⟨d, h1, es, h2, h3⟩ := h
    cases h3
    obtain ⟨hl, hr⟩ := vDs_RD (w := w) (S := S) (β := β) h2
    refine ⟨by simp [hl], fun i x d2 hx hd => ?_⟩
    cases i with
    | zero => simp at hx hd; subst hx; subst hd; exact vD_RD h1
    | succ i => exact hr i x d2 (by simpa using hx) (by simpa using hd)
/-- An operand's value. -/
theorem opd_RD {c : Cfg} {w : World} {S : Nat → Prop} {β : Nat → Real} {a : Act} {T : List (Nat × D)} (hT : RTm w S β a.tmps T) (hg : GlOk c.gl w S) {x : Operand} {d : D} (h : opd c T x = some d) : RD w S β (a.eval x) d := by
  unfold opd at h
  split at h
  · rename_i t
    obtain ⟨v, h1, h2⟩ := hT t d h
    show RD w S β (a.tmps.getD t undef) d
    rw [Array.getD_eq_getD_getElem?, h1]
    exact h2
  · rename_i cs
    rw [Option.map_eq_some_iff] at h
    obtain ⟨ds, h1, rfl⟩ := h
    obtain ⟨hl, hr⟩ := vDs_RD (w := w) (S := S) (β := β) h1
    refine .agg (by simpa using hl) (fun i x hx => ?_) (fun i x d hx hd => (hr i x d (by simpa using hx) hd).1)
    have hi : i < ds.length := by
      have := (Array.getElem?_eq_some_iff.1 hx).1
      rw [← hl]; simpa using this
    exact (hr i x ds[i] (by simpa using hx) (List.getElem?_eq_getElem hi)).2
  · exact (vD_RD h).1
  · cases h
    exact .fn (by rfl) (fun i x d hx => by simp at hx)
  · rename_i g
    rw [Option.map_eq_some_iff] at h
    obtain ⟨cs, h1, rfl⟩ := h
    exact hg g cs h1 β
end Go.Eng
/- Quiet operations: the evaluator's word holds. -/
namespace Go.Eng
open Go.RowKit
set_option linter.unusedVariables false
set_option linter.unusedSimpArgs false
set_option linter.unusedSectionVars false
section
variable {w : World} {S : Nat → Prop} {β : Nat → Real} {v : Value}
theorem RD_int {k : IntKind} {x : Int} (h : RD w S β v (.val (.int k) x)) : v = .int k x := by cases h with | val h => rw [RT] at h; simpa using h
theorem RD_bool {x : Bool} (h : RD w S β v (.val .bool x)) : v = .bool x := by cases h with | val h => rw [RT] at h; simpa using h
theorem RD_str {x : ByteArray} (h : RD w S β v (.val .str x)) : v = .string x := by cases h with | val h => rw [RT] at h; simpa using h
theorem RD_mkInt (k : IntKind) (x : Int) : RD w S β (.int k x) (.val (.int k) x) := .val (by rw [RT])
theorem RD_mkBool (x : Bool) : RD w S β (.bool x) (.val .bool x) := .val (by rw [RT])
theorem RD_mkStr (x : ByteArray) : RD w S β (.string x) (.val .str x) := .val (by rw [RT])
theorem RD_sl {o : Bool} {t : Ty} {l : List t.den} (h : RD w S β v (.val (.sl o t) l)) : ∃ (A : Option Addr) (cap : Nat), v = .slice A l.length cap ∧ l.length ≤ cap ∧
    (l ≠ [] → ∃ ad : Addr, A = some ad ∧ S ad.block ∧ ∀ j x, l[j]? = some x → ∃ c : List Value, (∀ i v, c[i]? = some v → w.cell? (ad.add (j * t.width + i)) = some v) ∧ RT w S false t (fun _ => False) c x) := by
  cases h with
  | val h =>
    rw [RT] at h
    obtain ⟨A, cap, h1, h2, h3⟩ := h
    rw [Bool.and_false, if_neg (by simp)] at h3
    exact ⟨A, cap, by simpa using h1, h2, h3⟩
theorem RD_bp {id off : Nat} (h : RD w S β v (.bp id off)) : ∃ g, β id = .box g ∧ v = .pointer (some ⟨g, off, none⟩) := by cases h with | bp h => exact ⟨_, h, rfl⟩
theorem RD_ap {id j c : Nat} (h : RD w S β v (.ap id j c)) : ∃ ad n cap wd, β id = .arr (some ad) n cap wd ∧ v = .pointer (some (ad.add (j * wd + c))) := by cases h with | ap h => exact ⟨_, _, _, _, h, rfl⟩
theorem RD_ow {id : Nat} (h : RD w S β v (.ow id)) : ∃ A n cap wd, β id = .arr A n cap wd ∧ v = .slice A n cap := by cases h with | ow h => exact ⟨_, _, _, _, h, rfl⟩
theorem RD_fp {cs : List D} (h : RD w S β v (.fp cs)) : ∃ (ad : Addr) (xs : Nat → Value), v = .pointer (some ad) ∧ S ad.block ∧ (∀ (i : Nat) d, cs[i]? = some d → w.cell? (ad.add i) = some (xs i) ∧ one (xs i) = true) ∧ (∀ (i : Nat) d, cs[i]? = some d → RD w S β (xs i) d) := by
  cases h with | fp xs hs hx hr => exact ⟨_, xs, rfl, hs, hx, hr⟩
theorem RD_agg {ds : List D} (h : RD w S β v (.agg ds)) : ∃ arr : Array Value, v = .agg arr ∧ arr.size = ds.length ∧ (∀ (i : Nat) x, arr[i]? = some x → one x = true) ∧ ∀ (i : Nat) x d, arr[i]? = some x → ds[i]? = some d → RD w S β x d := by
  cases h with | agg hl ho hr => exact ⟨_, rfl, hl, ho, hr⟩
theorem RD_tup {ds : List D} (h : RD w S β v (.tup ds)) : ∃ arr : Array Value, v = .tuple arr ∧ arr.size = ds.length ∧ ∀ (i : Nat) x d, arr[i]? = some x → ds[i]? = some d → RD w S β x d := by
  cases h with | tup hl hr => exact ⟨_, rfl, hl, hr⟩
theorem RD_ifc {t : TypeId} {d : D} (h : RD w S β v (.ifc t d)) : ∃ u, v = .iface t u ∧ RD w S β u d := by cases h with | ifc h => exact ⟨_, rfl, h⟩
theorem RD_fn {g : Fn} {caps : List D} (h : RD w S β v (.fn g caps)) : ∃ arr : Array Value, v = .func g #[] arr ∧ arr.size = caps.length ∧ ∀ (i : Nat) x d, arr[i]? = some x → caps[i]? = some d → RD w S β x d := by
  cases h with | fn hl hr => exact ⟨_, rfl, hl, hr⟩
theorem RD_imm {u : Value} (h : RD w S β v (.imm u)) : v = u ∧ plain u = true := by cases h with | imm h => exact ⟨rfl, h⟩
/-- A pure value's cells, one by one. -/
theorem cells_RD : ∀ (t : Ty) {ok : Nat → Prop} {cs : List Value} {x : t.den}, RT w S false t ok cs x → (cells t x).length = cs.length ∧ ∀ (i : Nat) u d, cs[i]? = some u → (cells t x)[i]? = some d → RD w S β u d
  | .unit, _, _, _, h => by rw [RT] at h; subst h; exact ⟨rfl, fun i u d hu => by simp at hu⟩
  | .int k, _, _, x, h => by
    have h0 := h
    rw [RT] at h; subst h
    refine ⟨rfl, fun i u d hu hd => ?_⟩
    cases i with
    | zero => simp [cells] at hu hd; subst hu; subst hd; exact RD_mkInt _ _
    | succ i => simp at hu
  | .bool, _, _, x, h => by
    rw [RT] at h; subst h
    refine ⟨rfl, fun i u d hu hd => ?_⟩
    cases i with
    | zero => simp [cells] at hu hd; subst hu; subst hd; exact RD_mkBool _
    | succ i => simp at hu
  | .str, _, _, x, h => by
    rw [RT] at h; subst h
    refine ⟨rfl, fun i u d hu hd => ?_⟩
    cases i with
    | zero => simp [cells] at hu hd; subst hu; subst hd; exact RD_mkStr _
    | succ i => simp at hu
  | .sl o t, _, _, x, h => by
    have h0 := h
    rw [RT] at h
    obtain ⟨A, cap, rfl, hc, _⟩ := h
    refine ⟨rfl, fun i u d hu hd => ?_⟩
    cases i with
    | zero =>
      simp [cells] at hu hd; subst hu; subst hd
      refine .val ?_
      rw [RT] at h0 ⊢
      simpa using h0
    | succ i => simp at hu
  | .pair a b, _, _, x, h => by
    rw [RT] at h
    obtain ⟨p, c1, c2, rfl, h1, h2⟩ := h
    obtain ⟨l1, r1⟩ := cells_RD a h1
    obtain ⟨l2, r2⟩ := cells_RD b h2
    refine ⟨by simp [cells, l1, l2], fun i u d hu hd => ?_⟩
    simp only [cells] at hd
    rcases Nat.lt_or_ge i c1.length with hi | hi
    · rw [List.getElem?_append_left hi] at hu
      rw [List.getElem?_append_left (by omega)] at hd
      exact r1 i u d hu hd
    · rw [List.getElem?_append_right hi] at hu
      rw [List.getElem?_append_right (by omega), l1] at hd
      exact r2 _ u d hu hd
end
theorem add_add2 (ad : Addr) (m n : Nat) : (ad.add m).add n = ad.add (m + n) := by
  unfold Addr.add
  by_cases h1 : m = 0
  · subst h1; simp
  · by_cases h2 : n = 0
    · subst h2; simp [h1]
    · rw [if_neg h2, if_neg h1, if_neg (by omega)]; simp [Nat.add_assoc]
theorem add_block (ad : Addr) (n : Nat) : (ad.add n).block = ad.block := by unfold Addr.add; split <;> rfl
/-- Behind this operation a value stands that d tells; old memory is as it was. -/
def QOk (P : Program) (S0 : Nat → Prop) (base : Nat → Prop) (L : Nat → Nat) (β : Nat → Real) (o : Oper) (a : Act) (w : World) (d : D) : Prop :=
  ∀ (next : Act → World → Prop) (Q : Exit → Act → World → Prop), (∀ w' v, Below w.heap.size w w' → RD w' (stab S0 base w' L) β v d → next (a.put o.dst v) w') → o.wp P a w next Q
section
variable {P : Program} {c : Cfg} {S0 : Nat → Prop} {base : Nat → Prop} {w : World} {L : Nat → Nat} {β : Nat → Real} {H : List E} {a : Act} {T : List (Nat × D)} {o : Oper} {R : Type} {r : R} {K : D → Option R}
theorem q_of {v : Value} {d : D} (hrun : (execOp a.eval o).run P w = .ok (.value v) w) (hd : RD w (stab S0 base w L) β v d) : QOk P S0 base L β o a w d := by
  intro next Q hn
  unfold Oper.wp
  rw [hrun, Oper.upon_value]
  exact hn w v (Below.refl _ _) hd
theorem run_v {x : Sem Value} {v : Value} {w' : World} (h : x.run P w = .ok v w') : (do pure (Next.value (← x)) : Sem Next).run P w = .ok (.value v) w' := by
  rw [Sem.run_bind, h]; rfl
theorem TIok.size_of {t : TypeId} {i : TI} (h : TIok P t i) (w : World) : (sizeOf t).run P w = .ok i.size w := by
  have hi := h.info
  cases hq : P.info? t with
  | none => rw [hq] at hi; simp at hi
  | some j =>
    rw [hq] at hi
    simp only [Option.map_some, Option.some.injEq, Prod.mk.injEq] at hi
    simp [sizeOf, typeInfo, hq, hi.2.1, program, Sem.run]
theorem TIok.bytes_of {t : TypeId} {i : TI} (h : TIok P t i) : ∃ j, (∀ w, (typeInfo t).run P w = .ok j w) ∧ j.bytes = i.bytes ∧ j.size = i.size ∧ ∃ z, j.zero = some z ∧ z.cells.toList = i.zero := by
  have hi := h.info
  cases hq : P.info? t with
  | none => rw [hq] at hi; simp at hi
  | some j =>
    rw [hq] at hi
    simp only [Option.map_some, Option.some.injEq, Prod.mk.injEq, Option.map_eq_some_iff] at hi
    obtain ⟨⟨z, hz, hz2⟩, h2, h3⟩ := hi
    exact ⟨j, fun w => by simp [typeInfo, hq, program, Sem.run], h3, h2, z, hz, hz2⟩
variable (hc : CfgOk P c) (hr : Rel S0 base w L β H) (hT : RTm w (stab S0 base w L) β a.tmps T) (hg : GlOk c.gl w (stab S0 base w L))
include hc hr hT hg
theorem q_move {x : Operand} (ho : o.op = .move x) (h : opQ c o T H K = some r) : ∃ d, K d = some r ∧ QOk P S0 base L β o a w d := by
  unfold opQ at h
  simp only [ho] at h
  split at h
  · rename_i d hd
    exact ⟨d, h, q_of (by unfold execOp; simp only [ho]; rfl) (opd_RD hT hg hd)⟩
  · cases h
theorem q_assign {x : Operand} (ho : o.op = .assign x) (h : opQ c o T H K = some r) : ∃ d, K d = some r ∧ QOk P S0 base L β o a w d := by
  unfold opQ at h
  simp only [ho] at h
  split at h
  · rename_i d hd
    exact ⟨d, h, q_of (by unfold execOp; simp only [ho]; rfl) (opd_RD hT hg hd)⟩
  · cases h
theorem q_pick {b x y : Operand} (ho : o.op = .pick b x y) (h : opQ c o T H K = some r) : ∃ d, K d = some r ∧ QOk P S0 base L β o a w d := by
  unfold opQ at h
  simp only [ho] at h
  split at h
  · rename_i t ht
    have hb := RD_bool (opd_RD hT hg ht)
    have hrun : (execOp a.eval o).run P w = .ok (.value (if t then a.eval x else a.eval y)) w := by
      unfold execOp; simp only [ho, hb]; rfl
    split at h
    · rename_i u v hu hv
      refine ⟨_, h, q_of hrun ?_⟩
      rw [RD_bool (opd_RD hT hg hu), RD_bool (opd_RD hT hg hv)]
      cases t <;> exact RD_mkBool _
    · cases t with
      | true =>
        simp only [cond_true] at h
        split at h
        · rename_i d hd
          exact ⟨d, h, q_of hrun (opd_RD hT hg hd)⟩
        · cases h
      | false =>
        simp only [cond_false] at h
        split at h
        · rename_i d hd
          exact ⟨d, h, q_of hrun (opd_RD hT hg hd)⟩
        · cases h
  · cases h
theorem q_nilCheck {x : Operand} (ho : o.op = .nilCheck x) (h : opQ c o T H K = some r) : ∃ d, K d = some r ∧ QOk P S0 base L β o a w d := by
  have fin : ∀ ad, a.eval x = .pointer (some ad) → (execOp a.eval o).run P w = .ok (.value (a.eval x)) w := fun ad e => by
    unfold execOp; simp only [ho, e]; rfl
  unfold opQ at h
  simp only [ho] at h
  split at h
  · rename_i id off hd
    obtain ⟨g, _, e⟩ := RD_bp (opd_RD hT hg hd)
    exact ⟨_, h, q_of (fin _ e) (opd_RD hT hg hd)⟩
  · rename_i id j k hd
    obtain ⟨ad, _, _, _, _, e⟩ := RD_ap (opd_RD hT hg hd)
    exact ⟨_, h, q_of (fin _ e) (opd_RD hT hg hd)⟩
  · rename_i cs hd
    obtain ⟨ad, _, e, _⟩ := RD_fp (opd_RD hT hg hd)
    exact ⟨_, h, q_of (fin _ e) (opd_RD hT hg hd)⟩
  · cases h
omit hc hr hT hg in
theorem binK_int {op : BinOp} {k k2 : IntKind} {x y : Int} {r' : Option R} (h : binK op (.val (.int k) x) (.val (.int k2) y) r' = some r) : r' = some r ∧ (op = .quo ∨ op = .rem → y ≠ 0) := by
  unfold binK at h
  cases op <;> simp only at h <;> first
    | (split at h
       · cases h
       · rename_i hy
         exact ⟨h, fun _ => hy⟩)
    | exact ⟨h, fun e => by rcases e with e | e <;> cases e⟩
omit hc hr hT hg in
theorem binK_str {op : BinOp} {x y : ByteArray} {r' : Option R} (h : binK op (.val .str x) (.val .str y) r' = some r) : r' = some r ∧ (op = .add → ¬ (((x.size + y.size : Nat) : Int) > IntKind.i64.max)) := by
  unfold binK at h
  cases op <;> simp only at h <;> first
    | (split at h
       · cases h
       · rename_i hy
         exact ⟨h, fun _ => hy⟩)
    | exact ⟨h, fun e => by cases e⟩
omit hc hr hT hg in
theorem binK_imp {op : BinOp} {a b : D} {r' : Option R} (h : binK op a b r' = some r) : r' = some r := by
  unfold binK at h
  split at h
  · split at h
    · split at h
      · cases h
      · exact h
    · split at h
      · cases h
      · exact h
    · exact h
  · split at h
    · split at h
      · cases h
      · exact h
    · exact h
  · exact h
omit hc hr hT hg in
theorem run_intBin {op : BinOp} {k : IntKind} {x y : Int} {d : D} (hz : op = .quo ∨ op = .rem → y ≠ 0) (h : intBin op k x y = some d) (t : TypeId) (b1 b2 : Operand) {S : Nat → Prop} : ∃ v, (do eqGuard op t b1 b2 (.int k x) (.int k y); binOp op t (.int k x) (.int k y) : Sem Value).run P w = .ok v w ∧ RD w S β v d := by
  have hg : (eqGuard op t b1 b2 (.int k x) (.int k y)).run P w = .ok () w := by
    unfold eqGuard
    split <;> rfl
  simp only [Sem.run_bind, hg, Result.andThen_ok]
  cases op <;> simp only [intBin] at h <;> try (cases h; done)
  all_goals first
    | (have hy := hz (.inl rfl)
       cases h
       refine ⟨.int k _, ?_, RD_mkInt _ _⟩
       simp only [binOp, Op.intDiv, ne_eq, not_true_eq_false, if_false, if_neg hy]
       rfl)
    | (have hy := hz (.inr rfl)
       cases h
       refine ⟨.int k _, ?_, RD_mkInt _ _⟩
       simp only [binOp, Op.intDiv, ne_eq, not_true_eq_false, if_false, if_neg hy]
       rfl)
    | (cases h; refine ⟨.int k _, ?_, RD_mkInt _ _⟩; simp only [binOp, Op.intArith, ne_eq, not_true_eq_false, if_false]; rfl)
    | (cases h; refine ⟨.bool _, ?_, RD_mkBool _⟩; simp only [binOp, Op.intCmp, ne_eq, not_true_eq_false, if_false]; rfl)
omit hc hr hT hg in
theorem run_strBin {op : BinOp} {x y : ByteArray} {d : D} (hz : op = .add → ¬ (((x.size + y.size : Nat) : Int) > IntKind.i64.max)) (h : strBin op x y = some d) (t : TypeId) (b1 b2 : Operand) {S : Nat → Prop} : ∃ v, (do eqGuard op t b1 b2 (.string x) (.string y); binOp op t (.string x) (.string y) : Sem Value).run P w = .ok v w ∧ RD w S β v d := by
  have hg : (eqGuard op t b1 b2 (.string x) (.string y)).run P w = .ok () w := by
    unfold eqGuard
    split <;> rfl
  simp only [Sem.run_bind, hg, Result.andThen_ok]
  cases op <;> simp only [strBin] at h <;> try (cases h; done)
  all_goals first
    | (have hy := hz rfl
       cases h
       exact ⟨_, by simp only [binOp, Op.stringOp]; rw [if_neg hy]; rfl, RD_mkStr _⟩)
    | (cases h; exact ⟨_, by simp only [binOp, Op.stringOp]; rfl, RD_mkBool _⟩)
omit hc hr hT hg in
theorem run_boolBin {t : TypeId} (ht : P.underlying t = some .bool) {op : BinOp} {x y : Bool} (b1 b2 : Operand) :
    (op = .eql → (do eqGuard op t b1 b2 (.bool x) (.bool y); binOp op t (.bool x) (.bool y) : Sem Value).run P w = .ok (.bool (x == y)) w) ∧
    (op = .neq → (do eqGuard op t b1 b2 (.bool x) (.bool y); binOp op t (.bool x) (.bool y) : Sem Value).run P w = .ok (.bool (!(x == y))) w) := by
  have hg : (eqGuard op t b1 b2 (.bool x) (.bool y)).run P w = .ok () w := by
    unfold eqGuard
    split <;> rfl
  have he : (Op.equal t (.bool x) (.bool y)).run P w = .ok (x == y) w := by
    unfold Op.equal Op.maxDepth
    rw [Op.equalIn]
    simp only [Sem.run_bind, run_underlying ht, Result.andThen_ok]
    rfl
  constructor
  · rintro rfl
    simp only [Sem.run_bind, hg, Result.andThen_ok]
    simp only [binOp, Sem.run_bind, he, Result.andThen_ok]
    rfl
  · rintro rfl
    simp only [Sem.run_bind, hg, Result.andThen_ok]
    simp only [binOp, Sem.run_bind, he, Result.andThen_ok]
    rfl
omit hc hr hT hg in
theorem run_ifcNil {t : TypeId} {ms : Array (String × TypeId)} (ht : P.underlying t = some (.interface ms)) {op : BinOp} {u : TypeId} {v : Value} (b1 b2 : Operand) :
    (op = .eql → (do eqGuard op t b1 b2 (.iface u v) .nilIface; binOp op t (.iface u v) .nilIface : Sem Value).run P w = .ok (.bool false) w) ∧
    (op = .neq → (do eqGuard op t b1 b2 (.iface u v) .nilIface; binOp op t (.iface u v) .nilIface : Sem Value).run P w = .ok (.bool true) w) := by
  have hg : (eqGuard op t b1 b2 (.iface u v) .nilIface).run P w = .ok () w := by
    unfold eqGuard
    split <;> rfl
  have he : (Op.equal t (.iface u v) .nilIface).run P w = .ok false w := by
    unfold Op.equal Op.maxDepth
    rw [Op.equalIn]
    simp only [Sem.run_bind, run_underlying ht, Result.andThen_ok]
    rfl
  constructor
  · rintro rfl
    simp only [Sem.run_bind, hg, Result.andThen_ok]
    simp only [binOp, Sem.run_bind, he, Result.andThen_ok]
    rfl
  · rintro rfl
    simp only [Sem.run_bind, hg, Result.andThen_ok]
    simp only [binOp, Sem.run_bind, he, Result.andThen_ok]
    rfl
omit hc hr hT hg in
theorem run_nilNil {t : TypeId} {ms : Array (String × TypeId)} (ht : P.underlying t = some (.interface ms)) {op : BinOp} (b1 b2 : Operand) (hcst : (isConst b1 || isConst b2) = true) :
    (op = .eql → (do eqGuard op t b1 b2 .nilIface .nilIface; binOp op t .nilIface .nilIface : Sem Value).run P w = .ok (.bool true) w) ∧
    (op = .neq → (do eqGuard op t b1 b2 .nilIface .nilIface; binOp op t .nilIface .nilIface : Sem Value).run P w = .ok (.bool false) w) := by
  have hg : (eqGuard op t b1 b2 .nilIface .nilIface).run P w = .ok () w := by
    unfold eqGuard
    cases b1 <;> cases b2 <;> simp [isConst] at hcst <;> split <;> rfl
  have he : (Op.equal t .nilIface .nilIface).run P w = .ok true w := by
    unfold Op.equal Op.maxDepth
    rw [Op.equalIn]
    simp only [Sem.run_bind, run_underlying ht, Result.andThen_ok]
    rfl
  constructor
  · rintro rfl
    simp only [Sem.run_bind, hg, Result.andThen_ok]
    simp only [binOp, Sem.run_bind, he, Result.andThen_ok]
    rfl
  · rintro rfl
    simp only [Sem.run_bind, hg, Result.andThen_ok]
    simp only [binOp, Sem.run_bind, he, Result.andThen_ok]
    rfl
omit hc hr hT hg in
theorem eqDs_sound {S : Nat → Prop} : ∀ {ks : List CK} {cs ds : List D} {b : Bool} {xs ys : List Value}, eqDs ks cs ds = some b → xs.length = cs.length → ys.length = ds.length → (∀ (i : Nat) x d, xs[i]? = some x → cs[i]? = some d → RD w S β x d) → (∀ (i : Nat) x d, ys[i]? = some x → ds[i]? = some d → RD w S β x d) →
    fitsV ks xs ∧ fitsV ks ys ∧ eqVs xs ys = b := by
  intro ks cs ds b xs ys h hx hy hrx hry
  unfold eqDs at h
  split at h
  · cases h
    have e1 : xs = [] := List.length_eq_zero_iff.1 hx
    have e2 : ys = [] := List.length_eq_zero_iff.1 hy
    subst e1; subst e2
    exact ⟨rfl, rfl, rfl⟩
  · rename_i k ks k1 x r k2 y s
    cases hk : (decide (k1 = k) && decide (k2 = k)) with
    | false => rw [hk] at h; cases h
    | true =>
      rw [hk, cond_true] at h
      simp only [Bool.and_eq_true, decide_eq_true_eq] at hk
      obtain ⟨rfl, rfl⟩ := hk
      split at h
      · rename_i b2 hb2
        cases h
        cases xs with
        | nil => simp at hx
        | cons u xs =>
          cases ys with
          | nil => simp at hy
          | cons v ys =>
            have q1 := RD_int (hrx 0 u _ rfl rfl)
            have q2 := RD_int (hry 0 v _ rfl rfl)
            obtain ⟨f1, f2, f3⟩ := eqDs_sound (xs := xs) (ys := ys) hb2 (by simpa using hx) (by simpa using hy) (fun i x d a b => hrx (i + 1) x d (by simpa using a) (by simpa using b)) (fun i x d a b => hry (i + 1) x d (by simpa using a) (by simpa using b))
            exact ⟨⟨u, xs, rfl, ⟨_, q1⟩, f1⟩, ⟨v, ys, rfl, ⟨_, q2⟩, f2⟩, by rw [q1, q2]; simp only [eqVs, eqV1, f3]⟩
      · cases h
  · rename_i ks x r y s
    split at h
    · rename_i b2 hb2
      cases h
      cases xs with
      | nil => simp at hx
      | cons u xs =>
        cases ys with
        | nil => simp at hy
        | cons v ys =>
          have q1 := RD_bool (hrx 0 u _ rfl rfl)
          have q2 := RD_bool (hry 0 v _ rfl rfl)
          obtain ⟨f1, f2, f3⟩ := eqDs_sound (xs := xs) (ys := ys) hb2 (by simpa using hx) (by simpa using hy) (fun i x d a b => hrx (i + 1) x d (by simpa using a) (by simpa using b)) (fun i x d a b => hry (i + 1) x d (by simpa using a) (by simpa using b))
          exact ⟨⟨u, xs, rfl, ⟨_, q1⟩, f1⟩, ⟨v, ys, rfl, ⟨_, q2⟩, f2⟩, by rw [q1, q2]; simp only [eqVs, eqV1, f3]⟩
    · cases h
  · rename_i ks x r y s
    split at h
    · rename_i b2 hb2
      cases h
      cases xs with
      | nil => simp at hx
      | cons u xs =>
        cases ys with
        | nil => simp at hy
        | cons v ys =>
          have q1 := RD_str (hrx 0 u _ rfl rfl)
          have q2 := RD_str (hry 0 v _ rfl rfl)
          obtain ⟨f1, f2, f3⟩ := eqDs_sound (xs := xs) (ys := ys) hb2 (by simpa using hx) (by simpa using hy) (fun i x d a b => hrx (i + 1) x d (by simpa using a) (by simpa using b)) (fun i x d a b => hry (i + 1) x d (by simpa using a) (by simpa using b))
          exact ⟨⟨u, xs, rfl, ⟨_, q1⟩, f1⟩, ⟨v, ys, rfl, ⟨_, q2⟩, f2⟩, by rw [q1, q2]; simp only [eqVs, eqV1, f3]⟩
    · cases h
  · cases h
omit hc hr hT hg in
theorem run_aggBin {t : TypeId} {ks : List CK} (h1 : eqKinds P 64 t = some ks) (h2 : ∃ fs, P.underlying t = some (.struct fs)) (h3 : P.eqGuardType P.depth t = false) {op : BinOp} {xa ya : Array Value} (hx : fitsV ks xa.toList) (hy : fitsV ks ya.toList) (b1 b2 : Operand) :
    (op = .eql → (do eqGuard op t b1 b2 (.agg xa) (.agg ya); binOp op t (.agg xa) (.agg ya) : Sem Value).run P w = .ok (.bool (eqVs xa.toList ya.toList)) w) ∧
    (op = .neq → (do eqGuard op t b1 b2 (.agg xa) (.agg ya); binOp op t (.agg xa) (.agg ya) : Sem Value).run P w = .ok (.bool (!(eqVs xa.toList ya.toList))) w) := by
  obtain ⟨fs, hu⟩ := h2
  have cx : ofCells P t (.agg xa) xa.toList := by unfold ofCells; rw [hu]; exact ⟨xa, rfl, rfl⟩
  have cy : ofCells P t (.agg ya) ya.toList := by unfold ofCells; rw [hu]; exact ⟨ya, rfl, rfl⟩
  have he : (Op.equal t (.agg xa) (.agg ya)).run P w = .ok (eqVs xa.toList ya.toList) w := run_equal_cells (w := w) 64 9936 t h1 hx hy cx cy
  have hg : (op = .eql ∨ op = .neq) → (eqGuard op t b1 b2 (.agg xa) (.agg ya)).run P w = .ok () w := fun ho => by
    unfold eqGuard
    rcases ho with rfl | rfl <;> simp [Sem.run_bind, run_program, h3]
  constructor
  · rintro rfl
    simp only [Sem.run_bind, hg (.inl rfl), Result.andThen_ok]
    simp only [binOp, Sem.run_bind, he, Result.andThen_ok]
    rfl
  · rintro rfl
    simp only [Sem.run_bind, hg (.inr rfl), Result.andThen_ok]
    simp only [binOp, Sem.run_bind, he, Result.andThen_ok]
    rfl
theorem q_binOp {op : BinOp} {t t2 : TypeId} {x y : Operand} (ho : o.op = .binOp op t x y t2) (h : opQ c o T H K = some r) : ∃ d, K d = some r ∧ QOk P S0 base L β o a w d := by
  unfold opQ at h
  simp only [ho] at h
  split at h
  · rename_i d1 d2 h1 h2
    have r1 := opd_RD hT hg h1
    have r2 := opd_RD hT hg h2
    have fin : ∀ v d, (do eqGuard op t x y (a.eval x) (a.eval y); binOp op t (a.eval x) (a.eval y) : Sem Value).run P w = .ok v w → RD w (stab S0 base w L) β v d → K d = some r → ∃ d, K d = some r ∧ QOk P S0 base L β o a w d := fun v d e hd hk =>
      ⟨d, hk, q_of (by unfold execOp; simp only [ho]; exact run_v e) hd⟩
    have h0 := h
    replace h := binK_imp h
    split at h
    · rename_i d hd
      unfold binD at hd
      split at hd
      · rename_i cs ds
        split at hd
        · rename_i ks hks
          split at hd
          · rename_i bb hbb
            obtain ⟨xa, ex, lx, _, hxr⟩ := RD_agg r1
            obtain ⟨ya, ey, ly, _, hyr⟩ := RD_agg r2
            obtain ⟨f1, f2, f3⟩ := eqDs_sound (w := w) (β := β) (S := stab S0 base w L) (xs := xa.toList) (ys := ya.toList) hbb (by simpa using lx) (by simpa using ly) (fun i x d a b => hxr i x d (by simpa using a) b) (fun i x d a b => hyr i x d (by simpa using a) b)
            obtain ⟨q1, q2, q3⟩ := hc.eqt t ks hks
            have hb := run_aggBin (w := w) q1 q2 q3 (op := op) f1 f2 x y
            rw [ex, ey] at fin
            rw [f3] at hb
            split at hd
            · cases hd; exact fin _ _ (hb.1 rfl) (RD_mkBool _) h
            · cases hd; exact fin _ _ (hb.2 rfl) (RD_mkBool _) h
            · cases hd
          · cases hd
        · cases hd
      · rename_i k u k2 v
        rw [RD_int r1, RD_int r2] at fin
        cases hk : decide (k = k2) with
        | false => rw [hk] at hd; cases hd
        | true =>
          rw [hk] at hd
          have hk := of_decide_eq_true hk
          subst hk
          obtain ⟨v, e1, e2⟩ := run_intBin (P := P) (w := w) (β := β) (S := stab S0 base w L) (binK_int h0).2 hd t x y
          exact fin v d e1 e2 h
      · rename_i u v
        rw [RD_str r1, RD_str r2] at fin
        obtain ⟨v, e1, e2⟩ := run_strBin (P := P) (w := w) (β := β) (S := stab S0 base w L) (binK_str h0).2 hd t x y
        exact fin v d e1 e2 h
      · rename_i u v
        rw [RD_bool r1, RD_bool r2] at fin
        split at hd
        · rename_i i hi
          split at hd
          · rename_i hk hty
            obtain ⟨q, q1, q2, q3, q4, q5, _⟩ : ∃ d, P.underlying t = some d ∧ _ := by
              have := (hc.ti t i hi).desc
              rw [hk] at this
              exact this
            rw [q5 hty] at q1
            have hb := run_boolBin (w := w) q1 (op := op) (x := u) (y := v) x y
            split at hd
            · cases hd; exact fin _ _ (hb.1 rfl) (RD_mkBool _) h
            · cases hd; exact fin _ _ (hb.2 rfl) (RD_mkBool _) h
            · cases hd
          · cases hd
        · cases hd
      · rename_i tI dI
        obtain ⟨u, e1, _⟩ := RD_ifc r1
        rw [e1, (RD_imm r2).1] at fin
        split at hd
        · rename_i i hi
          split at hd
          · rename_i hk
            obtain ⟨ms, q1⟩ : ∃ ms, P.underlying t = some (.interface ms) := by
              have := (hc.ti t i hi).desc
              rw [hk] at this
              exact this
            have hb := run_ifcNil (w := w) q1 (op := op) (u := tI) (v := u) x y
            split at hd
            · cases hd; exact fin _ _ (hb.1 rfl) (RD_mkBool _) h
            · cases hd; exact fin _ _ (hb.2 rfl) (RD_mkBool _) h
            · cases hd
          · cases hd
        · cases hd
      · rw [(RD_imm r1).1, (RD_imm r2).1] at fin
        split at hd
        · rename_i i hi
          split at hd
          · rename_i hk
            obtain ⟨ms, q1⟩ : ∃ ms, P.underlying t = some (.interface ms) := by
              have := (hc.ti t i hi).desc
              rw [hk] at this
              exact this
            cases hcst : (isConst x || isConst y) with
            | false => rw [hcst] at hd; cases hd
            | true =>
              rw [hcst] at hd
              simp only [cond_true] at hd
              have hb := run_nilNil (w := w) q1 (op := op) x y hcst
              split at hd
              · cases hd; exact fin _ _ (hb.1 rfl) (RD_mkBool _) h
              · cases hd; exact fin _ _ (hb.2 rfl) (RD_mkBool _) h
              · cases hd
          · cases hd
        · cases hd
      · cases hd
    · cases h
  · cases h
theorem q_unOp {op : UnOp} {t : TypeId} {x : Operand} (ho : o.op = .unOp op t x) (h : opQ c o T H K = some r) : ∃ d, K d = some r ∧ QOk P S0 base L β o a w d := by
  unfold opQ at h
  simp only [ho] at h
  split at h
  · rename_i b hb
    refine ⟨_, h, q_of (v := .bool (!b)) ?_ (RD_mkBool _)⟩
    unfold execOp
    simp only [ho, RD_bool (opd_RD hT hg hb)]
    rfl
  · rename_i k n hb
    refine ⟨_, h, q_of (v := .int k (k.wrap (0 - n))) ?_ (RD_mkInt _ _)⟩
    unfold execOp
    simp only [ho, RD_int (opd_RD hT hg hb)]
    rfl
  · cases h
end
end Go.Eng
