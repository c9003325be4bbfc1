/- Proved here: what it means that the abstract machine stands for the model: values, heaps, operations, calls. No conditions. -/
import Derived.AtR
import Derived.Below
import Derived.Laws.Cells
import Derived.Laws.Entries
import Derived.Lib.FrozenHead
import Derived.Laws.IdiomCopy
import Derived.Laws.Slices
import Derived.Laws.StructEq
import Derived.Laws.Cover3
import Derived.Laws.Pointers
import Derived.Laws.Append
import Derived.Laws.Tables
import Derived.Defers
set_option linter.unusedSimpArgs false
set_option linter.unusedVariables false
set_option linter.unusedSectionVars false
/- Abstract values, abstract heaps, and how they stand for the model's values and worlds. -/
namespace Go.Am
open Go.RowKit

/-- Abstract values: slices lie in blocks of the abstract heap, or are frozen lists of cells. -/
inductive AV where
  | junk
  | bool (b : Bool)
  | int (k : IntKind) (n : Int)
  | str (s : List UInt8)
  | nilPtr
  | ptr (b off : Nat)
  | pref (cells : List AV)
  | nilSlice
  | slice (b off len cap sz : Nat) (tight : Bool)
  | vec (cells : List AV) (len : Nat) (tight : Bool)
  | nilMap
  | map (b : Nat)
  | func (fn : Fn) (first captured : List AV)
  | yld (b : Nat)
  | nilFunc
  | iface (t : TypeId) (v : AV)
  | nilIface
  | agg (cells : List AV)
  | tuple (vs : List AV)

/-- Where an abstract block lies: a block of the model's heap, the cell at which it begins, how many cells that block has. -/
structure Pl where
  block : Nat
  base : Nat
  top : Nat

abbrev Names := Nat → Option Pl
abbrev Frozen := Nat → Option Obj

mutual
def AV.rel (ρ : Names) (Z : Frozen) : AV → Value → Prop
  | .junk, _ => True
  | .bool b, v => v = .bool b
  | .int k n, v => v = .int k n
  | .str s, v => v = .string ⟨s.toArray⟩
  | .nilPtr, v => v = .pointer none
  | .ptr b o, v => ∃ p, ρ b = some p ∧ v = .pointer (some ⟨p.block, p.base + o, none⟩)
  | .pref cs, v => ∃ cb o arr el fr, Z cb = some (.cells arr el fr) ∧ v = .pointer (some ⟨cb, o, none⟩) ∧ AV.rels ρ Z cs ((arr.toList.drop o).take cs.length)
  | .nilSlice, v => v = .slice none 0 0
  | .slice b o len cap sz t, v => ∃ p ccap o', ρ b = some p ∧ v = .slice (some ⟨p.block, o', none⟩) len ccap ∧ len ≤ cap ∧ cap ≤ ccap ∧ (t = true → ccap = cap) ∧ (ccap ≠ 0 → o' = p.base + o ∧ p.base + o + ccap * sz ≤ p.top)
  | .vec cs len t, v => ∃ cb o ccap arr el fr, Z cb = some (.cells arr el fr) ∧ v = .slice (some ⟨cb, o, none⟩) len ccap ∧ len ≤ ccap ∧ (t = true → ccap = len) ∧ AV.rels ρ Z cs ((arr.toList.drop o).take cs.length)
  | .nilMap, v => v = .map none
  | .map b, v => ∃ p, ρ b = some p ∧ v = .map (some p.block)
  | .func fn fs cs, v => (∀ l, fn ≠ .yield l) ∧ ∃ a c, v = .func fn a c ∧ AV.rels ρ Z fs a.toList ∧ AV.rels ρ Z cs c.toList
  | .yld b, v => ∃ p, ρ b = some p ∧ v = .func (.yield p.block) #[] #[]
  | .nilFunc, v => v = .nilFunc
  | .iface t x, v => ∃ y, v = .iface t y ∧ AV.rel ρ Z x y
  | .nilIface, v => v = .nilIface
  | .agg cs, v => ∃ a, v = .agg a ∧ AV.rels ρ Z cs a.toList
  | .tuple cs, v => ∃ a, v = .tuple a ∧ AV.rels ρ Z cs a.toList
def AV.rels (ρ : Names) (Z : Frozen) : List AV → List Value → Prop
  | [], l => l = []
  | x :: xs, l => ∃ y ys, l = y :: ys ∧ AV.rel ρ Z x y ∧ AV.rels ρ Z xs ys
end

/-- More names, more that is frozen. -/
structure Ext (ρ : Names) (Z : Frozen) (ρ' : Names) (Z' : Frozen) : Prop where
  names : ∀ b p, ρ b = some p → ρ' b = some p
  frozen : ∀ c o, Z c = some o → Z' c = some o

theorem Ext.refl (ρ : Names) (Z : Frozen) : Ext ρ Z ρ Z := ⟨fun _ _ h => h, fun _ _ h => h⟩
theorem Ext.trans {ρ ρ' ρ'' : Names} {Z Z' Z'' : Frozen} (h : Ext ρ Z ρ' Z') (k : Ext ρ' Z' ρ'' Z'') : Ext ρ Z ρ'' Z'' :=
  ⟨fun b p e => k.names b p (h.names b p e), fun c o e => k.frozen c o (h.frozen c o e)⟩

mutual
theorem AV.rel_mono {ρ ρ' : Names} {Z Z' : Frozen} (h : Ext ρ Z ρ' Z') : ∀ (x : AV) (v : Value), x.rel ρ Z v → x.rel ρ' Z' v
  | .junk, _, _ => by simp [AV.rel]
  | .bool _, _, r => by simpa [AV.rel] using r
  | .int _ _, _, r => by simpa [AV.rel] using r
  | .str _, _, r => by simpa [AV.rel] using r
  | .nilPtr, _, r => by simpa [AV.rel] using r
  | .ptr b o, _, r => by
    simp only [AV.rel] at r ⊢
    obtain ⟨p, e, r⟩ := r
    exact ⟨p, h.names _ _ e, r⟩
  | .pref cs, _, r => by
    simp only [AV.rel] at r ⊢
    obtain ⟨cb, o, arr, el, fr, e, r, s⟩ := r
    exact ⟨cb, o, arr, el, fr, h.frozen _ _ e, r, AV.rels_mono h cs _ s⟩
  | .nilSlice, _, r => by simpa [AV.rel] using r
  | .slice b o len cap sz t, _, r => by
    simp only [AV.rel] at r ⊢
    obtain ⟨p, c, o', e, r⟩ := r
    exact ⟨p, c, o', h.names _ _ e, r⟩
  | .vec cs len t, _, r => by
    simp only [AV.rel] at r ⊢
    obtain ⟨cb, o, c, arr, el, fr, e, r, l1, l2, s⟩ := r
    exact ⟨cb, o, c, arr, el, fr, h.frozen _ _ e, r, l1, l2, AV.rels_mono h cs _ s⟩
  | .nilMap, _, r => by simpa [AV.rel] using r
  | .map b, _, r => by
    simp only [AV.rel] at r ⊢
    obtain ⟨p, e, r⟩ := r
    exact ⟨p, h.names _ _ e, r⟩
  | .func fn fs cs, _, r => by
    simp only [AV.rel] at r ⊢
    obtain ⟨n, a, c, e, r, s⟩ := r
    exact ⟨n, a, c, e, AV.rels_mono h fs _ r, AV.rels_mono h cs _ s⟩
  | .yld b, _, r => by
    simp only [AV.rel] at r ⊢
    obtain ⟨p, e, r⟩ := r
    exact ⟨p, h.names _ _ e, r⟩
  | .nilFunc, _, r => by simpa [AV.rel] using r
  | .iface t x, _, r => by
    simp only [AV.rel] at r ⊢
    obtain ⟨y, e, r⟩ := r
    exact ⟨y, e, AV.rel_mono h x y r⟩
  | .nilIface, _, r => by simpa [AV.rel] using r
  | .agg cs, _, r => by
    simp only [AV.rel] at r ⊢
    obtain ⟨a, e, r⟩ := r
    exact ⟨a, e, AV.rels_mono h cs _ r⟩
  | .tuple cs, _, r => by
    simp only [AV.rel] at r ⊢
    obtain ⟨a, e, r⟩ := r
    exact ⟨a, e, AV.rels_mono h cs _ r⟩
theorem AV.rels_mono {ρ ρ' : Names} {Z Z' : Frozen} (h : Ext ρ Z ρ' Z') : ∀ (xs : List AV) (l : List Value), AV.rels ρ Z xs l → AV.rels ρ' Z' xs l
  | [], _, r => by simpa [AV.rels] using r
  | x :: xs, _, r => by
    simp only [AV.rels] at r ⊢
    obtain ⟨y, ys, e, r, s⟩ := r
    exact ⟨y, ys, e, AV.rel_mono h x y r, AV.rels_mono h xs ys s⟩
end

end Go.Am

/- Lists of abstract values; abstract blocks and heaps; how an abstract heap stands for a world. -/
namespace Go.Am
open Go.RowKit

section lists
variable {ρ : Names} {Z : Frozen}

theorem AV.rels_length : ∀ {xs : List AV} {l : List Value}, AV.rels ρ Z xs l → l.length = xs.length
  | [], _, r => by simp [AV.rels] at r; simp [r]
  | x :: xs, _, r => by
    simp only [AV.rels] at r
    obtain ⟨y, ys, rfl, _, s⟩ := r
    simp [AV.rels_length s]

theorem AV.rels_nil : AV.rels ρ Z [] [] := by simp [AV.rels]
theorem AV.rels_cons {x : AV} {xs : List AV} {y : Value} {ys : List Value} (h : x.rel ρ Z y) (k : AV.rels ρ Z xs ys) : AV.rels ρ Z (x :: xs) (y :: ys) := by
  simp only [AV.rels]; exact ⟨y, ys, rfl, h, k⟩
theorem AV.rels_cons_iff {x : AV} {xs : List AV} {y : Value} {ys : List Value} : AV.rels ρ Z (x :: xs) (y :: ys) ↔ x.rel ρ Z y ∧ AV.rels ρ Z xs ys := by
  constructor
  · intro h; simp only [AV.rels] at h; obtain ⟨a, b, e, h1, h2⟩ := h; injection e with e1 e2; subst e1; subst e2; exact ⟨h1, h2⟩
  · rintro ⟨h, k⟩; exact AV.rels_cons h k
theorem AV.rels_append : ∀ {xs : List AV} {l : List Value} {ys : List AV} {m : List Value}, AV.rels ρ Z xs l → AV.rels ρ Z ys m → AV.rels ρ Z (xs ++ ys) (l ++ m)
  | [], _, _, _, r, s => by simp [AV.rels] at r; subst r; simpa using s
  | x :: xs, _, _, _, r, s => by
    simp only [AV.rels] at r
    obtain ⟨y, ys, rfl, h, k⟩ := r
    exact AV.rels_cons h (AV.rels_append k s)
theorem AV.rels_take : ∀ (n : Nat) {xs : List AV} {l : List Value}, AV.rels ρ Z xs l → AV.rels ρ Z (xs.take n) (l.take n)
  | 0, _, _, _ => by simp [AV.rels]
  | n + 1, [], _, r => by simp [AV.rels] at r; simp [r, AV.rels]
  | n + 1, x :: xs, _, r => by
    simp only [AV.rels] at r
    obtain ⟨y, ys, rfl, h, k⟩ := r
    exact AV.rels_cons h (AV.rels_take n k)
theorem AV.rels_drop : ∀ (n : Nat) {xs : List AV} {l : List Value}, AV.rels ρ Z xs l → AV.rels ρ Z (xs.drop n) (l.drop n)
  | 0, _, _, r => by simpa using r
  | n + 1, [], _, r => by simp [AV.rels] at r; simp [r, AV.rels]
  | n + 1, x :: xs, _, r => by
    simp only [AV.rels] at r
    obtain ⟨y, ys, rfl, h, k⟩ := r
    simpa using AV.rels_drop n k
theorem AV.rels_getElem? : ∀ {xs : List AV} {l : List Value} (i : Nat) {x : AV}, AV.rels ρ Z xs l → xs[i]? = some x → ∃ v, l[i]? = some v ∧ x.rel ρ Z v
  | [], _, i, x, _, e => by simp at e
  | x :: xs, _, 0, _, r, e => by
    simp only [AV.rels] at r
    obtain ⟨y, ys, rfl, h, k⟩ := r
    simp at e; subst e
    exact ⟨y, by simp, h⟩
  | x :: xs, _, i + 1, _, r, e => by
    simp only [AV.rels] at r
    obtain ⟨y, ys, rfl, h, k⟩ := r
    simp at e
    obtain ⟨v, h1, h2⟩ := AV.rels_getElem? i k e
    exact ⟨v, by simpa using h1, h2⟩
theorem AV.rels_set : ∀ {xs : List AV} {l : List Value} (i : Nat) {x : AV} {v : Value}, AV.rels ρ Z xs l → x.rel ρ Z v → AV.rels ρ Z (xs.set i x) (l.set i v)
  | [], _, i, x, v, r, _ => by simp [AV.rels] at r; simp [r, AV.rels]
  | x :: xs, _, 0, _, _, r, e => by
    simp only [AV.rels] at r
    obtain ⟨y, ys, rfl, h, k⟩ := r
    exact AV.rels_cons e k
  | x :: xs, _, i + 1, _, _, r, e => by
    simp only [AV.rels] at r
    obtain ⟨y, ys, rfl, h, k⟩ := r
    exact AV.rels_cons h (AV.rels_set i k e)
theorem AV.rels_replicate {x : AV} {v : Value} (h : x.rel ρ Z v) : ∀ n, AV.rels ρ Z (List.replicate n x) (List.replicate n v)
  | 0 => by simp [AV.rels]
  | n + 1 => by simp only [List.replicate_succ]; exact AV.rels_cons h (AV.rels_replicate h n)
theorem AV.rels_split {xs ys : List AV} {l : List Value} (h : AV.rels ρ Z (xs ++ ys) l) : AV.rels ρ Z xs (l.take xs.length) ∧ AV.rels ρ Z ys (l.drop xs.length) := by
  have h1 := AV.rels_take xs.length h
  have h2 := AV.rels_drop xs.length h
  simp at h1 h2
  exact ⟨h1, h2⟩
end lists

/-- Abstract blocks. -/
inductive ABlk where
  | cells (c : List AV)
  | map (es : List (AV × AV × Nat)) (clock : Nat)
  | lit (es : List (AV × AV))
  | loop (st : LoopState) (jump : Option Code) (fn : FuncId) (tmps : List AV) (params : List Tmp) (assign body : Code) (defers : Nat)
  | deferred (opened : Bool)
  | iter (m : Option Nat) (since : Nat) (seen : List Nat) (stepped : Nat)

/-- Entries of a map. -/
def mrels (ρ : Names) (Z : Frozen) : List (AV × AV × Nat) → List MapEntry → Prop
  | [], l => l = []
  | (k, v, n) :: es, l => ∃ e l', l = e :: l' ∧ k.rel ρ Z e.key ∧ v.rel ρ Z e.val ∧ e.born = n ∧ mrels ρ Z es l'
/-- The same without stamps. -/
def lrels (ρ : Names) (Z : Frozen) : List (AV × AV) → List MapEntry → Prop
  | [], l => l = []
  | (k, v) :: es, l => ∃ e l', l = e :: l' ∧ k.rel ρ Z e.key ∧ v.rel ρ Z e.val ∧ lrels ρ Z es l'

theorem mrels_mono {ρ ρ' : Names} {Z Z' : Frozen} (h : Ext ρ Z ρ' Z') : ∀ {es : List (AV × AV × Nat)} {l : List MapEntry}, mrels ρ Z es l → mrels ρ' Z' es l
  | [], _, r => by simpa [mrels] using r
  | (k, v, n) :: es, _, r => by
    simp only [mrels] at r ⊢
    obtain ⟨e, l', rfl, h1, h2, h3, h4⟩ := r
    exact ⟨e, l', rfl, AV.rel_mono h _ _ h1, AV.rel_mono h _ _ h2, h3, mrels_mono h h4⟩
theorem lrels_mono {ρ ρ' : Names} {Z Z' : Frozen} (h : Ext ρ Z ρ' Z') : ∀ {es : List (AV × AV)} {l : List MapEntry}, lrels ρ Z es l → lrels ρ' Z' es l
  | [], _, r => by simpa [lrels] using r
  | (k, v) :: es, _, r => by
    simp only [lrels] at r ⊢
    obtain ⟨e, l', rfl, h1, h2, h4⟩ := r
    exact ⟨e, l', rfl, AV.rel_mono h _ _ h1, AV.rel_mono h _ _ h2, lrels_mono h h4⟩

/-- An abstract block, and the model's object at its place. -/
def ABlk.rel (ρ : Names) (Z : Frozen) (p : Pl) : ABlk → Obj → Prop
  | .cells c, o => ∃ arr el fr, o = .cells arr el fr ∧ p.top = arr.size ∧ p.base + c.length ≤ arr.size ∧ AV.rels ρ Z c ((arr.toList.drop p.base).take c.length) ∧ (∀ x, x < arr.size → ¬ (fr.1 ≤ x ∧ x < fr.2))
  | .map es n, o => ∃ ents, o = .map ents n ∧ mrels ρ Z es ents.toList
  | .lit es, o => ∃ ents n l, o = .map ents n ∧ l.Perm ents.toList ∧ lrels ρ Z es l
  | .loop st j fn tmps ps a b d, o => ∃ ts q, ρ d = some q ∧ o = .loop { state := st, pending := j, fn, tmps := ts, params := ps.toArray, assign := a, body := b, defers := q.block } ∧ AV.rels ρ Z tmps ts.toList
  | .deferred b, o => o = .deferred (if b then some [] else none)
  | .iter m since seen stepped, o => p.base = 0 ∧ ∃ mb, (match m with | none => mb = none | some b => ∃ q, ρ b = some q ∧ mb = some q.block) ∧ o = .mapIter mb since seen.toArray stepped

theorem ABlk.rel_mono {ρ ρ' : Names} {Z Z' : Frozen} (h : Ext ρ Z ρ' Z') {p : Pl} : ∀ {b : ABlk} {o : Obj}, b.rel ρ Z p o → b.rel ρ' Z' p o
  | .cells c, o, r => by
    obtain ⟨arr, el, fr, h1, h2, h3, h4, h5⟩ := r
    exact ⟨arr, el, fr, h1, h2, h3, AV.rels_mono h _ _ h4, h5⟩
  | .map es n, o, r => by
    obtain ⟨ents, h1, h2⟩ := r
    exact ⟨ents, h1, mrels_mono h h2⟩
  | .lit es, o, r => by
    obtain ⟨ents, n, l, h1, h2, h3⟩ := r
    exact ⟨ents, n, l, h1, h2, lrels_mono h h3⟩
  | .loop .., o, r => by
    obtain ⟨ts, q, h1, h2, h3⟩ := r
    exact ⟨ts, q, h.names _ _ h1, h2, AV.rels_mono h _ _ h3⟩
  | .deferred _, o, r => r
  | .iter none _ _ _, o, r => r
  | .iter (some b) _ _ _, o, r => by
    obtain ⟨h0, mb, ⟨q, h1, h2⟩, h3⟩ := r
    exact ⟨h0, mb, ⟨q, h.names _ _ h1, h2⟩, h3⟩

/-- What is kept of the model's heap whatever happens, and the world at which all began. -/
structure Env where
  keep : Frozen
  w0 : World

abbrev Heap := Nat → Option ABlk

/-- An abstract heap (whose names are below nx) stands for a world. -/
structure SRel (E : Env) (ρ : Names) (Z : Frozen) (H : Heap) (nx : Nat) (w : World) : Prop where
  live : ∀ b k, H b = some k → ∃ p o, ρ b = some p ∧ w.heap[p.block]? = some o ∧ k.rel ρ Z p o ∧ E.keep p.block = none ∧ Z p.block = none
  inj : ∀ b b' k k' p p', H b = some k → H b' = some k' → ρ b = some p → ρ b' = some p' → p.block = p'.block → b = b'
  dom : ∀ b p, ρ b = some p → b < nx
  frozen : ∀ c o, Z c = some o → w.heap[c]? = some o
  keep : ∀ c o, E.keep c = some o → w.heap[c]? = some o
  bel : Below 0 E.w0 w
  disj : ∀ c o, E.keep c = some o → Z c = none

def Heap.put (H : Heap) (b : Nat) (x : Option ABlk) : Heap := fun c => if c = b then x else H c
@[simp] theorem Heap.put_same (H : Heap) (b : Nat) (x : Option ABlk) : H.put b x b = x := by simp [Heap.put]
theorem Heap.put_other (H : Heap) {b c : Nat} (x : Option ABlk) (h : c ≠ b) : H.put b x c = H c := by simp [Heap.put, h]
theorem Heap.put_apply (H : Heap) (b c : Nat) (x : Option ABlk) : H.put b x c = if c = b then x else H c := rfl

def Names.put (ρ : Names) (b : Nat) (p : Pl) : Names := fun c => if c = b then some p else ρ c

section state
variable {E : Env} {ρ : Names} {Z : Frozen} {H : Heap} {nx : Nat} {w : World}

theorem SRel.fresh (h : SRel E ρ Z H nx w) : H nx = none := by
  cases e : H nx with
  | none => rfl
  | some k =>
    obtain ⟨p, o, h1, _⟩ := h.live _ _ e
    exact absurd (h.dom _ _ h1) (by omega)
theorem SRel.noName (h : SRel E ρ Z H nx w) : ρ nx = none := by
  cases e : ρ nx with
  | none => rfl
  | some k => exact absurd (h.dom _ _ e) (by omega)

theorem ext_put (h : ρ nx = none) (p : Pl) : Ext ρ Z (ρ.put nx p) Z :=
  ⟨fun b q e => by
    by_cases hb : b = nx
    · subst hb; rw [h] at e; cases e
    · simpa [Names.put, hb] using e, fun _ _ e => e⟩

/-- The world goes on, nothing that counts has turned. -/
theorem SRel.world {w' : World} (h : SRel E ρ Z H nx w) (hh : ∀ (c : Nat) (o : Obj), w.heap[c]? = some o → w'.heap[c]? = some o) (hb : Below 0 w w') : SRel E ρ Z H nx w' :=
  ⟨fun b k e => let ⟨p, o, h1, h2, h3⟩ := h.live b k e; ⟨p, o, h1, hh _ _ h2, h3⟩, h.inj, h.dom, fun c o e => hh _ _ (h.frozen c o e), fun c o e => hh _ _ (h.keep c o e), h.bel.trans hb, h.disj⟩

theorem SRel.drew (h : SRel E ρ Z H nx w) : SRel E ρ Z H nx w.drew :=
  h.world (fun _ _ e => e) ((Below.refl 0 w).drew)

theorem heap_alloc_old {w : World} {o o' : Obj} {c : Nat} (h : w.heap[c]? = some o') : (w.alloc o).heap[c]? = some o' := by
  have hc : c < w.heap.size := by
    rcases Nat.lt_or_ge c w.heap.size with h1 | h1
    · exact h1
    · rw [Array.getElem?_eq_none h1] at h; cases h
  show (w.heap.push o)[c]? = _
  rw [Array.getElem?_push, if_neg (by omega), h]
theorem heap_alloc_new {w : World} {o : Obj} : (w.alloc o).heap[w.heap.size]? = some o := by
  show (w.heap.push o)[w.heap.size]? = _
  simp
theorem heap_lt {w : World} {o : Obj} {c : Nat} (h : w.heap[c]? = some o) : c < w.heap.size := by
  rcases Nat.lt_or_ge c w.heap.size with h1 | h1
  · exact h1
  · rw [Array.getElem?_eq_none h1] at h; cases h

theorem SRel.alloc (h : SRel E ρ Z H nx w) (o : Obj) : SRel E ρ Z H nx (w.alloc o) :=
  h.world (fun _ _ e => heap_alloc_old e) ((Below.refl 0 w).alloc (Nat.zero_le _) o)

/-- A block is made: its name is the next one. -/
theorem SRel.newBlk (h : SRel E ρ Z H nx w) {k : ABlk} {o : Obj} {base top : Nat}
    (hk' : k.rel (ρ.put nx ⟨w.heap.size, base, top⟩) Z ⟨w.heap.size, base, top⟩ o) :
    SRel E (ρ.put nx ⟨w.heap.size, base, top⟩) Z (H.put nx (some k)) (nx + 1) (w.alloc o) := by
  have hn := h.noName
  have hx : Ext ρ Z (ρ.put nx ⟨w.heap.size, base, top⟩) Z := ext_put hn _
  refine ⟨fun b k' e => ?_, fun b b' k1 k2 p p' e1 e2 r1 r2 hbb => ?_, fun b p e => ?_, fun c o' e => heap_alloc_old (h.frozen c o' e), fun c o' e => heap_alloc_old (h.keep c o' e), h.bel.trans ((Below.refl 0 w).alloc (Nat.zero_le _) o), h.disj⟩
  · by_cases hb : b = nx
    · subst hb
      simp at e
      subst e
      refine ⟨⟨w.heap.size, base, top⟩, o, by simp [Names.put], heap_alloc_new, hk', ?_, ?_⟩
      · cases e : E.keep w.heap.size with
        | none => rfl
        | some o' => have := heap_lt (h.keep _ _ e); omega
      · cases e : Z w.heap.size with
        | none => rfl
        | some o' => have := heap_lt (h.frozen _ _ e); omega
    · rw [Heap.put_other _ _ hb] at e
      obtain ⟨p, o', h1, h2, h3, h4⟩ := h.live _ _ e
      exact ⟨p, o', hx.names _ _ h1, heap_alloc_old h2, ABlk.rel_mono hx h3, h4⟩
  · by_cases hb : b = nx <;> by_cases hb' : b' = nx
    · omega
    · subst hb
      rw [Heap.put_other _ _ hb'] at e2
      obtain ⟨q, o', h1, h2, _⟩ := h.live _ _ e2
      simp [Names.put] at r1
      simp [Names.put, hb'] at r2
      rw [h1] at r2; cases r2; subst r1
      have := heap_lt h2
      simp at hbb; omega
    · subst hb'
      rw [Heap.put_other _ _ hb] at e1
      obtain ⟨q, o', h1, h2, _⟩ := h.live _ _ e1
      simp [Names.put] at r2
      simp [Names.put, hb] at r1
      rw [h1] at r1; cases r1; subst r2
      have := heap_lt h2
      simp at hbb; omega
    · rw [Heap.put_other _ _ hb] at e1
      rw [Heap.put_other _ _ hb'] at e2
      simp [Names.put, hb] at r1
      simp [Names.put, hb'] at r2
      exact h.inj _ _ _ _ _ _ e1 e2 r1 r2 hbb
  · by_cases hb : b = nx
    · omega
    · simp [Names.put, hb] at e
      have := h.dom _ _ e; omega

/-- An object of the model's is written: the one at a live block's place. -/
theorem SRel.setBlk (h : SRel E ρ Z H nx w) {b : Nat} {k k' : ABlk} {p : Pl} {o' : Obj} {w' : World} (e : H b = some k) (hp : ρ b = some p)
    (hw : ∀ c : Nat, w'.heap[c]? = if c = p.block then some o' else w.heap[c]?) (hb : Below 0 w w') (hk : k'.rel ρ Z p o') :
    SRel E ρ Z (H.put b (some k')) nx w' := by
  obtain ⟨q, o, h1, h2, h3, h4, h5⟩ := h.live _ _ e
  rw [hp] at h1; cases h1
  refine ⟨fun c kc ec => ?_, fun c c' k1 k2 p1 p2 e1 e2 r1 r2 hcc => ?_, h.dom, fun c o1 e1 => ?_, fun c o1 e1 => ?_, h.bel.trans hb, h.disj⟩
  · by_cases hc : c = b
    · subst hc
      simp at ec
      subst ec
      exact ⟨p, o', hp, by rw [hw]; simp, hk, h4, h5⟩
    · rw [Heap.put_other _ _ hc] at ec
      obtain ⟨p1, o1, a1, a2, a3⟩ := h.live _ _ ec
      refine ⟨p1, o1, a1, ?_, a3⟩
      rw [hw, if_neg (fun eq => hc (h.inj _ _ _ _ _ _ ec e a1 hp eq)), a2]
  · have g1 : ∃ k1', H c = some k1' := by
      by_cases hc : c = b
      · subst hc; exact ⟨_, e⟩
      · rw [Heap.put_other _ _ hc] at e1; exact ⟨_, e1⟩
    have g2 : ∃ k2', H c' = some k2' := by
      by_cases hc : c' = b
      · subst hc; exact ⟨_, e⟩
      · rw [Heap.put_other _ _ hc] at e2; exact ⟨_, e2⟩
    obtain ⟨_, g1⟩ := g1
    obtain ⟨_, g2⟩ := g2
    exact h.inj _ _ _ _ _ _ g1 g2 r1 r2 hcc
  · rw [hw, if_neg (fun eq => by subst eq; rw [h5] at e1; cases e1)]
    exact h.frozen _ _ e1
  · rw [hw, if_neg (fun eq => by subst eq; rw [h4] at e1; cases e1)]
    exact h.keep _ _ e1

/-- A block is forgotten. -/
theorem SRel.drop (h : SRel E ρ Z H nx w) (H' : Heap) (hs : ∀ b k, H' b = some k → H b = some k) : SRel E ρ Z H' nx w :=
  ⟨fun b k e => h.live b k (hs b k e), fun b b' k k' p p' e e' => h.inj b b' k k' p p' (hs _ _ e) (hs _ _ e'), h.dom, h.frozen, h.keep, h.bel, h.disj⟩
end state
end Go.Am

/- What the operations that read and write memory come to on the abstract level. -/
namespace Go.Am
open Go.RowKit

/-- A heap by its reading and its writing. -/
class Hp (σ : Type) where
  get : σ → Heap
  put : σ → Nat → Option ABlk → σ
  get_put : ∀ h b x, get (put h b x) = (get h).put b x

instance : Hp Heap := ⟨id, Heap.put, fun _ _ _ => rfl⟩

structure St (σ : Type) where
  H : σ
  nx : Nat

variable {σ : Type} [Hp σ]

section
variable (P : Program)

/-- A constant of one cell. -/
def acell : Value → AV
  | .bool b => .bool b
  | .int k n => .int k n
  | .string s => .str s.data.toList
  | .pointer none => .nilPtr
  | .slice none 0 0 => .nilSlice
  | .map none => .nilMap
  | .nilFunc => .nilFunc
  | .nilIface => .nilIface
  | _ => .junk
def aconst : Value → AV
  | .agg cs => .agg (cs.toList.map acell)
  | .tuple cs => .tuple (cs.toList.map acell)
  | v => acell v

def AV.cells : AV → List AV
  | .agg cs => cs
  | v => [v]
def AV.one : AV → Bool
  | .agg _ | .tuple _ | .junk => false
  | _ => true

def szOf (t : TypeId) : Option Nat := (P.info? t).map (·.size)
def aggB (t : TypeId) : Option Bool := (P.underlying t).map fun d => match d with | .struct _ | .array _ _ => true | _ => false
def zeroOf (t : TypeId) : Option AV := (P.info? t).bind fun i => i.zero.map aconst

/-- A variable of a type that begins where these cells do. -/
def aload (t : TypeId) (cs : List AV) : Option AV :=
  match aggB P t with
  | some true =>
    match szOf P t with
    | some n => if n ≤ cs.length then some (.agg (cs.take n)) else none
    | none => none
  | some false => cs.head?
  | none => none

/-- The cells from an address on. -/
def cellsAt (H : Heap) : AV → Option (List AV)
  | .ptr b o => match H b with
    | some (.cells c) => some (c.drop o)
    | _ => none
  | .pref cs => some cs
  | _ => none

def splice (c : List AV) (o : Nat) (xs : List AV) : List AV := c.take o ++ xs ++ c.drop (o + xs.length)

/-- A store through an address. -/
def astore (s : St σ) (t : TypeId) (a v : AV) : Option (St σ) :=
  match a with
  | .ptr b o =>
    match Hp.get s.H b with
    | some (.cells c) =>
      if szOf P t = some v.cells.length ∧ o + v.cells.length ≤ c.length ∧ v.cells.all AV.one = true then some ⟨Hp.put s.H b (some (.cells (splice c o v.cells))), s.nx⟩ else none
    | _ => none
  | _ => none

/-- A new block. -/
def anew (s : St σ) (c : List AV) : St σ := ⟨Hp.put s.H s.nx (some (.cells c)), s.nx + 1⟩
end

section sound
variable {P : Program} {ρ : Names} {Z : Frozen}

theorem acell_rel (v : Value) : (acell v).rel ρ Z v := by
  unfold acell
  split <;> simp [AV.rel]
theorem acells_rel : ∀ l : List Value, AV.rels ρ Z (l.map acell) l
  | [] => by simp [AV.rels]
  | v :: l => by simp only [List.map_cons]; exact AV.rels_cons (acell_rel v) (acells_rel l)
theorem aconst_rel (v : Value) : (aconst v).rel ρ Z v := by
  cases v
  case agg cs => simp only [aconst, AV.rel]; exact ⟨_, rfl, acells_rel _⟩
  case tuple cs => simp only [aconst, AV.rel]; exact ⟨_, rfl, acells_rel _⟩
  all_goals (simp only [aconst]; exact acell_rel _)

theorem AV.one_cells {x : AV} (h : x.one = true) : x.cells = [x] := by
  cases x <;> simp [AV.one, AV.cells] at *

theorem AV.one_rel {x : AV} {v : Value} (h : x.one = true) (r : x.rel ρ Z v) : v.oneCell' = true := by
  cases x <;> simp only [AV.one, AV.rel, Bool.false_eq_true] at h r
  all_goals first
    | (subst r; rfl)
    | (obtain ⟨p, e, rfl⟩ := r; rfl)
    | (obtain ⟨cb, o, arr, el, fr, e, rfl, s⟩ := r; rfl)
    | (obtain ⟨p, c, o', e, rfl, s⟩ := r; rfl)
    | (obtain ⟨cb, o, c, arr, el, fr, e, rfl, s⟩ := r; rfl)
    | (obtain ⟨n, a, c, rfl, s⟩ := r; rfl)
    | (obtain ⟨y, rfl, s⟩ := r; rfl)

theorem AV.cells_rel {x : AV} {v : Value} (r : x.rel ρ Z v) (hx : x.cells.all AV.one = true) : AV.rels ρ Z x.cells v.cells.toList := by
  cases x <;> simp only [AV.cells] at hx ⊢
  case agg cs =>
    simp only [AV.rel] at r
    obtain ⟨a, rfl, s⟩ := r
    exact s
  all_goals
    simp at hx
    have h1 := AV.one_rel hx r
    have : v.cells = #[v] := by cases v <;> simp_all [Value.cells, Value.oneCell']
    rw [this]
    exact AV.rels_cons r (by simp [AV.rels])

theorem run_isAgg {t : TypeId} {b : Bool} (h : aggB P t = some b) (w : World) : (isAgg t).run P w = .ok b w := by
  unfold aggB at h
  cases hu : P.underlying t with
  | none => simp [hu] at h
  | some d =>
    simp [hu] at h
    unfold isAgg
    rw [Sem.run_bind, run_underlying hu w]
    subst h
    cases d <;> rfl
theorem run_szOf {t : TypeId} {n : Nat} (h : szOf P t = some n) (w : World) : (sizeOf t).run P w = .ok n w := by
  unfold szOf at h
  cases hi : P.info? t with
  | none => simp [hi] at h
  | some i => simp [hi] at h; simp [sizeOf, typeInfo, hi, h]
theorem run_zeroOf {t : TypeId} {z : AV} (h : zeroOf P t = some z) (w : World) : ∃ v, (zeroValue t).run P w = .ok v w ∧ z.rel ρ Z v ∧ z = aconst v := by
  unfold zeroOf at h
  cases hi : P.info? t with
  | none => simp [hi] at h
  | some i =>
    cases hz : i.zero with
    | none => simp [hi, hz] at h
    | some v =>
      simp [hi, hz] at h
      exact ⟨v, by simp [zeroValue, typeInfo, hi, hz], h ▸ aconst_rel v, h.symm⟩

theorem add_addr (b o i : Nat) : (⟨b, o, none⟩ : Addr).add i = ⟨b, o + i, none⟩ := by unfold Addr.add; split <;> simp_all

theorem cell_of_heap {w : World} {b : Nat} {arr : Array Value} {el : TypeId} {fr : Nat × Nat} (h : w.heap[b]? = some (.cells arr el fr)) (j : Nat) :
    w.cell? ⟨b, j, none⟩ = arr[j]? := by simp [World.cell?, h]

/-- The cells that an abstract address leads to are there. -/
theorem loadVar_sound {w : World} {b o : Nat} {arr : Array Value} {el : TypeId} {fr : Nat × Nat} (hb : w.heap[b]? = some (.cells arr el fr))
    {cs : List AV} (hc : AV.rels ρ Z cs ((arr.toList.drop o).take cs.length)) {t : TypeId} {v : AV} (h : aload P t cs = some v) :
    ∃ cv, (loadVar t ⟨b, o, none⟩).run P w = .ok cv w ∧ v.rel ρ Z cv := by
  unfold aload at h
  cases ha : aggB P t with
  | none => simp [ha] at h
  | some g =>
    cases g with
    | true =>
      simp only [ha] at h
      cases hs : szOf P t with
      | none => simp [hs] at h
      | some n =>
        simp only [hs] at h
        split at h
        · rename_i hn
          simp at h; subst h
          have hr : AV.rels ρ Z (cs.take n) ((arr.toList.drop o).take n) := by
            have := AV.rels_take n hc
            rwa [List.take_take, Nat.min_eq_left hn] at this
          have hl : ((arr.toList.drop o).take n).length = n := by
            have := AV.rels_length hr
            rw [this]; simp; omega
          have hrun : (loadCells ⟨b, o, none⟩ n).run P w = .ok ((arr.toList.drop o).take n).toArray w := by
            have := run_loadCells_list (P := P) w ⟨b, o, none⟩ ((arr.toList.drop o).take n) (fun j u hu => by
              rw [add_addr, cell_of_heap hb]
              rw [List.getElem?_take] at hu
              split at hu
              · rw [List.getElem?_drop] at hu
                simpa using hu
              · cases hu)
            rwa [hl] at this
          refine ⟨.agg ((arr.toList.drop o).take n).toArray, ?_, ?_⟩
          · simp [loadVar, Sem.run_bind, run_isAgg ha w, run_szOf hs w, hrun]
          · simp only [AV.rel]; exact ⟨_, rfl, by simpa using hr⟩
        · cases h
    | false =>
      simp only [ha] at h
      cases cs with
      | nil => simp at h
      | cons x xs =>
        simp at h; subst h
        have := AV.rels_getElem? 0 hc (x := x) (by simp)
        obtain ⟨u, hu, hr⟩ := this
        rw [List.getElem?_take] at hu
        simp at hu
        refine ⟨u, ?_, hr⟩
        have hcell : w.cell? ⟨b, o, none⟩ = some u := by
          rw [cell_of_heap hb]
          simpa using hu
        simp [loadVar, Sem.run_bind, run_isAgg ha w, hcell]

variable {E : Env} {s : St σ} {w : World}

abbrev SR (E : Env) (ρ : Names) (Z : Frozen) (s : St σ) (w : World) : Prop := SRel E ρ Z (Hp.get s.H) s.nx w

/-- What a piece of the model's code must come to: a value that stands so, a world that stands so. -/
def Gives (P : Program) (E : Env) (ρ : Names) (Z : Frozen) (m : Sem Value) (w : World) (v : AV) (s' : St σ) (nx : Nat) : Prop :=
  ∃ cv w' ρ' Z', m.run P w = .ok cv w' ∧ Ext ρ Z ρ' Z' ∧ nx ≤ s'.nx ∧ SR E ρ' Z' s' w' ∧ v.rel ρ' Z' cv

/-- An address, and what lies there. -/
theorem cellsAt_sound (h : SR E ρ Z s w) {a : AV} {v : Value} (r : a.rel ρ Z v) {cs : List AV} (hc : cellsAt (Hp.get s.H) a = some cs) :
    ∃ b o arr el fr, v = .pointer (some ⟨b, o, none⟩) ∧ w.heap[b]? = some (.cells arr el fr) ∧ AV.rels ρ Z cs ((arr.toList.drop o).take cs.length) := by
  cases a <;> simp only [cellsAt, reduceCtorEq] at hc
  case ptr b o =>
    cases hb : Hp.get s.H b with
    | none => simp [hb] at hc
    | some k =>
      cases k <;> simp [hb] at hc
      case cells c =>
        subst hc
        simp only [AV.rel] at r
        obtain ⟨p, hp, rfl⟩ := r
        obtain ⟨q, ob, h1, h2, h3, _⟩ := h.live _ _ hb
        rw [hp] at h1; cases h1
        obtain ⟨arr, el, fr, rfl, htop, hl, hr, hf⟩ := h3
        refine ⟨p.block, p.base + o, arr, el, fr, rfl, h2, ?_⟩
        have := AV.rels_drop o hr
        rw [List.drop_take, List.drop_drop] at this
        simpa using this
  case pref =>
    cases hc
    simp only [AV.rel] at r
    obtain ⟨cb, o, arr, el, fr, e, rfl, s'⟩ := r
    exact ⟨cb, o, arr, el, fr, rfl, h.frozen _ _ e, s'⟩

theorem loadAt_sound (h : SR E ρ Z s w) {a : AV} {av : Value} (r : a.rel ρ Z av) {t : TypeId} {cs : List AV} {v : AV} (hc : cellsAt (Hp.get s.H) a = some cs) (hv : aload P t cs = some v) :
    ∃ cv, (Instr.loadAt t av).run P w = .ok cv w ∧ v.rel ρ Z cv := by
  obtain ⟨b, o, arr, el, fr, rfl, hb, hr⟩ := cellsAt_sound h r hc
  obtain ⟨cv, h1, h2⟩ := loadVar_sound hb hr hv
  exact ⟨cv, by simpa [Instr.loadAt, Instr.sureAddr] using h1, h2⟩

theorem setRow_get {w : World} {g : Nat} {cs : Array Value} {arr : Array Value} {el : TypeId} {fr : Nat × Nat} (h : w.heap[g]? = some (.cells arr el fr)) (c : Nat) :
    (w.setRow g cs).heap[c]? = if c = g then some (.cells cs el fr) else w.heap[c]? := by
  simp only [World.setRow, Array.getElem?_modify]
  by_cases hc : c = g
  · subst hc; simp [h]
  · simp [hc, Ne.symm hc]
theorem setRow_below {w : World} {g : Nat} {cs : Array Value} : Below 0 w (w.setRow g cs) :=
  ⟨rfl, rfl, rfl, by simp [World.setRow], fun k hk => by omega⟩

theorem splice_rel {c xs : List AV} {l m : List Value} (h : AV.rels ρ Z c l) (k : AV.rels ρ Z xs m) {o : Nat} (_ho : o + xs.length ≤ c.length) :
    AV.rels ρ Z (splice c o xs) (l.take o ++ m ++ l.drop (o + xs.length)) :=
  AV.rels_append (AV.rels_append (AV.rels_take o h) k) (AV.rels_drop _ h)

theorem splice_length {c xs : List AV} {o : Nat} (ho : o + xs.length ≤ c.length) : (splice c o xs).length = c.length := by
  simp [splice]; omega

/-- Cells are stored into a row that is there. -/
theorem storeRaw {w : World} {g q : Nat} {arr : Array Value} {el : TypeId} {fr : Nat × Nat} (g2 : w.heap[g]? = some (.cells arr el fr)) (hf : ∀ x, x < arr.size → ¬ (fr.1 ≤ x ∧ x < fr.2))
    {m : List Value} (hone : ∀ v ∈ m, v.oneCell' = true) (hlen : q + m.length ≤ arr.size) :
    ∃ w', (storeCells ⟨g, q, none⟩ m).run P w = .ok () w' ∧ Below 0 w w' ∧
      ∀ d : Nat, w'.heap[d]? = if d = g then some (.cells (arr.toList.take q ++ m ++ arr.toList.drop (q + m.length)).toArray el fr) else w.heap[d]? := by
  have hst : (storeCells ⟨g, q, none⟩ m).run P w = .ok () (w.setCells g (q + 0) m) :=
    run_storeCells_cells g q m 0 w (fun j hj => by
      rw [cell_of_heap g2]
      simp; omega) (fun j hj => by
      simp only [World.frozen?, g2]
      have := hf (q + 0 + j) (by omega)
      simp only [Bool.and_eq_false_iff, decide_eq_false_iff_not]
      rcases Nat.lt_or_ge (q + 0 + j) fr.1 with hlt | hge
      · left; omega
      · right; intro hlt; exact this ⟨hge, hlt⟩) hone
  have gen : ∀ (d : Nat) (m : List Value) (q : Nat) (arr : Array Value) (w : World), w.heap[g]? = some (.cells arr el fr) → q + m.length ≤ arr.size →
      (w.setCells g q m).heap[d]? = if d = g then some (.cells (arr.toList.take q ++ m ++ arr.toList.drop (q + m.length)).toArray el fr) else w.heap[d]? := by
    intro d m
    induction m with
    | nil =>
      intro q arr w hw _
      simp only [World.setCells]
      split
      · rename_i e; subst e; simp [hw]
      · rfl
    | cons v m ih =>
      intro q arr w hw hq
      simp only [World.setCells]
      have hset : ∀ d : Nat, (w.setCell ⟨g, q, none⟩ v).heap[d]? = if d = g then some (.cells (arr.setIfInBounds q v) el fr) else w.heap[d]? := by
        intro d
        simp only [World.setCell, Array.getElem?_modify]
        by_cases hd : d = g
        · subst hd; simp [hw]
        · simp [hd, Ne.symm hd]
      rw [ih (q + 1) (arr.setIfInBounds q v) _ (by rw [hset]; simp) (by simp at hq ⊢; omega), hset]
      by_cases hd : d = g
      · simp only [hd, if_true]
        simp at hq
        have := list_seg_step arr.toList q v m (by simp; omega)
        congr 3
        simpa [Array.toList_setIfInBounds, Nat.add_assoc] using this
      · simp [hd]
  have hbel : ∀ (m : List Value) (q : Nat) (w : World), Below 0 w (w.setCells g q m) := by
    intro m
    induction m with
    | nil => intro q w; exact Below.refl 0 w
    | cons v m ih => intro q w; exact ((Below.refl 0 w).setCell (Nat.zero_le _) v).trans (ih _ _)
  exact ⟨_, hst, hbel _ _ _, fun d => by have := gen d m (q + 0) arr w g2 (by omega); simpa using this⟩

theorem rels_one {xs : List AV} {m : List Value} (k : AV.rels ρ Z xs m) (h1 : xs.all AV.one = true) : ∀ v ∈ m, v.oneCell' = true := by
  have hm := AV.rels_length k
  intro v hv
  obtain ⟨i, hi, he⟩ := List.getElem_of_mem hv
  have hxi : i < xs.length := by omega
  obtain ⟨u, hu, hru⟩ := AV.rels_getElem? i k (x := xs[i]) (by simp [hxi])
  have : u = v := by
    rw [List.getElem?_eq_getElem hi] at hu
    simp at hu; rw [← hu, he]
  subst this
  exact AV.one_rel (by simpa using List.all_eq_true.1 h1 _ (List.getElem_mem hxi)) hru

/-- Cells are stored into a live block. -/
theorem storeCells_sound (h : SR E ρ Z s w) {b o : Nat} {c : List AV} (hb : Hp.get s.H b = some (.cells c)) {p : Pl} (hp : ρ b = some p)
    {xs : List AV} {m : List Value} (k : AV.rels ρ Z xs m) (h1 : xs.all AV.one = true) (ho : o + xs.length ≤ c.length) :
    ∃ w', (storeCells ⟨p.block, p.base + o, none⟩ m).run P w = .ok () w' ∧ SR E ρ Z (⟨Hp.put s.H b (some (.cells (splice c o xs))), s.nx⟩ : St σ) w' := by
  obtain ⟨q, ob, g1, g2, g3, _⟩ := h.live _ _ hb
  rw [hp] at g1; cases g1
  obtain ⟨arr, el, fr, rfl, htop, hl, hr, hf⟩ := g3
  have hm := AV.rels_length k
  obtain ⟨w', hst, hbel, hget⟩ := storeRaw (P := P) g2 hf (rels_one k h1) (q := p.base + o) (by omega)
  refine ⟨_, hst, ?_⟩
  show SRel E ρ Z (Hp.get (Hp.put s.H b _)) s.nx _
  rw [Hp.get_put]
  refine h.setBlk hb hp (o' := .cells (arr.toList.take (p.base + o) ++ m ++ arr.toList.drop (p.base + o + m.length)).toArray el fr) hget hbel ?_
  refine ⟨_, el, fr, rfl, ?_, ?_, ?_, ?_⟩
  · simp; omega
  · simp [splice_length ho]; omega
  · rw [splice_length ho]
    have e : List.take c.length (List.drop p.base (arr.toList.take (p.base + o) ++ m ++ arr.toList.drop (p.base + o + m.length)).toArray.toList) =
        ((arr.toList.drop p.base).take c.length).take o ++ m ++ ((arr.toList.drop p.base).take c.length).drop (o + xs.length) := by
      apply List.ext_getElem?
      intro i
      simp only [List.getElem?_take, List.getElem?_drop, List.getElem?_append, List.length_append, List.length_take, List.length_drop, Array.length_toList]
      rw [hm]
      repeat' split
      all_goals first
        | rfl
        | omega
        | (congr 1; omega)
    rw [e]
    exact splice_rel hr k ho
  · intro x hx
    exact hf x (by simp at hx; omega)

theorem storeAt_sound (h : SR E ρ Z s w) {a x : AV} {av xv : Value} (r : a.rel ρ Z av) (k : x.rel ρ Z xv) {t : TypeId} {s' : St σ} (hs : astore P s t a x = some s') :
    ∃ w', (Instr.storeAt t av xv).run P w = .ok () w' ∧ SR E ρ Z s' w' ∧ s'.nx = s.nx := by
  unfold astore at hs
  split at hs
  · rename_i b o
    cases hb : Hp.get s.H b with
    | none => simp [hb] at hs
    | some kb =>
      cases kb <;> simp only [hb] at hs <;> try (simp at hs; done)
      rename_i c
      split at hs
      · rename_i hc
        obtain ⟨hsz, hle, hone⟩ := hc
        simp at hs; subst hs
        simp only [AV.rel] at r
        obtain ⟨p, hp, rfl⟩ := r
        have kr := AV.cells_rel k hone
        obtain ⟨w', h1, h2⟩ := storeCells_sound (P := P) h hb hp kr hone hle
        have hl : xv.cells.size = x.cells.length := by
          have := AV.rels_length kr
          simpa using this
        refine ⟨w', ?_, h2, rfl⟩
        simp [Instr.storeAt, Instr.sureAddr, storeVar, run_szOf hsz w, hl, h1]
      · cases hs
  · cases hs

/-- A new row of cells. -/
theorem newRow_sound (h : SR E ρ Z s w) (elem : TypeId) {c : List AV} {arr : Array Value} (hc : AV.rels ρ Z c (arr.toList.take c.length)) (hl : c.length ≤ arr.size) :
    ∃ ρ', (newRow elem arr).run P w = .ok ⟨w.heap.size, 0, none⟩ (w.alloc (.cells arr elem)) ∧ Ext ρ Z ρ' Z ∧ SR E ρ' Z (anew s c) (w.alloc (.cells arr elem)) ∧
      ρ' s.nx = some ⟨w.heap.size, 0, arr.size⟩ := by
  refine ⟨ρ.put s.nx ⟨w.heap.size, 0, arr.size⟩, (by simp only [newRow, Sem.run_bind, run_newObj, Result.andThen_ok, Sem.run_pure]; rfl), ext_put h.noName _, ?_, by simp [Names.put]⟩
  show SRel E _ Z (Hp.get (Hp.put s.H s.nx _)) _ _
  rw [Hp.get_put]
  refine h.newBlk ⟨arr, elem, (0, 0), rfl, rfl, by simpa using hl, ?_, ?_⟩
  · exact AV.rels_mono (ext_put h.noName _) _ _ (by simpa using hc)
  · intro x hx; simp

theorem alloc_sound (h : SR E ρ Z s w) {t : TypeId} {z : AV} (hz : zeroOf P t = some z) (hone : z.cells.all AV.one = true) :
    Gives P E ρ Z (Instr.alloc t true (.tuple #[])) w (.ptr s.nx 0) (anew s z.cells) s.nx := by
  obtain ⟨v, h1, h2, _⟩ := run_zeroOf (ρ := ρ) (Z := Z) hz w
  have hr := AV.cells_rel h2 hone
  have hl := AV.rels_length hr
  obtain ⟨ρ', g1, g2, g3, g4⟩ := newRow_sound (P := P) h t (c := z.cells) (arr := v.cells) (by rw [List.take_of_length_le (by omega)]; exact hr) (by simp at hl; omega)
  refine ⟨.pointer (some ⟨w.heap.size, 0, none⟩), _, ρ', Z, ?_, g2, by simp [anew], g3, ?_⟩
  · simp only [Instr.alloc, newVar, Sem.run_bind, h1, Result.andThen_ok, g1, Sem.run_pure]
  · simp only [AV.rel]; exact ⟨_, g4, rfl⟩

theorem box_sound (h : SR E ρ Z s w) {t : TypeId} {x : AV} {xv : Value} (k : x.rel ρ Z xv) (hone : x.cells.all AV.one = true) :
    Gives P E ρ Z (Instr.box t xv) w (.ptr s.nx 0) (anew s x.cells) s.nx := by
  have hr := AV.cells_rel k hone
  have hl := AV.rels_length hr
  obtain ⟨ρ', g1, g2, g3, g4⟩ := newRow_sound (P := P) h t (c := x.cells) (arr := xv.cells) (by rw [List.take_of_length_le (by omega)]; exact hr) (by simp at hl; omega)
  refine ⟨.pointer (some ⟨w.heap.size, 0, none⟩), _, ρ', Z, ?_, g2, by simp [anew], g3, ?_⟩
  · simp only [Instr.box, newVar, Sem.run_bind, Result.andThen_ok, g1, Sem.run_pure]
  · simp only [AV.rel]; exact ⟨_, g4, rfl⟩
end sound
end Go.Am

/- What the operations that look at values alone come to on the abstract level. -/
namespace Go.Am
open Go.RowKit

variable {σ : Type} [Hp σ]

section
variable (P : Program)

def afieldAddr (t : TypeId) (x : AV) (f : Nat) : Option AV :=
  match P.underlying t with
  | some (.struct fs) =>
    match fs[f]? with
    | some fd =>
      match szOf P fd.type with
      | some (_ + 1) =>
        match x with
        | .ptr b o => some (.ptr b (o + fd.offset))
        | .pref cs => some (.pref (cs.drop fd.offset))
        | _ => none
      | _ => none
    | none => none
  | _ => none

def afield (t : TypeId) (x : AV) (f : Nat) : Option AV :=
  match P.underlying t with
  | some (.struct fs) =>
    match fs[f]? with
    | some fd =>
      match x with
      | .agg cs => aload P fd.type (cs.drop fd.offset)
      | _ => none
    | none => none
  | _ => none

def aindexAddr (t : TypeId) (x i : AV) : Option AV :=
  match i with
  | .int _ i =>
    match P.underlying t, x with
    | some (.array len elem), .ptr b o => match szOf P elem with
      | some n => if 0 ≤ i ∧ i < len then some (.ptr b (o + i.toNat * n)) else none
      | none => none
    | some (.array len elem), .pref cs => match szOf P elem with
      | some n => if 0 ≤ i ∧ i < len then some (.pref (cs.drop (i.toNat * n))) else none
      | none => none
    | some (.slice elem), .slice b o len _ _ _ => match szOf P elem with
      | some n => if 0 ≤ i ∧ i < len then some (.ptr b (o + i.toNat * n)) else none
      | none => none
    | some (.slice elem), .vec cs len _ => match szOf P elem with
      | some n => if 0 ≤ i ∧ i < len then some (.pref (cs.drop (i.toNat * n))) else none
      | none => none
    | _, _ => none
  | _ => none

def aindex (t : TypeId) (x i : AV) : Option AV :=
  match i with
  | .int _ i =>
    match P.underlying t, x with
    | some (.array len elem), .agg cs => match szOf P elem with
      | some n => if 0 ≤ i ∧ i < len then aload P elem (cs.drop (i.toNat * n)) else none
      | none => none
    | some .string, .str s => if 0 ≤ i then (s[i.toNat]?).map fun b => .int .u8 b.toNat else none
    | _, _ => none
  | _ => none

def aextract (x : AV) (i : Nat) : Option AV :=
  match x with
  | .tuple vs => vs[i]?
  | _ => none

def alen (H : Heap) (t : TypeId) (x : AV) : Option AV :=
  match P.underlying t, x with
  | some .string, .str s => some (.int .i64 s.length)
  | some (.array n _), _ => some (.int .i64 n)
  | some (.slice _), .nilSlice => some (.int .i64 0)
  | some (.slice _), .slice _ _ n _ _ _ => some (.int .i64 n)
  | some (.slice _), .vec _ n _ => some (.int .i64 n)
  | some (.map _ _), .nilMap => some (.int .i64 0)
  | some (.map _ _), .map b => match H b with
    | some (.map es _) => some (.int .i64 es.length)
    | some (.lit es) => some (.int .i64 es.length)
    | _ => none
  | _, _ => none

def amax : List AV → Option AV
  | [.int k x, .int _ y] => some (.int k (if y > x then y else x))
  | [.int k x, .int _ y, .int _ z] => some (.int k (if z > (if y > x then y else x) then z else (if y > x then y else x)))
  | _ => none
def amin : List AV → Option AV
  | [.int k x, .int _ y] => some (.int k (if y < x then y else x))
  | _ => none

def aint (op : BinOp) (k : IntKind) (x y : Int) : Option AV :=
  match op with
  | .add => some (.int k (k.wrap (x + y)))
  | .sub => some (.int k (k.wrap (x - y)))
  | .mul => some (.int k (k.wrap (x * y)))
  | .quo => if y = 0 then none else some (.int k (k.wrap (x.tdiv y)))
  | .rem => if y = 0 then none else some (.int k (x.tmod y))
  | .and => some (.int k (k.wrap (BitVec.ofInt k.bits x &&& BitVec.ofInt k.bits y).toNat))
  | .or => some (.int k (k.wrap (BitVec.ofInt k.bits x ||| BitVec.ofInt k.bits y).toNat))
  | .xor => some (.int k (k.wrap (BitVec.ofInt k.bits x ^^^ BitVec.ofInt k.bits y).toNat))
  | .eql => some (.bool (x == y))
  | .neq => some (.bool (x != y))
  | .lss => some (.bool (x < y))
  | .leq => some (.bool (x ≤ y))
  | .gtr => some (.bool (x > y))
  | .geq => some (.bool (x ≥ y))
  | _ => none

/-- Are the fields the same? -/
def aeqFields (eq : TypeId → AV → AV → Option Bool) (xs ys : List AV) : List Field → Option Bool
  | [] => some true
  | f :: fs =>
    if f.name ≠ "_" then
      match aload P f.type (xs.drop f.offset), aload P f.type (ys.drop f.offset) with
      | some a, some b =>
        match eq f.type a b with
        | some true => aeqFields eq xs ys fs
        | r => r
      | _, _ => none
    else aeqFields eq xs ys fs

/-- Are two values of a type the same? -/
def aeq : Nat → TypeId → AV → AV → Option Bool
  | 0, _, _, _ => none
  | d + 1, t, x, y =>
    match P.underlying t, x, y with
    | some .bool, .bool a, .bool b => some (a == b)
    | some (.int _), .int k a, .int k' b => if k = k' then some (a == b) else none
    | some .string, .str a, .str b => some (a == b)
    | some (.pointer _), .nilPtr, .nilPtr => some true
    | some (.pointer _), .nilPtr, .ptr _ _ => some false
    | some (.pointer _), .nilPtr, .pref _ => some false
    | some (.pointer _), .ptr _ _, .nilPtr => some false
    | some (.pointer _), .pref _, .nilPtr => some false
    | some (.slice _), .nilSlice, .nilSlice => some true
    | some (.slice _), .slice .., .nilSlice => some false
    | some (.slice _), .vec .., .nilSlice => some false
    | some (.slice _), .nilSlice, .slice .. => some false
    | some (.slice _), .nilSlice, .vec .. => some false
    | some (.map _ _), .nilMap, .nilMap => some true
    | some (.map _ _), .map _, .nilMap => some false
    | some (.map _ _), .nilMap, .map _ => some false
    | some (.func _ _ _), .nilFunc, .nilFunc => some true
    | some (.func _ _ _), .func .., .nilFunc => some false
    | some (.func _ _ _), .yld _, .nilFunc => some false
    | some (.func _ _ _), .nilFunc, .func .. => some false
    | some (.interface _), .nilIface, .nilIface => some true
    | some (.interface _), .nilIface, .iface _ _ => some false
    | some (.interface _), .iface _ _, .nilIface => some false
    | some (.struct fs), .agg xs, .agg ys =>
      if P.stoodInHeld t then none else aeqFields P (aeq d) xs ys fs.toList
    | _, _, _ => none

def abin (op : BinOp) (t : TypeId) (cx cy : Bool) (x y : AV) : Option AV :=
  match x, y with
  | .int k a, .int k' b =>
    match op with
    | .shl => if b < 0 then none else some (.int k (k.wrap (a * 2 ^ (min b.toNat k.bits))))
    | .shr => if b < 0 then none else some (.int k (a.fdiv (2 ^ (min b.toNat k.bits))))
    | _ => if k = k' then aint op k a b else none
  | .str a, .str b =>
    match op with
    | .add => if a.length + b.length ≤ 2 ^ 62 then some (.str (a ++ b)) else none
    | .eql => some (.bool (a == b))
    | .neq => some (.bool !(a == b))
    | _ => none
  | .nilIface, .nilIface =>
    if cx || cy then
      match op with
      | .eql => (aeq P 10000 t x y).map .bool
      | .neq => (aeq P 10000 t x y).map fun b => .bool !b
      | _ => none
    else none
  | .agg _, .agg _ =>
    if P.eqGuardType P.depth t then none else
    match op with
    | .eql => (aeq P 10000 t x y).map .bool
    | .neq => (aeq P 10000 t x y).map fun b => .bool !b
    | _ => none
  | .junk, _ | _, .junk => none
  | _, _ =>
    match op with
    | .eql => (aeq P 10000 t x y).map .bool
    | .neq => (aeq P 10000 t x y).map fun b => .bool !b
    | _ => none

def aun (op : UnOp) (x : AV) : Option AV :=
  match op, x with
  | .neg, .int k n => some (.int k (k.wrap (0 - n)))
  | .not, .bool b => some (.bool !b)
  | _, _ => none

def aconv (src dst : TypeId) (x : AV) : Option AV :=
  match P.underlying src, P.underlying dst, x with
  | some _, some (.int k), .int _ n => some (.int k (k.wrap n))
  | _, _, _ => none

def amkIface (t : TypeId) (x : AV) : Option AV :=
  match P.underlying t with
  | some (.interface _) => none
  | some _ => some (.iface t x)
  | none => none

def aassert (x : AV) (t : TypeId) (ok : Bool) : Option AV :=
  match P.underlying t with
  | some (.interface _) => none
  | some _ =>
    match x with
    | .nilIface => if ok then (zeroOf P t).map fun z => .tuple [z, .bool false] else none
    | .iface u v => if u = t then some (if ok then .tuple [v, .bool true] else v) else if ok then (zeroOf P t).map fun z => .tuple [z, .bool false] else none
    | _ => none
  | none => none
end

section sound
variable {P : Program} {ρ : Names} {Z : Frozen} {w : World}

/-- The same for code that leaves the world alone. -/
def Tells (P : Program) (ρ : Names) (Z : Frozen) (m : Sem Value) (w : World) (v : AV) : Prop := ∃ cv, m.run P w = .ok cv w ∧ v.rel ρ Z cv

theorem rels_drop_pref {cs : List AV} {l : List Value} {o k : Nat} (h : AV.rels ρ Z cs ((l.drop o).take cs.length)) :
    AV.rels ρ Z (cs.drop k) ((l.drop (o + k)).take (cs.drop k).length) := by
  have := AV.rels_drop k h
  rw [List.drop_take, List.drop_drop] at this
  simpa using this

theorem fieldAddr_sound {t : TypeId} {x v : AV} {f : Nat} {xv : Value} (r : x.rel ρ Z xv) (h : afieldAddr P t x f = some v) :
    Tells P ρ Z (Instr.fieldAt t xv f) w v := by
  unfold afieldAddr at h
  split at h <;> try (cases h; done)
  rename_i fs hu
  split at h <;> try (cases h; done)
  rename_i fd hf
  split at h <;> try (cases h; done)
  rename_i n hn
  split at h <;> try (cases h; done)
  · rename_i b o
    cases h
    simp only [AV.rel] at r
    obtain ⟨p, hp, rfl⟩ := r
    refine ⟨.pointer (some ⟨p.block, p.base + (o + fd.offset), none⟩), ?_, by simp only [AV.rel]; exact ⟨p, hp, rfl⟩⟩
    simp [Instr.fieldAt, run_underlying hu w, hf, Instr.sureAddr, fieldPlace, run_szOf hn w, add_addr, Nat.add_assoc]
  · rename_i cs
    cases h
    simp only [AV.rel] at r
    obtain ⟨cb, o, arr, el, fr, e, rfl, s⟩ := r
    refine ⟨.pointer (some ⟨cb, o + fd.offset, none⟩), ?_, by simp only [AV.rel]; exact ⟨cb, _, arr, el, fr, e, rfl, rels_drop_pref s⟩⟩
    simp [Instr.fieldAt, run_underlying hu w, hf, Instr.sureAddr, fieldPlace, run_szOf hn w, add_addr]

theorem part_sound {cs : List AV} {arr : Array Value} (r : AV.rels ρ Z cs arr.toList) {t : TypeId} {o : Nat} {v : AV} (h : aload P t (cs.drop o) = some v) :
    Tells P ρ Z (part t arr o) w v := by
  have hl := AV.rels_length r
  have r' := AV.rels_drop o r
  unfold aload at h
  cases ha : aggB P t with
  | none => simp [ha] at h
  | some g =>
    cases g with
    | true =>
      simp only [ha] at h
      cases hs : szOf P t with
      | none => simp [hs] at h
      | some n =>
        simp only [hs] at h
        split at h
        · rename_i hn
          simp at h; subst h
          refine ⟨.agg (arr.extract o (o + n)), ?_, ?_⟩
          · simp [part, run_isAgg ha w, run_szOf hs w]
          · simp only [AV.rel]
            refine ⟨_, rfl, ?_⟩
            have := AV.rels_take n r'
            simpa [Array.toList_extract, List.extract] using this
        · cases h
    | false =>
      simp only [ha] at h
      cases hd : cs.drop o with
      | nil => simp [hd] at h
      | cons x xs =>
        simp [hd] at h; subst h
        obtain ⟨u, hu, hr⟩ := AV.rels_getElem? 0 r' (x := x) (by simp [hd])
        refine ⟨u, ?_, hr⟩
        have hc : arr[o]? = some u := by simpa using hu
        simp [part, run_isAgg ha w, hc]

theorem field_sound {t : TypeId} {x v : AV} {f : Nat} {xv : Value} (r : x.rel ρ Z xv) (h : afield P t x f = some v) :
    Tells P ρ Z (Instr.field t xv f) w v := by
  unfold afield at h
  split at h <;> try (cases h; done)
  rename_i fs hu
  split at h <;> try (cases h; done)
  rename_i fd hf
  split at h <;> try (cases h; done)
  rename_i cs
  simp only [AV.rel] at r
  obtain ⟨a, rfl, s⟩ := r
  obtain ⟨cv, h1, h2⟩ := part_sound (w := w) s h
  exact ⟨cv, by simp [Instr.field, run_underlying hu w, hf, asAgg, h1], h2⟩

theorem extract_sound {x v : AV} {i : Nat} {xv : Value} (r : x.rel ρ Z xv) (h : aextract x i = some v) : Tells P ρ Z (Instr.extract xv i) w v := by
  unfold aextract at h
  split at h <;> try (cases h; done)
  simp only [AV.rel] at r
  obtain ⟨a, rfl, s⟩ := r
  obtain ⟨u, hu, hr⟩ := AV.rels_getElem? i s h
  have hu' : a[i]? = some u := by simpa using hu
  exact ⟨u, by simp [Instr.extract, hu'], hr⟩

theorem indexAddr_sound {t : TypeId} {x i v : AV} {xv iv : Value} (r : x.rel ρ Z xv) (k : i.rel ρ Z iv) (h : aindexAddr P t x i = some v) :
    Tells P ρ Z (Instr.indexAt t xv iv) w v := by
  unfold aindexAddr at h
  split at h <;> try (cases h; done)
  rename_i kk n
  simp only [AV.rel] at k
  subst k
  split at h <;> try (cases h; done)
  all_goals
    rename_i hu
    split at h <;> try (cases h; done)
    rename_i sz hs
    split at h <;> try (cases h; done)
    rename_i hb
    cases h
    simp only [AV.rel] at r
  · obtain ⟨p, hp, rfl⟩ := r
    refine ⟨.pointer (some ⟨p.block, p.base + (_ + n.toNat * sz), none⟩), ?_, by simp only [AV.rel]; exact ⟨p, hp, rfl⟩⟩
    simp [Instr.indexAt, run_underlying hu w, asIntOf, Instr.sureAddr, hb, run_szOf hs w, add_addr, Nat.add_assoc]
  · obtain ⟨cb, o, arr, el, fr, e, rfl, s⟩ := r
    refine ⟨.pointer (some ⟨cb, o + n.toNat * sz, none⟩), ?_, by simp only [AV.rel]; exact ⟨cb, _, arr, el, fr, e, rfl, rels_drop_pref s⟩⟩
    simp [Instr.indexAt, run_underlying hu w, asIntOf, Instr.sureAddr, hb, run_szOf hs w, add_addr]
  · obtain ⟨p, cc, o', hp, rfl, l1, l2, l3, l4⟩ := r
    have ho := (l4 (by omega)).1
    subst ho
    refine ⟨.pointer (some ⟨p.block, p.base + (_ + n.toNat * sz), none⟩), ?_, by simp only [AV.rel]; exact ⟨p, hp, rfl⟩⟩
    simp [Instr.indexAt, run_underlying hu w, asIntOf, hb, run_szOf hs w, add_addr, Nat.add_assoc]
  · obtain ⟨cb, o, cc, arr, el, fr, e, rfl, l1, l2, s⟩ := r
    refine ⟨.pointer (some ⟨cb, o + n.toNat * sz, none⟩), ?_, by simp only [AV.rel]; exact ⟨cb, _, arr, el, fr, e, rfl, rels_drop_pref s⟩⟩
    simp [Instr.indexAt, run_underlying hu w, asIntOf, hb, run_szOf hs w, add_addr]

theorem bs_size (l : List UInt8) : (ByteArray.mk l.toArray).size = l.length := rfl

theorem index_sound {t : TypeId} {x i v : AV} {xv iv : Value} (r : x.rel ρ Z xv) (k : i.rel ρ Z iv) (h : aindex P t x i = some v) :
    Tells P ρ Z (Instr.index t xv iv) w v := by
  unfold aindex at h
  split at h <;> try (cases h; done)
  rename_i kk n
  simp only [AV.rel] at k
  subst k
  split at h <;> try (cases h; done)
  · rename_i len elem cs hu
    split at h <;> try (cases h; done)
    rename_i sz hs
    split at h <;> try (cases h; done)
    rename_i hb
    simp only [AV.rel] at r
    obtain ⟨a, rfl, s⟩ := r
    obtain ⟨cv, h1, h2⟩ := part_sound (w := w) s h
    exact ⟨cv, by simp [Instr.index, run_underlying hu w, asIntOf, hb, run_szOf hs w, h1], h2⟩
  · rename_i s hu
    simp only [AV.rel] at r
    subst r
    split at h <;> try (cases h; done)
    rename_i hb
    cases he : s[n.toNat]? with
    | none => simp [he] at h
    | some b =>
      simp [he] at h; subst h
      have hlt : n.toNat < s.length := by
        rcases Nat.lt_or_ge n.toNat s.length with h1 | h1
        · exact h1
        · rw [List.getElem?_eq_none h1] at he; cases he
      have hb' : s[n.toNat] = b := by rw [List.getElem?_eq_getElem hlt] at he; simpa using he
      refine ⟨.int .u8 b.toNat, ?_, by simp [AV.rel]⟩
      have hg : (⟨s.toArray⟩ : ByteArray)[n.toNat]? = some b := by
        have hsz : n.toNat < (⟨s.toArray⟩ : ByteArray).size := by rw [bs_size]; exact hlt
        rw [getElem?_pos (ByteArray.mk s.toArray) n.toNat hsz]
        simp [ByteArray.getElem_eq_getElem_data, hb']
      simp [Instr.index, run_underlying hu w, asIntOf, hb, hg]

theorem len_sound {E : Env} {H : Heap} {nx : Nat} (hh : SRel E ρ Z H nx w) {t ty : TypeId} {ts : Array TypeId} {x v : AV} {xv : Value} (ht : ts[0]? = some t) (r : x.rel ρ Z xv) (h : alen P H t x = some v) :
    Tells P ρ Z (Builtin.len_ ts ty #[xv]) w v := by
  unfold alen at h
  split at h <;> try (cases h; done)
  · rename_i s hu
    cases h
    simp only [AV.rel] at r; subst r
    exact ⟨.int .i64 s.length, by simp [Builtin.len_, ht, run_underlying hu w, goInt, bs_size], by simp [AV.rel]⟩
  · rename_i n e hu
    cases h
    exact ⟨.int .i64 n, by simp [Builtin.len_, ht, run_underlying hu w, goInt], by simp [AV.rel]⟩
  · rename_i e hu
    cases h
    simp only [AV.rel] at r; subst r
    exact ⟨.int .i64 0, by simp [Builtin.len_, ht, run_underlying hu w, goInt], by simp [AV.rel]⟩
  · rename_i e b o n c sz tt hu
    cases h
    simp only [AV.rel] at r
    obtain ⟨p, cc, o', hp, rfl, _⟩ := r
    exact ⟨.int .i64 n, by simp [Builtin.len_, ht, run_underlying hu w, goInt], by simp [AV.rel]⟩
  · rename_i e cs n tt hu
    cases h
    simp only [AV.rel] at r
    obtain ⟨cb, o, cc, arr, el, fr, e, rfl, _⟩ := r
    exact ⟨.int .i64 n, by simp [Builtin.len_, ht, run_underlying hu w, goInt], by simp [AV.rel]⟩
  · rename_i k e hu
    cases h
    simp only [AV.rel] at r; subst r
    exact ⟨.int .i64 0, by simp [Builtin.len_, ht, run_underlying hu w, goInt], by simp [AV.rel]⟩
  · rename_i k e b hu
    simp only [AV.rel] at r
    obtain ⟨p, hp, rfl⟩ := r
    have ml : ∀ {es : List (AV × AV × Nat)} {l : List MapEntry}, mrels ρ Z es l → l.length = es.length := by
      intro es
      induction es with
      | nil => intro l h; simp [mrels] at h; simp [h]
      | cons q es ih => intro l h; obtain ⟨a, b, c⟩ := q; simp only [mrels] at h; obtain ⟨e, l', rfl, _, _, _, h⟩ := h; simp [ih h]
    have ll : ∀ {es : List (AV × AV)} {l : List MapEntry}, lrels ρ Z es l → l.length = es.length := by
      intro es
      induction es with
      | nil => intro l h; simp [lrels] at h; simp [h]
      | cons q es ih => intro l h; obtain ⟨a, b⟩ := q; simp only [lrels] at h; obtain ⟨e, l', rfl, _, _, h⟩ := h; simp [ih h]
    split at h <;> try (cases h; done)
    · rename_i es clock hb
      cases h
      obtain ⟨q, ob, h1, h2, h3, _⟩ := hh.live _ _ hb
      rw [hp] at h1; cases h1
      obtain ⟨ents, rfl, hm⟩ := h3
      have hl := ml hm
      refine ⟨.int .i64 es.length, ?_, by simp [AV.rel]⟩
      simp [Builtin.len_, ht, run_underlying hu w, goInt, getObj, Sem.run, h2]
      simp at hl; omega
    · rename_i es hb
      cases h
      obtain ⟨q, ob, h1, h2, h3, _⟩ := hh.live _ _ hb
      rw [hp] at h1; cases h1
      obtain ⟨ents, n, l, rfl, hperm, hm⟩ := h3
      have hl := ll hm
      have hl' := hperm.length_eq
      refine ⟨.int .i64 es.length, ?_, by simp [AV.rel]⟩
      simp [Builtin.len_, ht, run_underlying hu w, goInt, getObj, Sem.run, h2]
      simp at hl'; omega

theorem max_sound {ts : Array TypeId} {ty : TypeId} {xs : List AV} {v : AV} {vs : Array Value} (r : AV.rels ρ Z xs vs.toList) (h : amax xs = some v) : Tells P ρ Z (Builtin.max_ ts ty vs) w v := by
  unfold amax at h
  split at h <;> try (cases h; done)
  · cases h
    simp only [AV.rels, AV.rel] at r
    obtain ⟨a, l, e, rfl, b, l', rfl, rfl, rfl⟩ := r
    refine ⟨_, by simp only [Builtin.max_, e, List.foldlM, Builtin.max2, Sem.run_bind, Sem.run_pure, Result.andThen_ok]; rfl, by simp [AV.rel]⟩
  · cases h
    simp only [AV.rels, AV.rel] at r
    obtain ⟨a, l, e, rfl, b, l', rfl, rfl, c, l'', rfl, rfl, rfl⟩ := r
    refine ⟨_, by simp only [Builtin.max_, e, List.foldlM, Builtin.max2, Sem.run_bind, Sem.run_pure, Result.andThen_ok]; rfl, by simp [AV.rel]⟩
theorem min_sound {ts : Array TypeId} {ty : TypeId} {xs : List AV} {v : AV} {vs : Array Value} (r : AV.rels ρ Z xs vs.toList) (h : amin xs = some v) : Tells P ρ Z (Builtin.min_ ts ty vs) w v := by
  unfold amin at h
  split at h <;> try (cases h; done)
  · cases h
    simp only [AV.rels, AV.rel] at r
    obtain ⟨a, l, e, rfl, b, l', rfl, rfl, rfl⟩ := r
    refine ⟨_, by simp only [Builtin.min_, e, List.foldlM, Builtin.min2, Sem.run_bind, Sem.run_pure, Result.andThen_ok]; rfl, by simp [AV.rel]⟩

theorem eqFields_sound {d : Nat} (ih : ∀ (t : TypeId) (x y : AV) (xv yv : Value) (b : Bool), aeq P d t x y = some b → x.rel ρ Z xv → y.rel ρ Z yv → (Op.equalIn d t xv yv).run P w = .ok b w)
    {xs ys : List AV} {a c : Array Value} (r : AV.rels ρ Z xs a.toList) (k : AV.rels ρ Z ys c.toList) : ∀ (fs : List Field) (b : Bool), aeqFields P (aeq P d) xs ys fs = some b →
    (Op.eqFields d a c fs).run P w = .ok b w
  | [], b, h => by simp [aeqFields] at h; subst h; simp [Op.eqFields]
  | f :: fs, b, h => by
    simp only [aeqFields] at h
    simp only [Op.eqFields, Sem.run_ite]
    split at h
    · rename_i hn
      rw [if_pos hn]
      split at h <;> try (cases h; done)
      rename_i x y hx hy
      obtain ⟨xv, h1, h2⟩ := part_sound (w := w) r hx
      obtain ⟨yv, h3, h4⟩ := part_sound (w := w) k hy
      simp only [Sem.run_bind, h1, h3, Result.andThen_ok]
      split at h
      · rename_i he
        rw [ih _ _ _ _ _ _ he h2 h4]
        simp [eqFields_sound ih r k fs b h]
      · rename_i he
        have hb : aeq P d f.type x y = some b := h
        have : b = false := by
          cases b
          · rfl
          · exact absurd hb he
        subst this
        rw [ih _ _ _ _ _ _ hb h2 h4]
        simp
    · rename_i hn
      rw [if_neg hn]
      exact eqFields_sound ih r k fs b h

theorem beq_str (a b : List UInt8) : ((ByteArray.mk a.toArray) == (ByteArray.mk b.toArray)) = (a == b) := by
  rw [beq_toListBytes, ByteArray.toList_eq, ByteArray.toList_eq]

theorem fieldsOf_of {t : TypeId} {fs : Array Field} (hu : P.underlying t = some (.struct fs)) : P.fieldsOf t = fs := by simp [Program.fieldsOf, hu]

set_option maxHeartbeats 2000000 in
theorem aeq_sound : ∀ (d : Nat) (t : TypeId) (x y : AV) (xv yv : Value) (b : Bool), aeq P d t x y = some b → x.rel ρ Z xv → y.rel ρ Z yv → (Op.equalIn d t xv yv).run P w = .ok b w
  | 0, t, x, y, xv, yv, b, h, _, _ => by simp [aeq] at h
  | d + 1, t, x, y, xv, yv, b, h, r, k => by
    unfold aeq at h
    split at h <;> try (cases h; done)
    all_goals
      rename_i hu
      simp only [AV.rel] at r k
    all_goals first
      | (split at h
         · cases h
         · rename_i hs
           obtain ⟨a, rfl, r⟩ := r
           obtain ⟨c, rfl, k⟩ := k
           have hf := fieldsOf_of hu
           rw [run_equalIn_struct w d t a c (by rw [hf]; exact hu) (by simpa using hs), hf]
           exact eqFields_sound (fun t x y xv yv b => aeq_sound d t x y xv yv b) r k _ b h)
      | (simp at h; subst h; subst r; subst k; simp [Op.equalIn, run_underlying hu w]; done)
      | (split at h <;> simp at h; subst h; rename_i hk; subst hk; subst r; subst k; simp [Op.equalIn, run_underlying hu w]; done)
      | (simp at h; subst h; subst r; subst k; simp [Op.equalIn, run_underlying hu w, beq_str]; done)
      | (simp at h; subst h; subst r; obtain ⟨p, hp, rfl⟩ := k; simp [Op.equalIn, run_underlying hu w]; done)
      | (simp at h; subst h; subst k; obtain ⟨p, hp, rfl⟩ := r; simp [Op.equalIn, run_underlying hu w]; done)
      | (simp at h; subst h; subst r; obtain ⟨cb, o, arr, el, fr, e, rfl, s⟩ := k; simp [Op.equalIn, run_underlying hu w]; done)
      | (simp at h; subst h; subst k; obtain ⟨cb, o, arr, el, fr, e, rfl, s⟩ := r; simp [Op.equalIn, run_underlying hu w]; done)
      | (simp at h; subst h; subst r; obtain ⟨p, c, o', e, rfl, s⟩ := k; simp [Op.equalIn, run_underlying hu w]; done)
      | (simp at h; subst h; subst k; obtain ⟨p, c, o', e, rfl, s⟩ := r; simp [Op.equalIn, run_underlying hu w]; done)
      | (simp at h; subst h; subst r; obtain ⟨cb, o, c, arr, el, fr, e, rfl, s⟩ := k; simp [Op.equalIn, run_underlying hu w]; done)
      | (simp at h; subst h; subst k; obtain ⟨cb, o, c, arr, el, fr, e, rfl, s⟩ := r; simp [Op.equalIn, run_underlying hu w]; done)
      | (simp at h; subst h; subst r; obtain ⟨n, a, c, rfl, s⟩ := k; simp [Op.equalIn, run_underlying hu w]; done)
      | (simp at h; subst h; subst k; obtain ⟨n, a, c, rfl, s⟩ := r; simp [Op.equalIn, run_underlying hu w]; done)
      | (simp at h; subst h; subst r; obtain ⟨y, rfl, s⟩ := k; simp [Op.equalIn, run_underlying hu w]; done)
      | (simp at h; subst h; subst k; obtain ⟨y, rfl, s⟩ := r; simp [Op.equalIn, run_underlying hu w]; done)

theorem un_sound {op : UnOp} {x v : AV} {xv : Value} (r : x.rel ρ Z xv) (h : aun op x = some v) : Tells P ρ Z (Op.unary op xv) w v := by
  unfold aun at h
  split at h <;> try (cases h; done)
  all_goals
    cases h
    simp only [AV.rel] at r
    subst r
  · exact ⟨_, by simp [Op.unary, Op.intArith]; rfl, by simp [AV.rel]⟩
  · exact ⟨_, by simp [Op.unary]; rfl, by simp [AV.rel]⟩

theorem conv_sound {s d : TypeId} {x v : AV} {xv : Value} (r : x.rel ρ Z xv) (h : aconv P s d x = some v) : Tells P ρ Z (convert s d xv) w v := by
  unfold aconv at h
  split at h <;> try (cases h; done)
  rename_i hs hd
  cases h
  simp only [AV.rel] at r
  subst r
  exact ⟨_, by simp [convert, run_underlying hs w, run_underlying hd w, Conv.intToInt]; rfl, by simp [AV.rel]⟩

theorem mkIface_sound {t : TypeId} {x v : AV} {xv : Value} (r : x.rel ρ Z xv) (h : amkIface P t x = some v) : Tells P ρ Z (Instr.makeInterface t xv) w v := by
  unfold amkIface at h
  split at h <;> try (cases h; done)
  rename_i d hd hu
  cases h
  refine ⟨.iface t xv, ?_, by simp only [AV.rel]; exact ⟨_, rfl, r⟩⟩
  simp only [Instr.makeInterface, Sem.run_bind, run_underlying hu w, Result.andThen_ok]
  cases d <;> simp_all

theorem assert_sound {t xt : TypeId} {x v : AV} {xv : Value} {ok : Bool} (r : x.rel ρ Z xv) (h : aassert P x t ok = some v) : Tells P ρ Z (Instr.typeAssert xv xt t ok) w v := by
  unfold aassert at h
  split at h <;> try (cases h; done)
  rename_i d hd hu
  have hz : ∀ z, zeroOf P t = some z → ∃ cv, (zeroValue t).run P w = .ok cv w ∧ z.rel ρ Z cv := fun z hz => by
    obtain ⟨cv, h1, h2, _⟩ := run_zeroOf (ρ := ρ) (Z := Z) hz w
    exact ⟨cv, h1, h2⟩
  split at h <;> try (cases h; done)
  · simp only [AV.rel] at r
    subst r
    split at h <;> try (cases h; done)
    rename_i hok
    subst hok
    cases he : zeroOf P t with
    | none => simp [he] at h
    | some z =>
      simp [he] at h; subst h
      obtain ⟨cv, h1, h2⟩ := hz z he
      refine ⟨.tuple #[cv, .bool false], ?_, ?_⟩
      · simp only [Instr.typeAssert, Sem.run_bind, run_underlying hu w, Result.andThen_ok]
        cases d <;> simp_all
      · simp only [AV.rel]; exact ⟨_, rfl, AV.rels_cons h2 (AV.rels_cons (by simp [AV.rel]) AV.rels_nil)⟩
  · rename_i u y
    simp only [AV.rel] at r
    obtain ⟨yv, rfl, r⟩ := r
    split at h
    · rename_i hut
      subst hut
      cases h
      cases ok
      · refine ⟨yv, ?_, r⟩
        simp only [Instr.typeAssert, Sem.run_bind, run_underlying hu w, Result.andThen_ok]
        cases d <;> simp_all
      · refine ⟨.tuple #[yv, .bool true], ?_, ?_⟩
        · simp only [Instr.typeAssert, Sem.run_bind, run_underlying hu w, Result.andThen_ok]
          cases d <;> simp_all
        · simp only [AV.rel, if_true]; exact ⟨_, rfl, AV.rels_cons r (AV.rels_cons (by simp [AV.rel]) AV.rels_nil)⟩
    · rename_i hut
      split at h <;> try (cases h; done)
      rename_i hok
      subst hok
      cases he : zeroOf P t with
      | none => simp [he] at h
      | some z =>
        simp [he] at h; subst h
        obtain ⟨cv, h1, h2⟩ := hz z he
        refine ⟨.tuple #[cv, .bool false], ?_, ?_⟩
        · simp only [Instr.typeAssert, Sem.run_bind, run_underlying hu w, Result.andThen_ok]
          cases d <;> simp_all
        · simp only [AV.rel]; exact ⟨_, rfl, AV.rels_cons h2 (AV.rels_cons (by simp [AV.rel]) AV.rels_nil)⟩
end sound
end Go.Am

/- Two-operand operators; slices; composite values; make. -/
namespace Go.Am
open Go.RowKit

variable {σ : Type} [Hp σ]

def isK : Operand → Bool
  | .const _ => true
  | _ => false

section sound
variable {P : Program} {ρ : Names} {Z : Frozen} {w : World}

theorem aint_sound {op : BinOp} {k : IntKind} {a b : Int} {v : AV} (h : aint op k a b = some v) (hs : op ≠ .shl ∧ op ≠ .shr) {t : TypeId} : Tells P ρ Z (binOp op t (.int k a) (.int k b)) w v := by
  unfold aint at h
  split at h <;> try (cases h; done)
  all_goals try (split at h <;> try (cases h; done))
  all_goals
    cases h
    simp only [binOp]
  all_goals first
    | exact ⟨_, by simp [Op.intArith]; rfl, by simp [AV.rel]⟩
    | exact ⟨_, by simp [Op.intDiv, *]; rfl, by simp [AV.rel]⟩
    | exact ⟨_, by simp [Op.intBits]; rfl, by simp [AV.rel]⟩
    | exact ⟨_, by simp [Op.intCmp]; rfl, by simp [AV.rel]⟩

theorem eqGuard_other {op : BinOp} {t : TypeId} {x y : Operand} {a b : Value} (h1 : ¬ (a = .nilIface ∧ b = .nilIface)) (h2 : ∀ xs ys, ¬ (a = .agg xs ∧ b = .agg ys)) :
    (eqGuard op t x y a b).run P w = .ok () w := by
  unfold eqGuard
  cases op <;> simp
  all_goals
    split
    · exact absurd ⟨rfl, rfl⟩ h1
    · exact absurd ⟨rfl, rfl⟩ (h2 _ _)
    · simp

theorem eqGuard_nil {op : BinOp} {t : TypeId} {x y : Operand} (h : (isK x || isK y) = true) : (eqGuard op t x y .nilIface .nilIface).run P w = .ok () w := by
  unfold eqGuard
  cases op <;> cases x <;> cases y <;> simp_all [isK]

theorem eqGuard_op {op : BinOp} {t : TypeId} {x y : Operand} {a b : Value} (h : op ≠ .eql ∧ op ≠ .neq) : (eqGuard op t x y a b).run P w = .ok () w := by
  unfold eqGuard
  cases op <;> simp_all

/-- A comparison that goes by the type. -/
theorem eql_fall {t : TypeId} {xv yv : Value} {b : Bool} (he : (Op.equalIn 10000 t xv yv).run P w = .ok b w)
    (hi : ∀ k n, xv ≠ .int k n) (hs : ∀ s, xv ≠ .string s) (hf : ∀ k n, xv ≠ .float k n) (hc : ∀ k n m, xv ≠ .complex k n m) :
    (binOp .eql t xv yv).run P w = .ok (.bool b) w ∧ (binOp .neq t xv yv).run P w = .ok (.bool !b) w := by
  have e1 : binOp .eql t xv yv = (do pure (.bool (← Op.equal t xv yv))) := by
    unfold binOp
    cases xv <;> first | (exact absurd rfl (hi _ _)) | (exact absurd rfl (hs _)) | (exact absurd rfl (hf _ _)) | (exact absurd rfl (hc _ _ _)) | rfl
  have e2 : binOp .neq t xv yv = (do pure (.bool (!(← Op.equal t xv yv)))) := by
    unfold binOp
    cases xv <;> first | (exact absurd rfl (hi _ _)) | (exact absurd rfl (hs _)) | (exact absurd rfl (hf _ _)) | (exact absurd rfl (hc _ _ _)) | rfl
  have he' : (Op.equal t xv yv).run P w = .ok b w := he
  rw [e1, e2]
  simp [he']

/-- What may be held against what. -/
def AV.flat : AV → Bool
  | .int _ _ | .str _ | .agg _ | .junk | .tuple _ => false
  | _ => true

theorem aeq_flat {d : Nat} {t : TypeId} {x y : AV} {b : Bool} (h : aeq P d t x y = some b) :
    (x.flat = true ∧ y.flat = true) ∨ (∃ k n k' m, x = .int k n ∧ y = .int k' m) ∨ (∃ a c, x = .str a ∧ y = .str c) ∨ (∃ a c, x = .agg a ∧ y = .agg c) := by
  cases d with
  | zero => simp [aeq] at h
  | succ d =>
    unfold aeq at h
    split at h <;> try (cases h; done)
    all_goals simp [AV.flat]

theorem flat_value {x : AV} {xv : Value} (h : x.flat = true) (r : x.rel ρ Z xv) : (∀ k n, xv ≠ .int k n) ∧ (∀ s, xv ≠ .string s) ∧ (∀ k n, xv ≠ .float k n) ∧ (∀ k n m, xv ≠ .complex k n m) ∧ (∀ a, xv ≠ .agg a) := by
  cases x <;> simp only [AV.flat, Bool.false_eq_true] at h <;> simp only [AV.rel] at r
  all_goals first
    | (subst r; simp; done)
    | (obtain ⟨p, e, rfl⟩ := r; simp; done)
    | (obtain ⟨cb, o, arr, el, fr, e, rfl, s⟩ := r; simp; done)
    | (obtain ⟨p, c, o', e, rfl, s⟩ := r; simp; done)
    | (obtain ⟨cb, o, c, arr, el, fr, e, rfl, s⟩ := r; simp; done)
    | (obtain ⟨n, a, c, rfl, s⟩ := r; simp; done)
    | (obtain ⟨y, rfl, s⟩ := r; simp; done)

theorem flat_nil {x : AV} {xv : Value} (h : x.flat = true) (r : x.rel ρ Z xv) (hn : xv = .nilIface) : x = .nilIface := by
  subst hn
  cases x <;> simp only [AV.flat, Bool.false_eq_true] at h <;> simp only [AV.rel] at r
  all_goals first
    | rfl
    | (cases r; done)
    | (obtain ⟨p, e, r⟩ := r; cases r; done)
    | (obtain ⟨cb, o, arr, el, fr, e, r, s⟩ := r; cases r; done)
    | (obtain ⟨p, c, o', e, r, s⟩ := r; cases r; done)
    | (obtain ⟨cb, o, c, arr, el, fr, e, r, s⟩ := r; cases r; done)
    | (obtain ⟨n, a, c, r, s⟩ := r; cases r; done)
    | (obtain ⟨y, r, s⟩ := r; cases r; done)

theorem bin_sound {op : BinOp} {t : TypeId} {ox oy : Operand} {x y v : AV} {xv yv : Value} (r : x.rel ρ Z xv) (k : y.rel ρ Z yv)
    (h : abin P op t (isK ox) (isK oy) x y = some v) : Tells P ρ Z (do eqGuard op t ox oy xv yv; binOp op t xv yv) w v := by
  unfold abin at h
  split at h
  · rename_i kk a kk' b
    simp only [AV.rel] at r k
    subst r; subst k
    have hg : (eqGuard op t ox oy (.int kk a) (.int kk' b)).run P w = .ok () w := eqGuard_other (by simp) (by simp)
    have hgo : ∀ m : Sem Value, Tells P ρ Z m w v → binOp op t (.int kk a) (.int kk' b) = m → Tells P ρ Z (do eqGuard op t ox oy (.int kk a) (.int kk' b); binOp op t (.int kk a) (.int kk' b)) w v := by
      intro m ⟨cv, h1, h2⟩ he
      exact ⟨cv, by rw [Sem.run_bind, hg, Result.andThen_ok, he]; exact h1, h2⟩
    split at h
    · split at h <;> try (cases h; done)
      rename_i hb
      cases h
      refine hgo _ ⟨_, ?_, by simp [AV.rel]; rfl⟩ rfl
      simp only [binOp, Op.shift]
      rw [if_neg hb]; rfl
    · split at h <;> try (cases h; done)
      rename_i hb
      cases h
      refine hgo _ ⟨_, ?_, by simp [AV.rel]; rfl⟩ rfl
      simp only [binOp, Op.shift]
      rw [if_neg hb]; rfl
    · split at h <;> try (cases h; done)
      rename_i h1 h2 hk
      subst hk
      exact hgo _ (aint_sound h ⟨fun e => h1 e, fun e => h2 e⟩) rfl
  · rename_i a b
    simp only [AV.rel] at r k
    subst r; subst k
    have hg : (eqGuard op t ox oy (.string ⟨a.toArray⟩) (.string ⟨b.toArray⟩)).run P w = .ok () w := eqGuard_other (by simp) (by simp)
    split at h
    · split at h <;> try (cases h; done)
      rename_i hl
      cases h
      refine ⟨.string (⟨a.toArray⟩ ++ ⟨b.toArray⟩), ?_, ?_⟩
      · rw [Sem.run_bind, hg]
        have : ¬ (((ByteArray.mk a.toArray).size + (ByteArray.mk b.toArray).size : Nat) : Int) > IntKind.i64.max := by
          rw [bs_size, bs_size]
          have : IntKind.i64.max = 9223372036854775807 := rfl
          rw [this]; omega
        simp only [Result.andThen_ok, binOp, Op.stringOp]
        rw [if_neg this]; rfl
      · simp only [AV.rel]
        congr 1
    · cases h
      refine ⟨.bool (a == b), ?_, by simp [AV.rel]⟩
      rw [Sem.run_bind, hg]
      simp [binOp, Op.stringOp, ByteArray.toList_eq]
    · cases h
      refine ⟨.bool !(a == b), ?_, by simp [AV.rel]⟩
      rw [Sem.run_bind, hg]
      simp [binOp, Op.stringOp, ByteArray.toList_eq]
    · cases h
  · split at h <;> try (cases h; done)
    rename_i hc
    simp only [AV.rel] at r k
    subst r; subst k
    have hg : (eqGuard op t ox oy .nilIface .nilIface).run P w = .ok () w := eqGuard_nil hc
    split at h
    · cases he : aeq P 10000 t .nilIface .nilIface with
      | none => simp [he] at h
      | some b =>
        simp [he] at h; subst h
        have := aeq_sound (w := w) (ρ := ρ) (Z := Z) _ _ _ _ .nilIface .nilIface _ he (by simp [AV.rel]) (by simp [AV.rel])
        have := (eql_fall this (by simp) (by simp) (by simp) (by simp)).1
        exact ⟨.bool b, by rw [Sem.run_bind, hg, Result.andThen_ok, this], by simp [AV.rel]⟩
    · cases he : aeq P 10000 t .nilIface .nilIface with
      | none => simp [he] at h
      | some b =>
        simp [he] at h; subst h
        have := aeq_sound (w := w) (ρ := ρ) (Z := Z) _ _ _ _ .nilIface .nilIface _ he (by simp [AV.rel]) (by simp [AV.rel])
        have := (eql_fall this (by simp) (by simp) (by simp) (by simp)).2
        exact ⟨.bool !b, by rw [Sem.run_bind, hg, Result.andThen_ok, this], by simp [AV.rel]⟩
    · cases h
  · rename_i xs ys
    split at h <;> try (cases h; done)
    rename_i hgt
    have hr := r
    have hk := k
    simp only [AV.rel] at hr hk
    obtain ⟨a, rfl, _⟩ := hr
    obtain ⟨c, rfl, _⟩ := hk
    have hg := run_eqGuard_agg (P := P) w op t ox oy a c (by simpa using hgt)
    split at h
    · cases he : aeq P 10000 t (.agg xs) (.agg ys) with
      | none => simp [he] at h
      | some b =>
        simp [he] at h; subst h
        have := aeq_sound (w := w) (ρ := ρ) (Z := Z) _ _ _ _ _ _ _ he r k
        have := (eql_fall this (by simp) (by simp) (by simp) (by simp)).1
        exact ⟨.bool b, by rw [Sem.run_bind, hg, Result.andThen_ok, this], by simp [AV.rel]⟩
    · cases he : aeq P 10000 t (.agg xs) (.agg ys) with
      | none => simp [he] at h
      | some b =>
        simp [he] at h; subst h
        have := aeq_sound (w := w) (ρ := ρ) (Z := Z) _ _ _ _ _ _ _ he r k
        have := (eql_fall this (by simp) (by simp) (by simp) (by simp)).2
        exact ⟨.bool !b, by rw [Sem.run_bind, hg, Result.andThen_ok, this], by simp [AV.rel]⟩
    · cases h
  · cases h
  · cases h
  · rename_i h1 h2 h3 h4 h5 h6
    have fall : ∀ b, aeq P 10000 t x y = some b → (eqGuard op t ox oy xv yv).run P w = .ok () w ∧ (binOp .eql t xv yv).run P w = .ok (.bool b) w ∧ (binOp .neq t xv yv).run P w = .ok (.bool !b) w := by
      intro b he
      have hs := aeq_sound (w := w) (ρ := ρ) (Z := Z) _ _ _ _ _ _ _ he r k
      rcases aeq_flat he with ⟨f1, f2⟩ | ⟨kk, n, kk', m, rfl, rfl⟩ | ⟨a, c, rfl, rfl⟩ | ⟨a, c, rfl, rfl⟩
      · obtain ⟨a1, a2, a3, a4, a5⟩ := flat_value f1 r
        refine ⟨eqGuard_other ?_ (fun xs ys e => a5 _ e.1), eql_fall hs a1 a2 a3 a4⟩
        rintro ⟨e1, e2⟩
        first | exact h1 (flat_nil f1 r e1) (flat_nil f2 k e2) | exact h2 (flat_nil f1 r e1) (flat_nil f2 k e2) | exact h3 (flat_nil f1 r e1) (flat_nil f2 k e2) | exact h4 (flat_nil f1 r e1) (flat_nil f2 k e2) | exact h5 (flat_nil f1 r e1) (flat_nil f2 k e2) | exact h6 (flat_nil f1 r e1) (flat_nil f2 k e2)
      · exact False.elim (by first | exact h1 _ _ _ _ rfl rfl | exact h2 _ _ _ _ rfl rfl | exact h3 _ _ _ _ rfl rfl | exact h4 _ _ _ _ rfl rfl | exact h5 _ _ _ _ rfl rfl | exact h6 _ _ _ _ rfl rfl)
      · exact False.elim (by first | exact h1 _ _ rfl rfl | exact h2 _ _ rfl rfl | exact h3 _ _ rfl rfl | exact h4 _ _ rfl rfl | exact h5 _ _ rfl rfl | exact h6 _ _ rfl rfl)
      · exact False.elim (by first | exact h1 _ _ rfl rfl | exact h2 _ _ rfl rfl | exact h3 _ _ rfl rfl | exact h4 _ _ rfl rfl | exact h5 _ _ rfl rfl | exact h6 _ _ rfl rfl)
    split at h
    · cases he : aeq P 10000 t x y with
      | none => simp [he] at h
      | some b =>
        simp [he] at h; subst h
        obtain ⟨g1, g2, _⟩ := fall b he
        exact ⟨.bool b, by rw [Sem.run_bind, g1, Result.andThen_ok, g2], by simp [AV.rel]⟩
    · cases he : aeq P 10000 t x y with
      | none => simp [he] at h
      | some b =>
        simp [he] at h; subst h
        obtain ⟨g1, _, g2⟩ := fall b he
        exact ⟨.bool !b, by rw [Sem.run_bind, g1, Result.andThen_ok, g2], by simp [AV.rel]⟩
    · cases h
end sound
end Go.Am

/- Slices: cut, copied, appended to. -/
namespace Go.Am
open Go.RowKit

variable {σ : Type} [Hp σ]

section
variable (P : Program)

def abound (x : AV) (y : Nat) : Option Nat :=
  match x with
  | .int _ i => if 0 ≤ i ∧ i ≤ y then some i.toNat else none
  | _ => none

/-- The three bounds of a slice expression: low, high, most. -/
def abounds (len cap : Nat) (lo hi mx : Option AV) : Option (Nat × Nat × Nat) :=
  match (match mx with | some v => abound v cap | none => some cap) with
  | none => none
  | some m =>
    match (match hi, mx with | some v, _ => abound v m | none, none => some len | none, some _ => none) with
    | none => none
    | some h =>
      match (match lo with | some v => abound v h | none => some 0) with
      | none => none
      | some l => some (l, h, m)

def aslice (H : Heap) (t : TypeId) (x : AV) (lo hi mx : Option AV) : Option AV :=
  match P.underlying t, x with
  | some .string, .str s =>
    match mx, abounds s.length s.length lo hi none with
    | none, some (l, h, _) => some (.str ((s.drop l).take (h - l)))
    | _, _ => none
  | some (.slice e), .nilSlice =>
    match szOf P e, abounds 0 0 lo hi mx with
    | some _, some _ => some .nilSlice
    | _, _ => none
  | some (.slice e), .slice b o len cap sz t =>
    if szOf P e = some sz then
      match abounds len cap lo hi mx with
      | some (l, h, m) => some (.slice b (o + l * sz) (h - l) (m - l) sz (t || mx.isSome))
      | none => none
    else none
  | some (.slice e), .vec cs len t =>
    match szOf P e, abounds len len lo hi mx with
    | some sz, some (l, h, m) => some (.vec ((cs.drop (l * sz)).take ((h - l) * sz)) (h - l) (if mx.isSome then m == h else (t && h == len)))
    | _, _ => none
  | some (.array n e), .ptr b o =>
    match szOf P e, abounds n n lo hi mx, H b with
    | some sz, some (l, h, m), some (.cells c) => if o + n * sz ≤ c.length then some (.slice b (o + l * sz) (h - l) (m - l) sz true) else none
    | _, _, _ => none
  | _, _ => none

/-- The cells of so many first elements. -/
def afirst (H : Heap) (sz n : Nat) (x : AV) : Option (List AV) :=
  match x with
  | .nilSlice => some []
  | .slice b o _ _ _ _ => match H b with
    | some (.cells c) => if o + n * sz ≤ c.length then some ((c.drop o).take (n * sz)) else none
    | _ => none
  | .vec cs _ _ => if n * sz ≤ cs.length then some (cs.take (n * sz)) else none
  | .str s => some ((s.take n).map fun b => .int .u8 b.toNat)
  | _ => none

def alenOf (x : AV) : Option Nat :=
  match x with
  | .nilSlice => some 0
  | .slice _ _ n _ _ _ => some n
  | .vec _ n _ => some n
  | .str s => some s.length
  | _ => none

/-- Cells are appended. -/
def apush (s : St σ) (sz : Nat) (x : AV) (n : Nat) (new : List AV) : Option (AV × St σ) :=
  match x with
  | .nilSlice => if n = 0 then some (.nilSlice, s) else some (.slice s.nx 0 n n sz false, anew s new)
  | .slice b o len cap sz' t =>
    if sz' = sz then
      match Hp.get s.H b with
      | some (.cells c) =>
        if len + n ≤ cap then
          if o + (len + n) * sz ≤ c.length then some (.slice b o (len + n) cap sz t, ⟨Hp.put s.H b (some (.cells (splice c (o + len * sz) new))), s.nx⟩) else none
        else if o + len * sz ≤ c.length then
          let old := (c.drop o).take (len * sz)
          if t then some (.slice s.nx 0 (len + n) (len + n) sz false, anew s (old ++ new))
          else some (.slice s.nx 0 (len + n) (len + n) sz false, anew ⟨Hp.put s.H b none, s.nx⟩ (old ++ new))
        else none
      | _ => none
    else none
  | .vec cs len t =>
    if n = 0 then some (.vec cs len t, s)
    else if t = true ∧ len * sz = cs.length then some (.slice s.nx 0 (len + n) (len + n) sz false, anew s (cs ++ new)) else none
  | _ => none

def aappend (s : St σ) (t u : TypeId) (x y : AV) : Option (AV × St σ) :=
  match P.underlying t with
  | some (.slice e) =>
    match P.info? e, zeroOf P e, P.underlying u, alenOf x with
    | some i, some z, some du, some len =>
      let goes (n : Nat) (new : List AV) : Option (AV × St σ) :=
        if (len + n) * i.bytes ≤ 140737488355328 ∧ len + n ≤ 4611686018427387904 ∧ new.length = n * i.size ∧ new.all AV.one = true ∧ z.cells.length = i.size then apush s i.size x n new else none
      match du with
      | .int _ =>
        match y with
        | .int _ l => if 0 ≤ l ∧ l ≤ 4611686018427387904 then goes l.toNat (List.replicate l.toNat z.cells).flatten else none
        | _ => none
      | _ =>
        match alenOf y with
        | some n =>
          match afirst (Hp.get s.H) i.size n y with
          | some new => goes n new
          | none => none
        | none => none
    | _, _, _, _ => none
  | _ => none

def acopy (s : St σ) (t : TypeId) (x y : AV) : Option (AV × St σ) :=
  match P.underlying t with
  | some (.slice e) =>
    match szOf P e, alenOf x, alenOf y with
    | some sz, some dl, some sl =>
      let n := Nat.min sl dl
      match afirst (Hp.get s.H) sz n y with
      | some new =>
        match x with
        | .nilSlice => some (.int .i64 n, s)
        | .slice b o len cap _ _ =>
          match Hp.get s.H b with
          | some (.cells c) => if len ≤ cap ∧ new.all AV.one = true ∧ (cap ≠ 0 ∨ new = []) ∧ o + new.length ≤ c.length then some (.int .i64 n, ⟨Hp.put s.H b (some (.cells (splice c o new))), s.nx⟩) else none
          | _ => none
        | _ => none
      | none => none
    | _, _, _ => none
  | _ => none

def amakeSlice (s : St σ) (t : TypeId) (l c : AV) : Option (AV × St σ) :=
  match P.underlying t, l, c with
  | some (.slice e), .int _ l, .int _ c =>
    match P.info? e, zeroOf P e with
    | some i, some z =>
      if 0 ≤ l ∧ l ≤ c ∧ c ≤ 4611686018427387904 ∧ i.bytes * c ≤ 281474976710656 ∧ z.cells.length = i.size ∧ z.cells.all AV.one = true then
        some (.slice s.nx 0 l.toNat c.toNat i.size true, anew s (List.replicate c.toNat z.cells).flatten)
      else none
    | _, _ => none
  | _, _, _ => none

/-- Parts laid into cells. -/
def afill (place : Nat → Option (Nat × Nat)) (cells : List AV) : List (Nat × AV) → Option (List AV)
  | [] => some cells
  | (i, v) :: rest =>
    match place i with
    | none => none
    | some (off, size) =>
      if v.cells.length = size ∧ off + v.cells.length ≤ cells.length ∧ v.cells.all AV.one = true then afill place (splice cells off v.cells) rest else none

def aplaces : List Field → Option (List (Nat × Nat))
  | [] => some []
  | f :: fs => match szOf P f.type, aplaces fs with
    | some n, some l => some ((f.offset, n) :: l)
    | _, _ => none

def abuild (t : TypeId) (parts : List (Nat × AV)) : Option AV :=
  match zeroOf P t, P.underlying t with
  | some z, some (.struct fs) =>
    match aplaces P fs.toList with
    | some pl => if z.cells.all AV.one = true then (afill (fun i => pl[i]?) z.cells parts).map .agg else none
    | none => none
  | some z, some (.array _ e) =>
    match szOf P e with
    | some n => if z.cells.all AV.one = true then (afill (fun i => some (i * n, n)) z.cells parts).map .agg else none
    | none => none
  | _, _ => none

def abuildSlice (s : St σ) (t : TypeId) (len : Nat) (parts : List (Nat × AV)) : Option (AV × St σ) :=
  match P.underlying t with
  | some (.slice e) =>
    match szOf P e, zeroOf P e with
    | some sz, some z =>
      if len * sz ≤ 16777216 ∧ z.cells.length = sz ∧ z.cells.all AV.one = true then
        match afill (fun i => some (i * sz, sz)) (List.replicate len z.cells).flatten parts with
        | some c => some (.slice s.nx 0 len len sz true, anew s c)
        | none => none
      else none
    | _, _ => none
  | _ => none
end

section sound
variable {P : Program} {ρ : Names} {Z : Frozen} {w : World}

/-- An optional value stands for an optional value. -/
def orel (ρ : Names) (Z : Frozen) : Option AV → Option Value → Prop
  | none, v => v = none
  | some x, v => ∃ y, v = some y ∧ x.rel ρ Z y

theorem bound_sound {x : AV} {xv : Value} {y n : Nat} {code : BoundsCode} (r : x.rel ρ Z xv) (h : abound x y = some n) : (Instr.sliceBound xv y code).run P w = .ok n w ∧ n ≤ y := by
  unfold abound at h
  split at h <;> try (cases h; done)
  split at h <;> try (cases h; done)
  rename_i hb
  cases h
  simp only [AV.rel] at r
  subst r
  exact ⟨by simp [Instr.sliceBound, asIntOf, hb], by omega⟩

theorem bounds_sound {isSlice : Bool} {len cap ccap : Nat} {lo hi mx : Option AV} {lov hiv mxv : Option Value} (h1 : orel ρ Z lo lov) (h2 : orel ρ Z hi hiv) (h3 : orel ρ Z mx mxv)
    {l h m : Nat} (hh : abounds len cap lo hi mx = some (l, h, m)) (hlen : len ≤ cap) (hc : cap ≤ ccap) :
    ∃ m', (Instr.sliceBounds isSlice len ccap lov hiv mxv).run P w = .ok (l, h, m') w ∧ l ≤ h ∧ h ≤ m ∧ m ≤ cap ∧ (mx = none → m = cap ∧ m' = ccap ∧ (hi = none → h = len)) ∧ (mx ≠ none → m' = m) := by
  unfold abounds at hh
  cases mx with
  | none =>
    simp only [orel] at h3; subst h3
    simp only at hh
    cases hi with
    | none =>
      simp only [orel] at h2; subst h2
      simp only at hh
      cases lo with
      | none =>
        simp only [orel] at h1; subst h1
        simp at hh
        obtain ⟨rfl, rfl, rfl⟩ := hh
        exact ⟨ccap, by simp [Instr.sliceBounds], by omega, by omega, by omega, fun _ => ⟨rfl, rfl, fun _ => rfl⟩, by simp⟩
      | some a =>
        simp only [orel] at h1
        obtain ⟨av, rfl, r⟩ := h1
        cases hb : abound a len with
        | none => simp [hb] at hh
        | some n =>
          simp [hb] at hh
          obtain ⟨rfl, rfl, rfl⟩ := hh
          obtain ⟨g1, g2⟩ := bound_sound (P := P) (w := w) (code := .sliceB) r hb
          exact ⟨ccap, by simp [Instr.sliceBounds, g1], by omega, by omega, by omega, fun _ => ⟨rfl, rfl, fun _ => rfl⟩, by simp⟩
    | some b =>
      simp only [orel] at h2
      obtain ⟨bv, rfl, rb⟩ := h2
      simp only at hh
      cases hbb : abound b cap with
      | none => simp [hbb] at hh
      | some nb =>
        simp only [hbb] at hh
        have hb2 : abound b ccap = some nb := by
          unfold abound at hbb ⊢
          split at hbb <;> try (cases hbb; done)
          split at hbb <;> try (cases hbb; done)
          rename_i hx
          rw [if_pos ⟨hx.1, by omega⟩]; exact hbb
        have g0 := (bound_sound (P := P) (w := w) (code := .sliceB) rb hbb).2
        cases lo with
        | none =>
          simp only [orel] at h1; subst h1
          simp at hh
          obtain ⟨rfl, rfl, rfl⟩ := hh
          obtain ⟨g1, _⟩ := bound_sound (P := P) (w := w) (code := if isSlice then .sliceAcap else .sliceAlen) rb hb2
          exact ⟨ccap, by simp [Instr.sliceBounds, g1], by omega, by omega, by omega, fun _ => ⟨rfl, rfl, by simp⟩, by simp⟩
        | some a =>
          simp only [orel] at h1
          obtain ⟨av, rfl, r⟩ := h1
          cases hb : abound a nb with
          | none => simp [hb] at hh
          | some n =>
            simp [hb] at hh
            obtain ⟨rfl, rfl, rfl⟩ := hh
            obtain ⟨g1, g2⟩ := bound_sound (P := P) (w := w) (code := .sliceB) r hb
            obtain ⟨g3, _⟩ := bound_sound (P := P) (w := w) (code := if isSlice then .sliceAcap else .sliceAlen) rb hb2
            exact ⟨ccap, by simp [Instr.sliceBounds, g1, g3], by omega, by omega, by omega, fun _ => ⟨rfl, rfl, by simp⟩, by simp⟩
  | some c =>
    simp only [orel] at h3
    obtain ⟨cv, rfl, rc⟩ := h3
    simp only at hh
    cases hcc : abound c cap with
    | none => simp [hcc] at hh
    | some nc =>
      simp only [hcc] at hh
      have hc2 : abound c ccap = some nc := by
        unfold abound at hcc ⊢
        split at hcc <;> try (cases hcc; done)
        split at hcc <;> try (cases hcc; done)
        rename_i hx
        rw [if_pos ⟨hx.1, by omega⟩]; exact hcc
      have gc := (bound_sound (P := P) (w := w) (code := .sliceB) rc hcc).2
      obtain ⟨g0, _⟩ := bound_sound (P := P) (w := w) (code := if isSlice then .slice3Acap else .slice3Alen) rc hc2
      cases hi with
      | none => simp at hh
      | some b =>
        simp only [orel] at h2
        obtain ⟨bv, rfl, rb⟩ := h2
        simp only at hh
        cases hbb : abound b nc with
        | none => simp [hbb] at hh
        | some nb =>
          simp only [hbb] at hh
          obtain ⟨g3, g4⟩ := bound_sound (P := P) (w := w) (code := .slice3B) rb hbb
          cases lo with
          | none =>
            simp only [orel] at h1; subst h1
            simp at hh
            obtain ⟨rfl, rfl, rfl⟩ := hh
            exact ⟨nc, by simp [Instr.sliceBounds, g0, g3], by omega, by omega, by omega, by simp, fun _ => rfl⟩
          | some a =>
            simp only [orel] at h1
            obtain ⟨av, rfl, r⟩ := h1
            cases hb : abound a nb with
            | none => simp [hb] at hh
            | some n =>
              simp [hb] at hh
              obtain ⟨rfl, rfl, rfl⟩ := hh
              obtain ⟨g1, g2⟩ := bound_sound (P := P) (w := w) (code := .slice3C) r hb
              exact ⟨nc, by simp [Instr.sliceBounds, g0, g1, g3], by omega, by omega, by omega, by simp, fun _ => rfl⟩

theorem slice_sound {E : Env} {H : Heap} {nx : Nat} (hh : SRel E ρ Z H nx w) {t : TypeId} {x v : AV} {xv : Value} {lo hi mx : Option AV} {lov hiv mxv : Option Value} (r : x.rel ρ Z xv)
    (h1 : orel ρ Z lo lov) (h2 : orel ρ Z hi hiv) (h3 : orel ρ Z mx mxv) (h : aslice P H t x lo hi mx = some v) : Tells P ρ Z (Instr.sliceAt t xv lov hiv mxv) w v := by
  unfold aslice at h
  split at h <;> try (cases h; done)
  · rename_i s hu
    split at h <;> try (cases h; done)
    rename_i l hx m hb
    cases h
    simp only [AV.rel] at r
    subst r
    obtain ⟨m', g1, g2, g3, g4, g5, _⟩ := bounds_sound (P := P) (w := w) (isSlice := false) h1 h2 h3 hb (Nat.le_refl _) (Nat.le_refl _)
    simp only [orel] at h3; subst h3
    obtain ⟨rfl, rfl, _⟩ := g5 rfl
    refine ⟨.string ⟨((s.drop l).take (hx - l)).toArray⟩, ?_, by simp [AV.rel]⟩
    have e1 : (ByteArray.mk s.toArray).extract l hx = ⟨((s.drop l).take (hx - l)).toArray⟩ := by
      apply ByteArray.ext
      simp [ByteArray.data_extract, List.extract]
    simp [Instr.sliceAt, run_underlying hu w, Instr.slice, bs_size, g1, e1]
  · rename_i e hu
    split at h <;> try (cases h; done)
    rename_i sz b hsz hb
    cases h
    simp only [AV.rel] at r
    subst r
    obtain ⟨l, hx, m⟩ := b
    obtain ⟨m', g1, g2, g3, g4, g5, g6⟩ := bounds_sound (P := P) (w := w) (isSlice := true) h1 h2 h3 hb (Nat.le_refl _) (Nat.le_refl _)
    have : m' = 0 := by
      cases mx with
      | none => exact (g5 rfl).2.1
      | some _ => have := g6 (by simp); omega
    subst this
    have hl : l = 0 := by omega
    have hhx : hx = 0 := by omega
    subst hl; subst hhx
    exact ⟨.slice none 0 0, by simp [Instr.sliceAt, run_underlying hu w, Instr.slice, g1, run_szOf hsz w], by simp [AV.rel]⟩
  · rename_i e b o len cap sz tt hu
    split at h <;> try (cases h; done)
    rename_i hsz
    split at h <;> try (cases h; done)
    rename_i l hx m hb
    cases h
    simp only [AV.rel] at r
    obtain ⟨p, cc, o', hp, rfl, l1, l2, l3, l4⟩ := r
    obtain ⟨m', g1, g2, g3, g4, g5, g6⟩ := bounds_sound (P := P) (w := w) (isSlice := true) h1 h2 h3 hb l1 l2
    have hm : m ≤ m' ∧ m' ≤ cc ∧ ((tt || mx.isSome) = true → m' = m) := by
      cases mx with
      | none =>
        obtain ⟨rfl, rfl, _⟩ := g5 rfl
        exact ⟨l2, Nat.le_refl _, fun ht => l3 (by simpa using ht)⟩
      | some _ =>
        have := g6 (by simp)
        exact ⟨by omega, by omega, fun _ => this⟩
    refine ⟨.slice (if m' = l then some ⟨p.block, o', none⟩ else some ⟨p.block, o' + l * sz, none⟩) (hx - l) (m' - l), ?_, ?_⟩
    · simp only [Instr.sliceAt, Sem.run_bind, run_underlying hu w, Result.andThen_ok, Instr.slice, g1, run_szOf hsz w, Sem.run_pure]
      split <;> simp [add_addr, *]
    · simp only [AV.rel]
      refine ⟨p, m' - l, if m' = l then o' else o' + l * sz, hp, ?_, by omega, by omega, fun ht => by have := hm.2.2 ht; omega, fun hne => ?_⟩
      · split <;> rfl
      · rw [if_neg (by omega)]
        obtain ⟨e1, e2⟩ := l4 (by omega)
        refine ⟨by omega, ?_⟩
        have : (m' - l) * sz + l * sz ≤ cc * sz := by rw [← Nat.add_mul]; exact Nat.mul_le_mul_right _ (by omega)
        omega
  · rename_i e cs len tt hu
    split at h <;> try (cases h; done)
    rename_i sz l hx m hsz hb
    cases h
    simp only [AV.rel] at r
    obtain ⟨cb, o, cc, arr, el, fr, e, rfl, l1, l2, s⟩ := r
    obtain ⟨m', g1, g2, g3, g4, g5, g6⟩ := bounds_sound (P := P) (w := w) (isSlice := true) h1 h2 h3 hb (Nat.le_refl _) l1
    have hm : m' ≤ cc ∧ hx ≤ m' := by
      cases mx with
      | none => obtain ⟨rfl, rfl, _⟩ := g5 rfl; exact ⟨Nat.le_refl _, by omega⟩
      | some _ => have := g6 (by simp); exact ⟨by omega, by omega⟩
    refine ⟨.slice (if m' = l then some ⟨cb, o, none⟩ else some ⟨cb, o + l * sz, none⟩) (hx - l) (m' - l), ?_, ?_⟩
    · simp only [Instr.sliceAt, Sem.run_bind, run_underlying hu w, Result.andThen_ok, Instr.slice, g1, run_szOf hsz w, Sem.run_pure]
      split <;> simp [add_addr, *]
    · simp only [AV.rel]
      by_cases hml : m' = l
      · have hh0 : hx - l = 0 := by omega
        refine ⟨cb, o, m' - l, arr, el, fr, e, by rw [if_pos hml], by omega, fun _ => by omega, ?_⟩
        simp [hh0, AV.rels]
      · refine ⟨cb, o + l * sz, m' - l, arr, el, fr, e, by rw [if_neg hml], by omega, ?_, ?_⟩
        · intro ht
          cases mx with
          | none =>
            obtain ⟨rfl, rfl, _⟩ := g5 rfl
            simp at ht
            have := l2 ht.1
            omega
          | some _ =>
            have := g6 (by simp)
            simp at ht
            omega
        · have := AV.rels_take ((hx - l) * sz) (rels_drop_pref (k := l * sz) s)
          rw [List.take_take] at this
          have e2 : (List.take ((hx - l) * sz) (cs.drop (l * sz))).length = min ((hx - l) * sz) (cs.drop (l * sz)).length := by simp
          rw [e2]
          exact this
  · rename_i n e b o hu
    split at h <;> try (cases h; done)
    rename_i sz l hx m c hsz hb hH
    split at h <;> try (cases h; done)
    rename_i hle
    cases h
    simp only [AV.rel] at r
    obtain ⟨p, hp, rfl⟩ := r
    obtain ⟨m', g1, g2, g3, g4, g5, g6⟩ := bounds_sound (P := P) (w := w) (isSlice := false) h1 h2 h3 hb (Nat.le_refl _) (Nat.le_refl _)
    have hm : m' = m := by
      cases mx with
      | none => obtain ⟨rfl, rfl, _⟩ := g5 rfl; rfl
      | some _ => exact g6 (by simp)
    subst hm
    obtain ⟨q, ob, k1, k2, k3, _⟩ := hh.live _ _ hH
    rw [hp] at k1; cases k1
    obtain ⟨arr, el, fr, rfl, htop, hl, hr, hf⟩ := k3
    refine ⟨.slice (if m' = l then some ⟨p.block, p.base + o, none⟩ else some ⟨p.block, p.base + o + l * sz, none⟩) (hx - l) (m' - l), ?_, ?_⟩
    · simp only [Instr.sliceAt, Sem.run_bind, run_underlying hu w, Result.andThen_ok, Instr.sureAddr, g1, run_szOf hsz w, Sem.run_pure]
      split <;> simp [add_addr, *]
    · simp only [AV.rel]
      refine ⟨p, m' - l, if m' = l then p.base + o else p.base + o + l * sz, hp, ?_, by omega, by omega, fun ht => rfl, fun hne => ?_⟩
      · split <;> rfl
      · rw [if_neg (by omega)]
        refine ⟨by omega, ?_⟩
        have : (m' - l) * sz + l * sz ≤ n * sz := by rw [← Nat.add_mul]; exact Nat.mul_le_mul_right _ (by omega)
        omega

theorem lenOf_sound {x : AV} {xv : Value} {n : Nat} (r : x.rel ρ Z xv) (h : alenOf x = some n) : (Builtin.lenOf xv).run P w = .ok n w := by
  unfold alenOf at h
  split at h <;> try (cases h; done)
  all_goals
    cases h
    simp only [AV.rel] at r
  · subst r; simp [Builtin.lenOf]
  · obtain ⟨p, cc, o', hp, rfl, _⟩ := r; simp [Builtin.lenOf]
  · obtain ⟨cb, o, cc, arr, el, fr, e, rfl, _⟩ := r; simp [Builtin.lenOf]
  · subst r; simp [Builtin.lenOf, bs_size]

/-- The first elements are read, now and behind a draw. -/
theorem first_sound {E : Env} {H : Heap} {nx : Nat} (hh : SRel E ρ Z H nx w) {x : AV} {xv : Value} {sz n : Nat} {cs : List AV} (r : x.rel ρ Z xv) (h : afirst H sz n x = some cs)
    (hn : ∀ b o len cap sz' t, x = .slice b o len cap sz' t → n ≤ len) : ∃ l : List Value, (∀ w' : World, w'.heap = w.heap → (Builtin.firstCells sz n xv).run P w' = .ok l.toArray w') ∧ AV.rels ρ Z cs l := by
  unfold afirst at h
  split at h <;> try (cases h; done)
  · cases h
    simp only [AV.rel] at r; subst r
    exact ⟨[], fun w' _ => by simp [Builtin.firstCells], AV.rels_nil⟩
  · rename_i b o len cap sz' t
    split at h <;> try (cases h; done)
    rename_i c hb
    split at h <;> try (cases h; done)
    rename_i hle
    cases h
    simp only [AV.rel] at r
    obtain ⟨p, cc, o', hp, rfl, l1, l2, l3, l4⟩ := r
    obtain ⟨q, ob, k1, k2, k3, _⟩ := hh.live _ _ hb
    rw [hp] at k1; cases k1
    obtain ⟨arr, el, fr, rfl, htop, hl, hr, hf⟩ := k3
    have hnl := hn _ _ _ _ _ _ rfl
    by_cases hcc : cc = 0
    · have hn0 : n = 0 := by omega
      subst hn0
      exact ⟨[], fun w' _ => by simp [Builtin.firstCells, loadCells, loadCellsFrom], by simp [AV.rels]⟩
    · obtain ⟨e1, e2⟩ := l4 hcc
      subst e1
      refine ⟨((arr.toList.drop (p.base + o)).take (n * sz)), fun w' hw' => ?_, ?_⟩
      · refine run_firstCells_some (P := P) w' sz n _ len cc _ (by simp; omega) (fun j u hu => ?_)
        rw [add_addr, cell_of_heap (by rw [hw']; exact k2)]
        rw [List.getElem?_take] at hu
        split at hu
        · rw [List.getElem?_drop] at hu; simpa using hu
        · cases hu
      · have := AV.rels_take (n * sz) (AV.rels_drop o hr)
        rw [List.drop_take, List.drop_drop, List.take_take, Nat.min_eq_left (by omega)] at this
        exact this
  · rename_i cs0 len t
    split at h <;> try (cases h; done)
    rename_i hle
    cases h
    simp only [AV.rel] at r
    obtain ⟨cb, o, cc, arr, el, fr, e, rfl, l1, l2, s⟩ := r
    have s' := AV.rels_take (n * sz) s
    rw [List.take_take, Nat.min_eq_left hle] at s'
    have hl := AV.rels_length s'
    refine ⟨((arr.toList.drop o).take (n * sz)), fun w' hw' => ?_, s'⟩
    refine run_firstCells_some (P := P) w' sz n _ len cc _ (by rw [hl]; simp; omega) (fun j u hu => ?_)
    rw [add_addr, cell_of_heap (by rw [hw']; exact hh.frozen _ _ e)]
    rw [List.getElem?_take] at hu
    split at hu
    · rw [List.getElem?_drop] at hu; simpa using hu
    · cases hu
  · rename_i s
    cases h
    simp only [AV.rel] at r; subst r
    refine ⟨(s.take n).map fun b => .int .u8 b.toNat, fun w' _ => ?_, ?_⟩
    · simp only [Builtin.firstCells, Sem.run_pure]
      congr 1
      have e1 : (ByteArray.mk s.toArray).extract 0 n = ⟨(s.take n).toArray⟩ := by
        apply ByteArray.ext
        simp [ByteArray.data_extract, List.extract]
      rw [e1]
      simp
    · have : ∀ l : List UInt8, AV.rels ρ Z (l.map fun b => .int .u8 b.toNat) (l.map fun b => Value.int .u8 b.toNat) := by
        intro l
        induction l with
        | nil => simp [AV.rels]
        | cons b l ih => simp only [List.map_cons]; exact AV.rels_cons (by simp [AV.rel]) ih
      exact this _

theorem run_copy_gen {t : TypeId} {e : TypeId} {sz : Nat} {ts : Array TypeId} {ty : TypeId} {x y : Value} {base : Option Addr} {dl dc sl : Nat} {l : List Value} (ht : ts[0]? = some t) (hu : P.underlying t = some (.slice e)) (hsz : szOf P e = some sz)
    (hx : x = .slice base dl dc) (hy : (Builtin.lenOf y).run P w = .ok sl w) (hf : (Builtin.firstCells sz (Nat.min sl dl) y).run P w = .ok l.toArray w) :
    (Builtin.copy_ ts ty #[x, y]).run P w = match base with
      | some a => ((storeCells a l).run P w).andThen fun _ w' => .ok (goInt (Nat.min sl dl)) w'
      | none => .ok (goInt (Nat.min sl dl)) w := by
  subst hx
  cases base <;> simp [Builtin.copy_, ht, run_underlying hu w, hy, run_szOf hsz w, hf]

theorem copy_sound {E : Env} {s s' : St σ} (hh : SR E ρ Z s w) {t ty : TypeId} {ts : Array TypeId} {x y v : AV} {xv yv : Value} (ht : ts[0]? = some t) (r : x.rel ρ Z xv) (k : y.rel ρ Z yv)
    (h : acopy P s t x y = some (v, s')) : Gives P E ρ Z (Builtin.copy_ ts ty #[xv, yv]) w v s' s.nx := by
  unfold acopy at h
  split at h <;> try (cases h; done)
  rename_i e hu
  split at h <;> try (cases h; done)
  rename_i sz dl sl hsz hdl hsl
  simp only at h
  split at h <;> try (cases h; done)
  rename_i new hnew
  have hy := lenOf_sound (P := P) (w := w) k hsl
  obtain ⟨l, hf, hl⟩ := first_sound (P := P) hh k hnew (fun b o len cap sz' t e => by
    subst e
    simp [alenOf] at hsl
    subst hsl
    exact Nat.min_le_left _ _)
  have hf := hf w rfl
  split at h <;> try (cases h; done)
  · cases h
    simp only [AV.rel] at r
    have := run_copy_gen (P := P) (w := w) (ty := ty) ht hu hsz r hy (by simp [alenOf] at hdl; subst hdl; exact hf)
    simp [alenOf] at hdl
    subst hdl
    exact ⟨_, w, ρ, Z, this, Ext.refl _ _, Nat.le_refl _, hh, by simp [AV.rel, goInt]⟩
  · rename_i b o len cap sz' tt
    split at h <;> try (cases h; done)
    rename_i c hb
    split at h <;> try (cases h; done)
    rename_i hc
    obtain ⟨q1, q2, q3, q4⟩ := hc
    cases h
    have hdl' : dl = len := by simp [alenOf] at hdl; omega
    subst hdl'
    simp only [AV.rel] at r
    obtain ⟨p, cc, o', hp, rfl, l1, l2, l3, l4⟩ := r
    have hrun := run_copy_gen (P := P) (w := w) (ty := ty) (base := some ⟨p.block, o', none⟩) (dc := cc) ht hu hsz rfl hy hf
    simp only at hrun
    by_cases hcc : cc = 0
    · have hn : new = [] := by
        rcases q3 with q3 | q3
        · omega
        · exact q3
      subst hn
      have hl0 : l = [] := by simpa [AV.rels] using hl
      subst hl0
      simp only [storeCells, Sem.run_pure, Result.andThen_ok] at hrun
      refine ⟨_, w, ρ, Z, hrun, Ext.refl _ _, Nat.le_refl _, ?_, by simp [AV.rel, goInt]⟩
      have : splice c o ([] : List AV) = c := by simp [splice]
      rw [this]
      show SRel E ρ Z (Hp.get (Hp.put s.H b _)) s.nx w
      rw [Hp.get_put]
      have : (Hp.get s.H).put b (some (.cells c)) = Hp.get s.H := by
        funext d; simp only [Heap.put]; split
        · rename_i e; subst e; exact hb.symm
        · rfl
      rw [this]; exact hh
    · obtain ⟨e1, _⟩ := l4 hcc
      subst e1
      obtain ⟨w', g1, g2⟩ := storeCells_sound (P := P) hh hb hp hl q2 q4
      rw [g1] at hrun
      exact ⟨_, w', ρ, Z, hrun, Ext.refl _ _, Nat.le_refl _, g2, by simp [AV.rel, goInt]⟩

theorem zeros_flat (z : Array Value) (n : Nat) (hz : z.size ≠ 0) : ((Array.range (n * z.size)).map fun i => z[i % z.size]!).toList = (List.replicate n z.toList).flatten := by
  apply List.ext_getElem?
  intro i
  have hlen : ((List.replicate n z.toList).flatten).length = n * z.size := by simp
  by_cases hi : i < n * z.size
  · have h1 : i % z.size < z.size := Nat.mod_lt _ (by omega)
    have h2 : ((Array.range (n * z.size)).map fun i => z[i % z.size]!).toList[i]? = some z[i % z.size] := by
      simp [hi, h1]
    rw [h2]
    clear hlen h2
    induction n generalizing i with
    | zero => simp at hi
    | succ n ih =>
      simp only [List.replicate_succ, List.flatten_cons]
      by_cases hlt : i < z.size
      · rw [List.getElem?_append_left (by simpa using hlt)]
        simp [Nat.mod_eq_of_lt hlt, hlt]
      · rw [List.getElem?_append_right (by simpa using Nat.le_of_not_lt hlt)]
        have := ih (i - z.size) (by rw [Nat.succ_mul] at hi; omega) (Nat.mod_lt _ (by omega))
        simp only [Array.length_toList]
        rw [← this]
        congr 2
        rw [Nat.mod_eq_sub_mod (by omega)]
  · rw [List.getElem?_eq_none (by simp; omega), List.getElem?_eq_none (by omega)]

theorem rels_flatten {x : List AV} {l : List Value} (h : AV.rels ρ Z x l) : ∀ n, AV.rels ρ Z (List.replicate n x).flatten (List.replicate n l).flatten
  | 0 => by simp [AV.rels]
  | n + 1 => by simp only [List.replicate_succ, List.flatten_cons]; exact AV.rels_append h (rels_flatten h n)

def isIntD : TypeDesc → Bool
  | .int _ => true
  | _ => false

/-- The store of what is appended, in place. -/
def pushRun (P : Program) (w : World) (base : Option Addr) (off : Nat) (news : List Value) (v : Value) : Result Value :=
  match base with
  | some a => ((storeCells (a.add off) news).run P w).andThen fun _ w' => .ok v w'
  | none => .ok v w


/-- What append does, by what it reads. -/
theorem run_append_gen {t u e ty : TypeId} {i : TypeInfo} {z : Value} {du : TypeDesc} {base : Option Addr} {sl sc n : Nat} {y : Value} {olds news : List Value}
    (ht : P.underlying t = some (.slice e)) (hu : P.underlying u = some du) (hi : P.info? e = some i) (hz : i.zero = some z) (hd : isIntD du = false)
    (g1 : (Builtin.lenOf y).run P w = .ok n w) (g2 : (Builtin.firstCells i.size n y).run P w = .ok news.toArray w) (g3 : (Builtin.firstCells i.size n y).run P w.drew = .ok news.toArray w.drew)
    (hold : sc < sl + n → (Builtin.firstCells i.size sl (.slice base sl sc)).run P w.drew = .ok olds.toArray w.drew)
    (hb : (sl + n) * i.bytes ≤ 140737488355328) (hl : sl + n ≤ 4611686018427387904) :
    (Builtin.append_ #[t, u] ty #[.slice base sl sc, y]).run P w =
      if sl + n ≤ sc then pushRun P w base (sl * i.size) news (.slice base (sl + n) sc)
      else .ok (.slice (some ⟨w.heap.size, 0, none⟩) (sl + n) (grownCap w (sl + n) sc e))
        (w.drew.alloc (.cells (olds.toArray ++ news.toArray ++ Builtin.zeroCells z.cells (grownCap w (sl + n) sc e - (sl + n))) e)) := by
  have hs : (sizeOf e).run P w = .ok i.size w := by simp [sizeOf, typeInfo, hi]
  have hti : ∀ w', (typeInfo e).run P w' = .ok i w' := fun w' => by simp [typeInfo, hi]
  have hzv : ∀ w', (zeroValue e).run P w' = .ok z w' := fun w' => by simp [zeroValue, typeInfo, hi, hz]
  have e0 : (#[t, u] : Array TypeId)[0]? = some t := rfl
  have e1 : (#[t, u] : Array TypeId)[1]? = some u := rfl
  have f0 : (#[Value.slice base sl sc, y] : Array Value)[0]? = some (.slice base sl sc) := rfl
  have f1 : (#[Value.slice base sl sc, y] : Array Value)[1]? = some y := rfl
  have hm : Builtin.append_.match_1 (fun _ => Bool) du (fun _ => true) (fun _ => false) = false := by cases du <;> first | rfl | (simp [isIntD] at hd; done)
  have hmx : IntKind.i64.max = 9223372036854775807 := rfl
  have h63 : ¬ (((sl + n : Nat) : Int) > IntKind.i64.max ∧ (false = true ∨ i.bytes = 0)) := by rw [hmx]; omega
  unfold Builtin.append_
  simp only [e0, e1, f0, f1, Sem.run_bind, run_underlying ht w, run_underlying hu w, Result.andThen_ok, Sem.run_pure, hs, hm, Bool.false_eq_true, if_false, g1, Bool.not_false, if_true, Sem.run_ite]
  by_cases hle : sl + n ≤ sc
  · rw [if_pos hle, if_pos hle]
    cases base with
    | none => simp only [Sem.run_bind, g2, Result.andThen_ok, Sem.run_pure, pushRun]
    | some a => simp only [Sem.run_bind, g2, Result.andThen_ok, Sem.run_pure, pushRun]
  · rw [if_neg hle, if_neg hle]
    have hfit := growslice_fits (need := sl + n) (old := sc) (bytes := i.bytes) (by omega) hb
    have hfit' : ¬ (Builtin.nextslicecap (sl + n) sc * i.bytes > 2 ^ 48) := by omega
    simp only [hti, Result.andThen_ok, Sem.run_bind]
    have h63' : ¬ (((sl + n : Nat) : Int) > IntKind.i64.max ∧ i.bytes = 0) := by rw [hmx]; omega
    simp only [h63', false_or, if_false, Sem.run_ite, hfit', Sem.run_bind, run_choose, Question.forced, Bool.false_eq_true, Result.andThen_ok, hti, run_askRoom, World.drew_eq, hold (by omega), g3, hzv, newRow, run_newObj, Sem.run_pure, World.alloc_eq]
    rfl

theorem wrap_in {l : Int} (h0 : 0 ≤ l) (h1 : l ≤ 4611686018427387904) : IntKind.i64.wrap l = l := by
  unfold IntKind.wrap
  simp [IntKind.signed, IntKind.bits]
  omega

/-- The same, where what is appended is so many zeros. -/
theorem run_append_zeros {t u e ty : TypeId} {i : TypeInfo} {z : Value} {kd k : IntKind} {base : Option Addr} {sl sc n : Nat} {l : Int} {olds : List Value}
    (ht : P.underlying t = some (.slice e)) (hu : P.underlying u = some (.int kd)) (hi : P.info? e = some i) (hz : i.zero = some z) (hzs : z.cells.size = i.size)
    (l0 : 0 ≤ l) (l1 : l ≤ 4611686018427387904) (hn : l.toNat = n)
    (hold : sc < sl + n → (Builtin.firstCells i.size sl (.slice base sl sc)).run P w.drew = .ok olds.toArray w.drew)
    (hb : (sl + n) * i.bytes ≤ 140737488355328) (hl : sl + n ≤ 4611686018427387904) :
    (Builtin.append_ #[t, u] ty #[.slice base sl sc, .int k l]).run P w =
      if sl + n ≤ sc then pushRun P w base (sl * i.size) (List.replicate n z.cells.toList).flatten (.slice base (sl + n) sc)
      else .ok (.slice (some ⟨w.heap.size, 0, none⟩) (sl + n) (grownCap w (sl + n) sc e))
        (w.drew.alloc (.cells (olds.toArray ++ (List.replicate n z.cells.toList).flatten.toArray ++ Builtin.zeroCells z.cells (grownCap w (sl + n) sc e - (sl + n))) e)) := by
  have hw := wrap_in l0 l1
  have hl0 : ¬ l < 0 := by omega
  have hlb : ¬ (l * (i.bytes : Int) > 2 ^ 48) := by
    have h1 : n * i.bytes ≤ (sl + n) * i.bytes := Nat.mul_le_mul_right _ (by omega)
    have h2 : n * i.bytes ≤ 140737488355328 := Nat.le_trans h1 hb
    have h3 : (n : Int) = l := by omega
    have h4 : ((n * i.bytes : Nat) : Int) ≤ 140737488355328 := by omega
    rw [Int.natCast_mul, h3] at h4
    omega
  have hs : (sizeOf e).run P w = .ok i.size w := by simp [sizeOf, typeInfo, hi]
  have hti : ∀ w', (typeInfo e).run P w' = .ok i w' := fun w' => by simp [typeInfo, hi]
  have hzv : ∀ w', (zeroValue e).run P w' = .ok z w' := fun w' => by simp [zeroValue, typeInfo, hi, hz]
  have e0 : (#[t, u] : Array TypeId)[0]? = some t := rfl
  have e1 : (#[t, u] : Array TypeId)[1]? = some u := rfl
  have f0 : (#[Value.slice base sl sc, .int k l] : Array Value)[0]? = some (.slice base sl sc) := rfl
  have f1 : (#[Value.slice base sl sc, .int k l] : Array Value)[1]? = some (.int k l) := rfl
  have hmx : IntKind.i64.max = 9223372036854775807 := rfl
  have h63 : ¬ (((sl + n : Nat) : Int) > IntKind.i64.max) := by rw [hmx]; omega
  have hzeros : (if n * i.size = 0 then #[] else Builtin.zeroCells z.cells n) = (List.replicate n z.cells.toList).flatten.toArray := by
    by_cases h0 : n * i.size = 0
    · rw [if_pos h0]
      have : (List.replicate n z.cells.toList).flatten = [] := by
        apply List.eq_nil_of_length_eq_zero
        simp [hzs, h0]
      rw [this]
    · rw [if_neg h0]
      have hne : z.cells.size ≠ 0 := by
        intro e0; rw [hzs] at e0; rw [e0] at h0; simp at h0
      have := zeros_flat z.cells n hne
      rw [← this]
      rfl
  have hzrun : ∀ w', (if n * i.size = 0 then (pure #[] : Sem (Array Value)) else do pure (Builtin.zeroCells (← zeroValue e).cells n)).run P w' = .ok (List.replicate n z.cells.toList).flatten.toArray w' := by
    intro w'
    rw [← hzeros]
    split
    · rfl
    · simp only [Sem.run_bind, hzv, Result.andThen_ok, Sem.run_pure]
  unfold Builtin.append_
  simp only [e0, e1, f0, f1, Sem.run_bind, run_underlying ht w, run_underlying hu w, Result.andThen_ok, Sem.run_pure, hs, if_true, asInt, asIntOf, hw, Sem.run_ite, hl0, if_false, hti, hlb, hn, Bool.not_true, Bool.false_eq_true]
  by_cases hle : sl + n ≤ sc
  · rw [if_pos hle, if_pos hle]
    have hz1 := hzrun w
    rw [Sem.run_ite] at hz1
    cases base with
    | none => simp only [Sem.run_bind, Sem.run_pure] at hz1 ⊢; rw [hz1]; simp only [Result.andThen_ok, Sem.run_pure, pushRun]
    | some a => simp only [Sem.run_bind, Sem.run_pure] at hz1 ⊢; rw [hz1]; simp only [Result.andThen_ok, Sem.run_pure, Sem.run_bind, pushRun]
  · rw [if_neg hle, if_neg hle]
    have hfit := growslice_fits (need := sl + n) (old := sc) (bytes := i.bytes) (by omega) hb
    have hfit' : ¬ (Builtin.nextslicecap (sl + n) sc * i.bytes > 2 ^ 48) := by omega
    have hz1 := hzrun w.drew
    rw [Sem.run_ite] at hz1
    simp only [Sem.run_bind, Sem.run_pure] at hz1
    simp only [hti, Result.andThen_ok, Sem.run_bind, h63, false_and, if_false, Sem.run_ite, hfit', run_choose, Question.forced, Bool.false_eq_true, run_askRoom, World.drew_eq, hold (by omega), Sem.run_pure]
    rw [hz1]
    simp only [Result.andThen_ok, hzv, Sem.run_bind, newRow, run_newObj, Sem.run_pure, World.alloc_eq]
    rfl

theorem put_same {H : Heap} {b : Nat} {k : ABlk} (h : H b = some k) : H.put b (some k) = H := by
  funext d; simp only [Heap.put]; split
  · rename_i e; subst e; exact h.symm
  · rfl

/-- The world that append makes where a new row is wanted. -/
theorem grow_sound {E : Env} {s : St σ} (hh : SR E ρ Z s w) {e : TypeId} {all : List AV} {arr : Array Value} {zc : Array Value} (hr : AV.rels ρ Z all arr.toList) :
    ∃ ρ', Ext ρ Z ρ' Z ∧ SR E ρ' Z (anew s all) (w.drew.alloc (.cells (arr ++ zc) e)) ∧ ρ' s.nx = some ⟨w.heap.size, 0, (arr ++ zc).size⟩ := by
  have hl := AV.rels_length hr
  obtain ⟨ρ', _, g2, g3, g4⟩ := newRow_sound (P := (default : Program)) (w := w.drew) hh.drew e (c := all) (arr := arr ++ zc) (by
    rw [Array.toList_append, ← hl, List.take_left]; exact hr) (by simp at hl ⊢; omega)
  exact ⟨ρ', g2, g3, g4⟩

/-- Append, once what is appended has been read. -/
theorem push_sound {E : Env} {s s' : St σ} (hh : SR E ρ Z s w) {e : TypeId} {sz n : Nat} {x v : AV} {base : Option Addr} {sl sc : Nat} {new : List AV} {news olds : List Value} {zc : Nat → Array Value} {m : Sem Value} {cap : Nat}
    (r : x.rel ρ Z (.slice base sl sc)) (hnew : AV.rels ρ Z new news) (hln : new.length = n * sz) (h1 : new.all AV.one = true) (h : apush s sz x n new = some (v, s'))
    (hold : sc < sl + n → ∀ l, (∀ w' : World, w'.heap = w.heap → (Builtin.firstCells sz sl (.slice base sl sc)).run P w' = .ok l.toArray w') → olds = l)
    (hcap : sl + n ≤ cap)
    (hrun : m.run P w = if sl + n ≤ sc then pushRun P w base (sl * sz) news (.slice base (sl + n) sc)
      else .ok (.slice (some ⟨w.heap.size, 0, none⟩) (sl + n) cap) (w.drew.alloc (.cells (olds.toArray ++ news.toArray ++ zc cap) e)))
    (hzc : (zc cap).size = (cap - (sl + n)) * sz) : Gives P E ρ Z m w v s' s.nx := by
  have hnl := AV.rels_length hnew
  -- a new row
  have grown : ∀ (s0 : St σ), s0.nx = s.nx → SR E ρ Z s0 w → ∀ old : List AV, AV.rels ρ Z old olds → olds.length = sl * sz → ¬ (sl + n ≤ sc) → v = .slice s.nx 0 (sl + n) (sl + n) sz false → s' = anew s0 (old ++ new) → Gives P E ρ Z m w v s' s.nx := by
    intro s0 hs0 hh0 old ho hol hnle hv hs
    subst hv; subst hs
    rw [if_neg hnle] at hrun
    obtain ⟨ρ', g2, g3, g4⟩ := grow_sound (zc := zc cap) (e := e) hh0 (all := old ++ new) (arr := olds.toArray ++ news.toArray) (by simpa using AV.rels_append ho hnew)
    rw [hs0] at g4
    refine ⟨_, _, ρ', Z, hrun, g2, by simp [anew, hs0], g3, ?_⟩
    simp only [AV.rel]
    refine ⟨_, cap, 0, g4, rfl, Nat.le_refl _, hcap, by simp, fun _ => ⟨by simp, ?_⟩⟩
    simp only [Array.size_append, List.size_toArray]
    rw [hol, hnl, hln, hzc]
    have : sl * sz + n * sz + (cap - (sl + n)) * sz = cap * sz := by
      rw [← Nat.add_mul, ← Nat.add_mul]; congr 1; omega
    omega
  unfold apush at h
  split at h <;> try (cases h; done)
  · simp only [AV.rel] at r
    cases r
    split at h
    · rename_i h0
      cases h
      subst h0
      rw [if_pos (by omega)] at hrun
      exact ⟨_, w, ρ, Z, by simpa [pushRun] using hrun, Ext.refl _ _, Nat.le_refl _, hh, by simp [AV.rel]⟩
    · rename_i h0
      cases h
      have ho : olds = [] := hold (by omega) [] (fun w' _ => by simp [Builtin.firstCells])
      subst ho
      have := grown s rfl hh [] AV.rels_nil (by simp) (by omega) (by simp) (by simp)
      simpa using this
  · rename_i b o len cap' sz' tt
    split at h <;> try (cases h; done)
    rename_i hsz
    subst hsz
    split at h <;> try (cases h; done)
    rename_i c hb
    simp only [AV.rel] at r
    obtain ⟨p, cc, o', hp, heq, l1, l2, l3, l4⟩ := r
    cases heq
    obtain ⟨q, ob, k1, k2, k3, k4, k5⟩ := hh.live _ _ hb
    rw [hp] at k1; cases k1
    obtain ⟨arr, el, fr, rfl, htop, hl, hr, hf⟩ := k3
    split at h
    · rename_i hle
      split at h <;> try (cases h; done)
      rename_i hlc
      cases h
      rw [if_pos (by omega)] at hrun
      by_cases hcc : sc = 0
      · have hn0 : new = [] := by
          have : n = 0 := by omega
          subst this
          exact List.eq_nil_of_length_eq_zero (by simpa using hln)
        subst hn0
        have hn1 : news = [] := by simpa [AV.rels] using hnew
        subst hn1
        have hn : n = 0 := by omega
        subst hn
        simp only [pushRun, storeCells, Sem.run_pure, Result.andThen_ok] at hrun
        refine ⟨_, w, ρ, Z, hrun, Ext.refl _ _, Nat.le_refl _, ?_, ?_⟩
        · have : splice c (o + sl * sz') ([] : List AV) = c := by simp [splice]
          rw [this]
          show SRel E ρ Z (Hp.get (Hp.put s.H b _)) s.nx w
          rw [Hp.get_put, put_same hb]; exact hh
        · simp only [AV.rel]
          exact ⟨p, sc, o', hp, rfl, by omega, l2, l3, l4⟩
      · obtain ⟨e1, e2⟩ := l4 hcc
        subst e1
        have hle2 : o + sl * sz' + new.length ≤ c.length := by
          rw [hln]
          have : (sl + n) * sz' = sl * sz' + n * sz' := Nat.add_mul _ _ _
          omega
        obtain ⟨w', g1, g2⟩ := storeCells_sound (P := P) hh hb hp (o := o + sl * sz') hnew h1 hle2
        simp only [pushRun, add_addr] at hrun
        rw [show p.base + o + sl * sz' = p.base + (o + sl * sz') from by omega, g1] at hrun
        refine ⟨_, w', ρ, Z, hrun, Ext.refl _ _, Nat.le_refl _, g2, ?_⟩
        simp only [AV.rel]
        exact ⟨p, sc, p.base + o, hp, rfl, by omega, l2, l3, l4⟩
    · rename_i hnle
      split at h <;> try (cases h; done)
      rename_i hlc
      obtain ⟨l, hl1, hl2⟩ := first_sound (P := P) hh (x := .slice b o sl cap' sz' tt) (xv := .slice (some ⟨p.block, o', none⟩) sl sc) (sz := sz') (n := sl) (cs := (c.drop o).take (sl * sz'))
        (by simp only [AV.rel]; exact ⟨p, sc, o', hp, rfl, l1, l2, l3, l4⟩) (by simp only [afirst, hb]; rw [if_pos hlc]) (fun _ _ _ _ _ _ e => by cases e; exact Nat.le_refl _)
      have hol : l.length = sl * sz' := by
        have := AV.rels_length hl2
        simp at this; omega
      split at h
      · rename_i ht
        cases h
        have := l3 ht
        have ho := hold (by omega) l hl1
        subst ho
        exact grown s rfl hh _ hl2 hol (by omega) rfl rfl
      · cases h
        by_cases hin : sl + n ≤ sc
        · -- in place, beyond what is known
          rw [if_pos hin] at hrun
          have hsc : sc ≠ 0 := by omega
          obtain ⟨e1, e2⟩ := l4 hsc
          subst e1
          obtain ⟨w', hst, hbel, hget⟩ := storeRaw (P := P) k2 hf (rels_one hnew h1) (q := p.base + o + sl * sz') (by
            have h3 : (sl + n) * sz' ≤ sc * sz' := Nat.mul_le_mul_right _ hin
            rw [Nat.add_mul] at h3
            omega)
          simp only [pushRun, add_addr] at hrun
          rw [hst] at hrun
          have hlen : sl * sz' + n * sz' ≤ sc * sz' := by rw [← Nat.add_mul]; exact Nat.mul_le_mul_right _ hin
          -- the world behind the store, as far as everything else goes
          have hother : SRel E ρ Z (Hp.get (Hp.put s.H b none)) s.nx w' := by
            rw [Hp.get_put]
            have hd : SRel E ρ Z ((Hp.get s.H).put b none) s.nx w := hh.drop _ (fun c' k' e => by
              simp only [Heap.put] at e
              split at e
              · cases e
              · exact e)
            refine ⟨fun c' k' e => ?_, hd.inj, hd.dom, fun c' o1 e => ?_, fun c' o1 e => ?_, hd.bel.trans hbel, hd.disj⟩
            · obtain ⟨p1, o1, a1, a2, a3⟩ := hd.live _ _ e
              have hcb : c' ≠ b := by intro e'; subst e'; simp at e
              have e0 : Hp.get s.H c' = some k' := by rwa [Heap.put_other _ _ hcb] at e
              refine ⟨p1, o1, a1, ?_, a3⟩
              rw [hget, if_neg (fun eq => hcb (hh.inj _ _ _ _ _ _ e0 hb a1 hp eq)), a2]
            · rw [hget, if_neg (fun eq => by subst eq; rw [k5] at e; cases e)]
              exact hd.frozen _ _ e
            · rw [hget, if_neg (fun eq => by subst eq; rw [k4] at e; cases e)]
              exact hd.keep _ _ e
          have hnx := hh.noName
          let q : Pl := ⟨p.block, p.base + o, p.top⟩
          have hx : Ext ρ Z (ρ.put s.nx q) Z := ext_put hnx q
          refine ⟨_, w', ρ.put s.nx q, Z, hrun, hx, by simp [anew], ?_, ?_⟩
          · show SRel E _ Z (Hp.get (Hp.put (Hp.put s.H b none) s.nx _)) (s.nx + 1) w'
            rw [Hp.get_put]
            have hbn : b ≠ s.nx := by have := hh.dom _ _ hp; omega
            refine ⟨fun c' kc ec => ?_, fun c' c2 k1' k2' p1 p2 e1 e2' r1 r2 hcc => ?_, fun c' pc ec => ?_, hother.frozen, hother.keep, hother.bel, hother.disj⟩
            · by_cases hc : c' = s.nx
              · subst hc
                simp at ec; subst ec
                refine ⟨q, .cells (arr.toList.take (p.base + o + sl * sz') ++ news ++ arr.toList.drop (p.base + o + sl * sz' + news.length)).toArray el fr, by simp [Names.put], by rw [hget]; simp [q], ?_, k4, k5⟩
                have hcol : ((List.take (sl * sz') (List.drop o c)) ++ new).length = sl * sz' + n * sz' := by simp [hln]; omega
                refine ⟨_, el, fr, rfl, ?_, ?_, ?_, ?_⟩
                · simp [q]; omega
                · simp [q, hln]; omega
                · rw [hcol]
                  have hold' : AV.rels (ρ.put s.nx q) Z (List.take (sl * sz') (List.drop o c)) ((arr.toList.drop (p.base + o)).take (sl * sz')) := by
                    have := AV.rels_take (sl * sz') (AV.rels_drop o (AV.rels_mono hx _ _ hr))
                    rw [List.drop_take, List.drop_drop, List.take_take, Nat.min_eq_left (by omega)] at this
                    exact this
                  have e3 : List.take (sl * sz' + n * sz') (List.drop q.base (arr.toList.take (p.base + o + sl * sz') ++ news ++ arr.toList.drop (p.base + o + sl * sz' + news.length)).toArray.toList) =
                      (arr.toList.drop (p.base + o)).take (sl * sz') ++ news := by
                    apply List.ext_getElem?
                    intro i
                    simp only [q, List.getElem?_take, List.getElem?_drop, List.getElem?_append, List.length_append, List.length_take, List.length_drop, Array.length_toList]
                    repeat' split
                    all_goals first
                      | rfl
                      | omega
                      | (congr 1; omega)
                      | (rw [List.getElem?_eq_none (by omega)])
                      | (symm; rw [List.getElem?_eq_none (by omega)])
                  rw [e3]
                  exact AV.rels_append hold' (AV.rels_mono hx _ _ hnew)
                · intro x hx'
                  exact hf x (by simp at hx'; omega)
              · rw [Heap.put_other _ _ hc] at ec
                obtain ⟨p1, o1, a1, a2, a3, a4⟩ := hother.live _ _ ec
                exact ⟨p1, o1, hx.names _ _ a1, a2, ABlk.rel_mono hx a3, a4⟩
            · have back : ∀ d kd, d ≠ s.nx → (Hp.get (Hp.put s.H b none)).put s.nx (some (ABlk.cells (List.take (sl * sz') (List.drop o c) ++ new))) d = some kd → d ≠ b ∧ Hp.get s.H d = some kd := by
                intro d kd hd ed
                rw [Heap.put_other _ _ hd, Hp.get_put] at ed
                by_cases hdb : d = b
                · subst hdb; simp at ed
                · rw [Heap.put_other _ _ hdb] at ed; exact ⟨hdb, ed⟩
              by_cases hc : c' = s.nx <;> by_cases hc2 : c2 = s.nx
              · omega
              · subst hc
                obtain ⟨hdb, e2'⟩ := back c2 _ hc2 e2'
                simp [Names.put] at r1
                simp [Names.put, hc2] at r2
                subst r1
                exact absurd (hh.inj _ _ _ _ _ _ e2' hb r2 hp (by rw [← hcc])) hdb
              · subst hc2
                obtain ⟨hdb, e1⟩ := back c' _ hc e1
                simp [Names.put] at r2
                simp [Names.put, hc] at r1
                subst r2
                exact absurd (hh.inj _ _ _ _ _ _ e1 hb r1 hp (by rw [hcc])) hdb
              · obtain ⟨_, e1⟩ := back c' _ hc e1
                obtain ⟨_, e2'⟩ := back c2 _ hc2 e2'
                simp [Names.put, hc] at r1
                simp [Names.put, hc2] at r2
                exact hh.inj _ _ _ _ _ _ e1 e2' r1 r2 hcc
            · by_cases hc : c' = s.nx
              · omega
              · simp [Names.put, hc] at ec
                have := hh.dom _ _ ec; omega
          · simp only [AV.rel]
            exact ⟨q, sc, p.base + o, by simp [Names.put], rfl, Nat.le_refl _, by omega, by simp, fun _ => ⟨by simp [q], by simp only [q]; omega⟩⟩
        · have ho := hold (by omega) l hl1
          subst ho
          refine grown ⟨Hp.put s.H b none, s.nx⟩ rfl ?_ _ hl2 hol hin rfl rfl
          show SRel E ρ Z (Hp.get (Hp.put s.H b none)) s.nx w
          rw [Hp.get_put]
          refine hh.drop _ (fun c' k' e => ?_)
          simp only [Heap.put] at e
          split at e
          · cases e
          · exact e
  · rename_i cs len tt
    split at h
    · rename_i h0
      subst h0
      cases h
      have hn0 : new = [] := List.eq_nil_of_length_eq_zero (by simpa using hln)
      subst hn0
      have hn1 : news = [] := by simpa [AV.rels] using hnew
      subst hn1
      have r' := r
      simp only [AV.rel] at r
      obtain ⟨cb, o, cc, arr, el, fr, e, heq, l1, l2, s'⟩ := r
      cases heq
      rw [if_pos (by omega)] at hrun
      simp only [pushRun, storeCells, Sem.run_pure, Result.andThen_ok] at hrun
      exact ⟨_, w, ρ, Z, hrun, Ext.refl _ _, Nat.le_refl _, hh, r'⟩
    · rename_i h0
      split at h <;> try (cases h; done)
      rename_i ht
      cases h
      have r' := r
      simp only [AV.rel] at r
      obtain ⟨cb, o, cc, arr, el, fr, e, heq, l1, l2, s'⟩ := r
      cases heq
      have hscl := l2 ht.1
      obtain ⟨l, hl1, hl2⟩ := first_sound (P := P) hh (sz := sz) (n := sl) (cs := cs) r' (by simp only [afirst]; rw [if_pos (by omega), ht.2]; simp) (fun _ _ _ _ _ _ e => by cases e)
      have ho := hold (by omega) l hl1
      subst ho
      have hol : olds.length = sl * sz := by
        have := AV.rels_length hl2
        omega
      exact grown s rfl hh _ hl2 hol (by omega) rfl rfl

theorem zeroOf_parts {t : TypeId} {z : AV} {i : TypeInfo} (hi : P.info? t = some i) (h : zeroOf P t = some z) : ∃ v, i.zero = some v ∧ z = aconst v := by
  unfold zeroOf at h
  rw [hi] at h
  cases hz : i.zero with
  | none => simp [hz] at h
  | some v => simp [hz] at h; exact ⟨v, rfl, h.symm⟩

theorem zeroCells_size (z : Array Value) (n : Nat) : (Builtin.zeroCells z n).size = n * z.size := by simp [Builtin.zeroCells]

theorem slice_value {x : AV} {xv : Value} {n : Nat} (r : x.rel ρ Z xv) (h : alenOf x = some n) (hs : ∀ s, x ≠ .str s) : ∃ base sc, xv = .slice base n sc ∧ n ≤ sc := by
  unfold alenOf at h
  split at h <;> try (cases h; done)
  · cases h
    simp only [AV.rel] at r; exact ⟨_, _, r, Nat.le_refl _⟩
  · cases h
    simp only [AV.rel] at r
    obtain ⟨p, cc, o', hp, rfl, l1, l2, _⟩ := r
    exact ⟨_, _, rfl, by omega⟩
  · cases h
    simp only [AV.rel] at r
    obtain ⟨cb, o, cc, arr, el, fr, e, rfl, l1, _⟩ := r
    exact ⟨_, _, rfl, l1⟩
  · exact absurd rfl (hs _)

/-- The elements that a slice shows can be read, where it must grow. -/
theorem old_sound {E : Env} {s s' : St σ} (hh : SR E ρ Z s w) {x v : AV} {base : Option Addr} {sc sz n len : Nat} {new : List AV} (r : x.rel ρ Z (.slice base len sc)) (h : apush s sz x n new = some (v, s')) :
    ∃ l : List Value, sc < len + n → ∀ w' : World, w'.heap = w.heap → (Builtin.firstCells sz len (.slice base len sc)).run P w' = .ok l.toArray w' := by
  have r' := r
  unfold apush at h
  split at h <;> try (cases h; done)
  · simp only [AV.rel] at r
    cases r
    exact ⟨[], fun _ w' _ => by simp [Builtin.firstCells]⟩
  · rename_i b o ln cap sz' tt
    split at h <;> try (cases h; done)
    rename_i hsz
    split at h <;> try (cases h; done)
    rename_i c hb
    simp only [AV.rel] at r
    obtain ⟨p, cc, o', hp, heq, l1, l2, l3, l4⟩ := r
    cases heq
    have hle : o + len * sz ≤ c.length := by
      split at h
      · split at h <;> try (cases h; done)
        rename_i hlc
        rw [Nat.add_mul] at hlc
        omega
      · split at h <;> try (cases h; done)
        rename_i hlc
        exact hlc
    obtain ⟨l, hl1, _⟩ := first_sound (P := P) hh (sz := sz) (n := len) (cs := (c.drop o).take (len * sz)) r' (by simp only [afirst, hb]; rw [if_pos hle]) (fun _ _ _ _ _ _ e => by cases e; exact Nat.le_refl _)
    exact ⟨l, fun _ => hl1⟩
  · rename_i cs ln tt
    simp only [AV.rel] at r
    obtain ⟨cb, o, cc, arr, el, fr, e, heq, l1, l2, s'⟩ := r
    cases heq
    split at h
    · exact ⟨[], fun hlt => absurd hlt (by omega)⟩
    · split at h <;> try (cases h; done)
      rename_i ht
      obtain ⟨l, hl1, _⟩ := first_sound (P := P) hh (sz := sz) (n := len) (cs := cs) r' (by simp only [afirst]; rw [if_pos (by omega), ht.2]; simp) (fun _ _ _ _ _ _ e => by cases e)
      exact ⟨l, fun _ => hl1⟩

theorem toArray_inj {l m : List Value} (h : l.toArray = m.toArray) : l = m := by simpa using congrArg Array.toList h

theorem acell_cells (v : Value) : (acell v).cells = [acell v] := by
  unfold acell
  split <;> rfl
theorem aconst_cells (v : Value) : AV.rels ρ Z (aconst v).cells v.cells.toList := by
  cases v
  case agg cs => simp only [aconst, AV.cells, Value.cells]; exact acells_rel _
  case tuple cs =>
    simp only [aconst, AV.cells, Value.cells]
    exact AV.rels_cons (by simp only [AV.rel]; exact ⟨_, rfl, acells_rel _⟩) AV.rels_nil
  all_goals
    simp only [aconst, acell_cells, Value.cells]
    exact AV.rels_cons (acell_rel _) AV.rels_nil

theorem append_sound {E : Env} {s s' : St σ} (hh : SR E ρ Z s w) {t u ty : TypeId} {x y v : AV} {xv yv : Value} (r : x.rel ρ Z xv) (k : y.rel ρ Z yv)
    (h : aappend P s t u x y = some (v, s')) : Gives P E ρ Z (Builtin.append_ #[t, u] ty #[xv, yv]) w v s' s.nx := by
  unfold aappend at h
  split at h <;> try (cases h; done)
  rename_i e ht
  split at h <;> try (cases h; done)
  rename_i i z du len hi hz hu hlen
  obtain ⟨zv, hzv, rfl⟩ := zeroOf_parts hi hz
  simp only at h
  -- what is pushed
  have goes : ∀ (n : Nat) (new : List AV), (if (len + n) * i.bytes ≤ 140737488355328 ∧ len + n ≤ 4611686018427387904 ∧ new.length = n * i.size ∧ new.all AV.one = true ∧ (aconst zv).cells.length = i.size then apush s i.size x n new else none) = some (v, s') →
      (len + n) * i.bytes ≤ 140737488355328 ∧ len + n ≤ 4611686018427387904 ∧ new.length = n * i.size ∧ new.all AV.one = true ∧ (aconst zv).cells.length = i.size ∧ apush s i.size x n new = some (v, s') ∧ ∃ base sc, xv = .slice base len sc := by
    intro n new hg
    split at hg <;> try (cases hg; done)
    rename_i hc
    refine ⟨hc.1, hc.2.1, hc.2.2.1, hc.2.2.2.1, hc.2.2.2.2, hg, ?_⟩
    have hns : ∀ s, x ≠ .str s := by
      intro st e; subst e; simp [apush] at hg
    obtain ⟨base, sc, e1, _⟩ := slice_value r hlen hns
    exact ⟨base, sc, e1⟩
  have capge : ∀ n sc, len + n ≤ 4611686018427387904 → len + n ≤ grownCap w (len + n) sc e := by
    intro n sc hle
    simp only [grownCap, Question.cut]
    omega
  have zc : zv.cells.size = i.size → ∀ n cap, ((fun cap => Builtin.zeroCells zv.cells (cap - (len + n))) cap).size = (cap - (len + n)) * i.size := by
    intro hs n cap
    simp [zeroCells_size, hs]
  split at h
  · rename_i kd
    split at h <;> try (cases h; done)
    rename_i kk l
    split at h <;> try (cases h; done)
    rename_i hl
    obtain ⟨l0, l1⟩ := hl
    simp only [AV.rel] at k
    subst k
    obtain ⟨g1, g2, g3, g4, hzl, g5, base, sc, rfl⟩ := goes _ _ h
    have hzr : AV.rels ρ Z (aconst zv).cells zv.cells.toList := aconst_cells zv
    have hzs : zv.cells.size = i.size := by
      have := AV.rels_length hzr
      simp at this; omega
    obtain ⟨olds, hold⟩ := old_sound (P := P) hh r g5
    have hrun := run_append_zeros (P := P) (w := w) (ty := ty) (kd := kd) (k := kk) (base := base) (sl := len) (sc := sc) (olds := olds) ht hu hi hzv hzs l0 l1 rfl (fun hlt => hold hlt w.drew rfl) g1 g2
    exact push_sound hh r (rels_flatten hzr _) g3 g4 g5 (fun hlt l' hl' => by
      have h1 := hold hlt w rfl
      have h2 := hl' w rfl
      rw [h1] at h2
      injection h2 with h2
      exact toArray_inj h2) (capge _ sc g2) (zc := fun cap => Builtin.zeroCells zv.cells (cap - (len + l.toNat))) (e := e) hrun (zc hzs _ _)
  · rename_i hdu
    split at h <;> try (cases h; done)
    rename_i n hn
    split at h <;> try (cases h; done)
    rename_i new hnew
    obtain ⟨g1, g2, g3, g4, hzl, g5, base, sc, rfl⟩ := goes _ _ h
    have hd : isIntD du = false := by cases du <;> first | rfl | exact absurd rfl (hdu _)
    obtain ⟨news, hnews, hrn⟩ := first_sound (P := P) hh k hnew (fun b o ln cap sz' t e => by
      subst e; simp [alenOf] at hn; omega)
    obtain ⟨olds, hold⟩ := old_sound (P := P) hh r g5
    have hrun := run_append_gen (P := P) (w := w) (ty := ty) (base := base) (sl := len) (sc := sc) (olds := olds) ht hu hi hzv hd (lenOf_sound k hn) (hnews w rfl) (hnews w.drew rfl) (fun hlt => hold hlt w.drew rfl) g1 g2
    have hzs : zv.cells.size = i.size := by
      have := AV.rels_length (aconst_cells (ρ := ρ) (Z := Z) zv)
      simp at this; omega
    exact push_sound hh r hrn g3 g4 g5 (fun hlt l' hl' => by
      have h1 := hold hlt w rfl
      have h2 := hl' w rfl
      rw [h1] at h2
      injection h2 with h2
      exact toArray_inj h2) (capge _ sc g2) (zc := fun cap => Builtin.zeroCells zv.cells (cap - (len + n))) (e := e) hrun (zc hzs _ _)
end sound
end Go.Am

/- Composite values; make. -/
namespace Go.Am
open Go.RowKit

variable {σ : Type} [Hp σ]

section sound
variable {P : Program} {ρ : Names} {Z : Frozen} {w : World}

theorem foldl_set (off : Nat) : ∀ (l : List Value) (k : Nat) (a : Array Value), off + k + l.length ≤ a.size →
    ((l.zipIdx k).foldl (fun cs p => cs.setIfInBounds (off + p.2) p.1) a).toList = a.toList.take (off + k) ++ l ++ a.toList.drop (off + k + l.length)
  | [], k, a, _ => by simp
  | v :: l, k, a, h => by
    simp only [List.zipIdx_cons, List.foldl_cons]
    rw [foldl_set off l (k + 1) (a.setIfInBounds (off + k) v) (by simp at h ⊢; omega)]
    simp at h
    have := list_seg_step a.toList (off + k) v l (by simp; omega)
    simpa [Array.toList_setIfInBounds, Nat.add_assoc] using this

/-- Parts, and the model's. -/
def prels (ρ : Names) (Z : Frozen) : List (Nat × AV) → List (Nat × Value) → Prop
  | [], l => l = []
  | (i, x) :: ps, l => ∃ v l', l = (i, v) :: l' ∧ x.rel ρ Z v ∧ prels ρ Z ps l'

theorem fill_sound {place : Nat → Option (Nat × Nat)} : ∀ {parts : List (Nat × AV)} {vparts : List (Nat × Value)} {cells out : List AV} {arr : Array Value}, prels ρ Z parts vparts →
    AV.rels ρ Z cells arr.toList → afill place cells parts = some out → ∃ o : Array Value, Instr.fill place arr vparts = some o ∧ AV.rels ρ Z out o.toList
  | [], vparts, cells, out, arr, hp, hr, h => by
    simp only [prels] at hp; subst hp
    simp only [afill] at h; cases h
    exact ⟨arr, rfl, hr⟩
  | (i, x) :: ps, vparts, cells, out, arr, hp, hr, h => by
    simp only [prels] at hp
    obtain ⟨v, l', rfl, hx, hp⟩ := hp
    simp only [afill] at h
    simp only [Instr.fill]
    cases hpl : place i with
    | none => simp [hpl] at h
    | some q =>
      obtain ⟨off, size⟩ := q
      simp only [hpl] at h ⊢
      split at h <;> try (cases h; done)
      rename_i hc
      obtain ⟨c1, c2, c3⟩ := hc
      have hcr := AV.cells_rel hx c3
      have hl := AV.rels_length hcr
      have hl2 := AV.rels_length hr
      simp at hl hl2
      have hsz : v.cells.size = size := by omega
      rw [if_neg (by simp; omega)]
      refine fill_sound hp ?_ h
      have e1 : (v.cells.zipIdx.foldl (fun cs (c, j) => cs.setIfInBounds (off + j) c) arr).toList = arr.toList.take off ++ v.cells.toList ++ arr.toList.drop (off + v.cells.size) := by
        have := foldl_set off v.cells.toList 0 arr (by simp; omega)
        rw [← Array.foldl_toList, Array.toList_zipIdx]
        simpa using this
      rw [e1]
      have := splice_rel hr hcr (o := off) c2
      rw [hl.symm] at this
      simpa using this

theorem places_sound : ∀ {fs : List Field} {pl : List (Nat × Nat)}, aplaces P fs = some pl → fs.mapM (fun f => (P.info? f.type).map fun i => (f.offset, i.size)) = some pl
  | [], pl, h => by simp only [aplaces] at h; cases h; rfl
  | f :: fs, pl, h => by
    simp only [aplaces] at h
    split at h <;> try (cases h; done)
    rename_i n l hn hl
    cases h
    have ih := places_sound hl
    unfold szOf at hn
    cases hi : P.info? f.type with
    | none => simp [hi] at hn
    | some i =>
      simp [hi] at hn
      simp [List.mapM_cons, hi, ih, hn]

theorem build_sound {t : TypeId} {parts : List (Nat × AV)} {vparts : Array (Nat × Value)} {v : AV} (hp : prels ρ Z parts vparts.toList) (h : abuild P t parts = some v) :
    Tells P ρ Z (Instr.build t vparts) w v := by
  unfold abuild at h
  split at h <;> try (cases h; done)
  · rename_i z fs hz hu
    split at h <;> try (cases h; done)
    rename_i pl hpl
    split at h <;> try (cases h; done)
    rename_i hone
    cases hf : afill (fun i => pl[i]?) z.cells parts with
    | none => simp [hf] at h
    | some out =>
      simp [hf] at h; subst h
      cases hi : P.info? t with
      | none => simp [zeroOf, hi] at hz
      | some i =>
        obtain ⟨zv, hzv, rfl⟩ := zeroOf_parts hi hz
        have hzr := aconst_cells (ρ := ρ) (Z := Z) zv
        obtain ⟨o, h1, h2⟩ := fill_sound hp hzr hf
        have hb : P.built t vparts.toList = some o := by
          simp only [Program.built, hi, hu, hzv, places_sound hpl]
          simpa using h1
        exact ⟨.agg o, run_build w t vparts o hb, by simp only [AV.rel]; exact ⟨o, rfl, h2⟩⟩
  · rename_i z n e hz hu
    split at h <;> try (cases h; done)
    rename_i sz hsz
    split at h <;> try (cases h; done)
    rename_i hone
    cases hf : afill (fun i => some (i * sz, sz)) z.cells parts with
    | none => simp [hf] at h
    | some out =>
      simp [hf] at h; subst h
      cases hi : P.info? t with
      | none => simp [zeroOf, hi] at hz
      | some i =>
        obtain ⟨zv, hzv, rfl⟩ := zeroOf_parts hi hz
        have hzr := aconst_cells (ρ := ρ) (Z := Z) zv
        obtain ⟨o, h1, h2⟩ := fill_sound hp hzr hf
        unfold szOf at hsz
        cases hie : P.info? e with
        | none => simp [hie] at hsz
        | some ie =>
          simp [hie] at hsz; subst hsz
          have hb : P.built t vparts.toList = some o := by
            simp only [Program.built, hi, hu, hzv, hie]
            exact h1
          exact ⟨.agg o, run_build w t vparts o hb, by simp only [AV.rel]; exact ⟨o, rfl, h2⟩⟩

theorem flat_cells (z : Array Value) (n sz : Nat) (hz : z.size = sz) : (if n * sz = 0 then (#[] : Array Value) else (Array.range (n * sz)).map (z[· % z.size]!)).toList = (List.replicate n z.toList).flatten := by
  by_cases h0 : n * sz = 0
  · rw [if_pos h0]
    symm
    apply List.eq_nil_of_length_eq_zero
    simp [hz, h0]
  · rw [if_neg h0]
    have hne : z.size ≠ 0 := by intro e; rw [hz] at e; rw [e] at h0; simp at h0
    have := zeros_flat z n hne
    rw [hz] at this ⊢
    exact this

theorem buildSlice_sound {E : Env} {s s' : St σ} (hh : SR E ρ Z s w) {t : TypeId} {len : Nat} {parts : List (Nat × AV)} {vparts : Array (Nat × Value)} {v : AV} (hp : prels ρ Z parts vparts.toList)
    (h : abuildSlice P s t len parts = some (v, s')) : Gives P E ρ Z (Instr.buildSlice t len vparts) w v s' s.nx := by
  unfold abuildSlice at h
  split at h <;> try (cases h; done)
  rename_i e hu
  split at h <;> try (cases h; done)
  rename_i sz z hsz hz
  split at h <;> try (cases h; done)
  rename_i hc
  obtain ⟨c1, c2, c3⟩ := hc
  split at h <;> try (cases h; done)
  rename_i c hf
  cases h
  cases hi : P.info? e with
  | none => simp [zeroOf, hi] at hz
  | some i =>
    obtain ⟨zv, hzv, rfl⟩ := zeroOf_parts hi hz
    have hzr := aconst_cells (ρ := ρ) (Z := Z) zv
    have hzl := AV.rels_length hzr
    have hzs : zv.cells.size = sz := by simp at hzl; omega
    have hfl := flat_cells zv.cells len sz hzs
    obtain ⟨o, h1, h2⟩ := fill_sound (arr := if len * sz = 0 then #[] else (Array.range (len * sz)).map (zv.cells[· % zv.cells.size]!)) hp (by rw [hfl]; exact rels_flatten hzr len) hf
    have hlen := AV.rels_length h2
    obtain ⟨ρ', g1, g2, g3, g4⟩ := newRow_sound (P := P) hh e (c := c) (arr := o) (by rw [List.take_of_length_le (by omega)]; exact h2) (by simp at hlen; omega)
    have hol : o.size = len * sz := by
      have hfo : ∀ {place} {ps : List (Nat × AV)} {cells out : List AV}, afill place cells ps = some out → out.length = cells.length := by
        intro place ps
        induction ps with
        | nil => intro cells out h; simp only [afill] at h; cases h; rfl
        | cons p ps ih =>
          intro cells out h
          obtain ⟨i, x⟩ := p
          simp only [afill] at h
          split at h <;> try (cases h; done)
          split at h <;> try (cases h; done)
          rename_i hc
          rw [ih h, splice_length hc.2.1]
      have := hfo hf
      simp [c2] at hlen this
      omega
    refine ⟨.slice (some ⟨w.heap.size, 0, none⟩) len len, _, ρ', Z, ?_, g2, by simp [anew], g3, ?_⟩
    · have hzval : (zeroValue e).run P w = .ok zv w := by simp [zeroValue, typeInfo, hi, hzv]
      have h24 : ¬ (len * sz > 2 ^ 24) := by omega
      by_cases h0 : len * sz = 0
      · rw [if_pos h0] at h1
        have e0 : ∀ f : Nat → Value, Array.map f (Array.range 0) = #[] := fun f => by apply Array.ext' ; simp
        simp [Instr.buildSlice, run_underlying hu w, run_szOf hsz w, h0, h1, g1, e0]
      · rw [if_neg h0] at h1
        simp only [Instr.buildSlice, Sem.run_bind, run_underlying hu w, Result.andThen_ok, run_szOf hsz w, Sem.run_ite, if_neg h24, Sem.run_pure, if_neg h0, hzval, h1, g1]
    · simp only [AV.rel]
      exact ⟨_, len, 0, g4, rfl, Nat.le_refl _, Nat.le_refl _, by simp, fun _ => ⟨by simp, by simp [hol]⟩⟩

theorem makeSlice_sound {E : Env} {s s' : St σ} (hh : SR E ρ Z s w) {t : TypeId} {l c v : AV} {lv cv : Value} (r : l.rel ρ Z lv) (k : c.rel ρ Z cv)
    (h : amakeSlice P s t l c = some (v, s')) : Gives P E ρ Z (Instr.makeSlice t lv cv) w v s' s.nx := by
  unfold amakeSlice at h
  split at h <;> try (cases h; done)
  rename_i e kl l kc c hu
  split at h <;> try (cases h; done)
  rename_i i z hi hz
  split at h <;> try (cases h; done)
  rename_i hc
  obtain ⟨c0, c1, c2, c3, c4, c5⟩ := hc
  cases h
  simp only [AV.rel] at r k
  subst r; subst k
  obtain ⟨zv, hzv, rfl⟩ := zeroOf_parts hi hz
  have hzr := aconst_cells (ρ := ρ) (Z := Z) zv
  have hzl := AV.rels_length hzr
  have hzs : zv.cells.size = i.size := by simp at hzl; omega
  have hfl := flat_cells zv.cells c.toNat i.size hzs
  obtain ⟨ρ', g1, g2, g3, g4⟩ := newRow_sound (P := P) hh e (c := (List.replicate c.toNat (aconst zv).cells).flatten) (arr := if c.toNat * i.size = 0 then #[] else (Array.range (c.toNat * i.size)).map (zv.cells[· % zv.cells.size]!)) (by
    rw [hfl, List.take_of_length_le]
    · exact rels_flatten hzr _
    · have := AV.rels_length (rels_flatten hzr c.toNat); omega) (by
    have h1 := AV.rels_length (rels_flatten hzr c.toNat)
    rw [← hfl] at h1
    simp only [Array.length_toList] at h1
    omega)
  have hw1 := wrap_in (l := l) c0 (by omega)
  have hw2 := wrap_in (l := c) (by omega) c2
  have hzval : (zeroValue e).run P w = .ok zv w := by simp [zeroValue, typeInfo, hi, hzv]
  refine ⟨.slice (some ⟨w.heap.size, 0, none⟩) l.toNat c.toNat, _, ρ', Z, ?_, g2, by simp [anew], g3, ?_⟩
  · have ht : ¬ ((decide (c < 0) || decide ((i.bytes : Int) * c > 2 ^ 48)) = true ∨ l < 0 ∨ l > c) := by
      simp; omega
    have hti : (typeInfo e).run P w = .ok i w := by simp [typeInfo, hi]
    have hsz : (sizeOf e).run P w = .ok i.size w := by simp [sizeOf, typeInfo, hi]
    have hcond : (((decide (c < 0) || decide ((i.bytes : Int) * c > 2 ^ 48)) || decide (l < 0)) || decide (l > c)) = false := by
      simp; omega
    by_cases h0 : c.toNat * i.size = 0
    · rw [if_pos h0] at g1 ⊢
      simp only [Instr.makeSlice, Sem.run_bind, run_underlying hu w, Result.andThen_ok, asInt, asIntOf, Sem.run_pure, hti, hw1, hw2, hcond, Bool.false_eq_true, if_false, Sem.run_ite, run_askRoom, hsz, h0, if_true]
      have e0 : ∀ f : Nat → Value, Array.map f (Array.range 0) = #[] := fun f => by apply Array.ext' ; simp
      rw [e0, g1]
      rfl
    · rw [if_neg h0] at g1 ⊢
      simp only [Instr.makeSlice, Sem.run_bind, run_underlying hu w, Result.andThen_ok, asInt, asIntOf, Sem.run_pure, hti, hw1, hw2, hcond, Bool.false_eq_true, if_false, Sem.run_ite, run_askRoom, hsz, h0, hzval, g1]
  · simp only [AV.rel]
    refine ⟨_, c.toNat, 0, g4, rfl, by omega, Nat.le_refl _, by simp, fun _ => ⟨by simp, ?_⟩⟩
    have h1 := AV.rels_length (rels_flatten hzr c.toNat)
    rw [← hfl] at h1
    simp only [Array.length_toList] at h1
    rw [h1]
    simp [c4]
end sound
end Go.Am

/- Maps. -/
namespace Go.Am
open Go.RowKit

variable {σ : Type} [Hp σ]

/-- Plain values that are the same. -/
def AV.peq1 : AV → AV → Bool
  | .int j a, .int k b => j == k && a == b
  | .str a, .str b => a == b
  | .bool a, .bool b => a == b
  | _, _ => false
def peqs : List AV → List AV → Bool
  | [], [] => true
  | x :: xs, y :: ys => x.peq1 y && peqs xs ys
  | _, _ => false
def AV.peq : AV → AV → Bool
  | .agg xs, .agg ys => peqs xs ys
  | x, y => x.peq1 y

section
variable (P : Program)

/-- Where a key stands. -/
def afind (kt : TypeId) (k : AV) : List (AV × AV × Nat) → Option (Option (Nat × AV))
  | [] => some none
  | (k', v, _) :: es =>
    match aeq P 10000 kt k k' with
    | some true => some (some (0, v))
    | some false => (afind kt k es).map fun r => r.map fun p => (p.1 + 1, p.2)
    | none => none

/-- What stands in a literal map under a key: one entry at most fits. -/
def alits (kt : TypeId) (k : AV) : List (AV × AV) → Option (Option AV)
  | [] => some none
  | (k', v) :: es =>
    match aeq P 10000 kt k k', alits kt k es with
    | some true, some none => some (some v)
    | some false, some r => some r
    | _, _ => none

def akeyFields (chk : TypeId → AV → Bool) (cs : List AV) : List Field → Bool
  | [] => true
  | f :: fs =>
    (if f.name ≠ "_" then match aload P f.type (cs.drop f.offset) with
      | some x => chk f.type x
      | none => false
    else true) && akeyFields chk cs fs
/-- May a value be a key? -/
def akey : Nat → TypeId → AV → Bool
  | 0, _, _ => false
  | n + 1, t, v =>
    match P.underlying t, v with
    | some (.int _), .int _ _ => true
    | some .string, .str _ => true
    | some .bool, .bool _ => true
    | some (.struct fs), .agg cs => akeyFields P (akey n) cs fs.toList
    | _, _ => false

def alookup (H : Heap) (t : TypeId) (m k : AV) (ok : Bool) : Option AV :=
  match P.underlying t with
  | some (.map kt e) =>
    if akey P 10000 kt k then
      let back (r : Option (Nat × AV)) : Option AV :=
        match r with
        | some (_, v) => some (if ok then .tuple [v, .bool true] else v)
        | none => (zeroOf P e).map fun z => if ok then .tuple [z, .bool false] else z
      match m with
      | .nilMap => back none
      | .map b => match H b with
        | some (.map es _) => match afind P kt k es with
          | some r => back r
          | none => none
        | some (.lit es) => match alits P kt k es with
          | some r => back (r.map fun v => (0, v))
          | none => none
        | _ => none
      | _ => none
    else none
  | _ => none

def amapUpdate (s : St σ) (t : TypeId) (m k v : AV) : Option (St σ) :=
  match P.underlying t, m with
  | some (.map kt _), .map b =>
    match Hp.get s.H b with
    | some (.map es n) =>
      if akey P 10000 kt k then
        match afind P kt k es with
        | some (some (i, _)) => match es[i]? with
          | some (k', _, n') => if k'.peq k then some ⟨Hp.put s.H b (some (.map (es.set i (k, v, n')) n)), s.nx⟩ else none
          | none => none
        | some none => some ⟨Hp.put s.H b (some (.map (es ++ [(k, v, n)]) (n + 1))), s.nx⟩
        | none => none
      else none
    | _ => none
  | _, _ => none

def amapEntry (s : St σ) (t : TypeId) (m k : AV) : Option (AV × St σ) :=
  match P.underlying t, m with
  | some (.map kt e), .map b =>
    match Hp.get s.H b with
    | some (.map es n) =>
      if akey P 10000 kt k then
        match afind P kt k es with
        | some (some (i, v)) => match es[i]? with
          | some (k', _, n') => if k'.peq k then some (.tuple [v, .int .i64 n'], ⟨Hp.put s.H b (some (.map (es.set i (k, v, n')) n)), s.nx⟩) else none
          | none => none
        | some none => match zeroOf P e with
          | some z => some (.tuple [z, .int .i64 n], ⟨Hp.put s.H b (some (.map (es ++ [(k, z, n)]) (n + 1))), s.nx⟩)
          | none => none
        | none => none
      else none
    | _ => none
  | _, _ => none

def stampAt (n : Int) : List (AV × AV × Nat) → Option Nat
  | [] => none
  | (_, _, m) :: es => if (m : Int) == n then some 0 else (stampAt n es).map (· + 1)

def aentryStore (s : St σ) (m t v : AV) : Option (St σ) :=
  match m, t with
  | .map b, .int _ n =>
    match Hp.get s.H b with
    | some (.map es c) => match stampAt n es with
      | some i => match es[i]? with
        | some (k, _, n') => some ⟨Hp.put s.H b (some (.map (es.set i (k, v, n')) c)), s.nx⟩
        | none => none
      | none => none
    | _ => none
  | _, _ => none

def amakeMap (s : St σ) : AV × St σ := (.map s.nx, ⟨Hp.put s.H s.nx (some (.map [] 0)), s.nx + 1⟩)
end

section sound
variable {P : Program} {ρ : Names} {Z : Frozen} {w : World}

theorem sameBits_plain (n : Nat) : (∀ k a, Instr.sameBits n (.int k a) (.int k a) = true) ∧ (∀ s, Instr.sameBits n (.string s) (.string s) = true) ∧ (∀ b, Instr.sameBits n (.bool b) (.bool b) = true) := by
  refine ⟨fun k a => ?_, fun s => ?_, fun b => ?_⟩ <;> cases n <;> simp [Instr.sameBits, beq_toListBytes]

theorem peq1_sound {x y : AV} {u v : Value} (h : x.peq1 y = true) (r : x.rel ρ Z u) (k : y.rel ρ Z v) (n : Nat) : u = v ∧ Instr.sameBits n u v = true := by
  obtain ⟨s1, s2, s3⟩ := sameBits_plain n
  unfold AV.peq1 at h
  split at h <;> try (cases h; done)
  all_goals simp only [AV.rel] at r k
  · simp at h; obtain ⟨rfl, rfl⟩ := h; subst r; subst k; exact ⟨rfl, s1 _ _⟩
  · simp at h; subst h; subst r; subst k; exact ⟨rfl, s2 _⟩
  · simp at h; subst h; subst r; subst k; exact ⟨rfl, s3 _⟩

theorem peqs_sound (n : Nat) : ∀ {xs ys : List AV} {l m : List Value}, peqs xs ys = true → AV.rels ρ Z xs l → AV.rels ρ Z ys m → l = m ∧ ((l.zip m).all fun (x, y) => Instr.sameBits n x y) = true
  | [], [], l, m, _, r, k => by simp [AV.rels] at r k; subst r; subst k; simp
  | x :: xs, y :: ys, l, m, h, r, k => by
    simp only [AV.rels] at r k
    obtain ⟨u, us, rfl, r1, r2⟩ := r
    obtain ⟨v, vs, rfl, k1, k2⟩ := k
    simp [peqs] at h
    obtain ⟨e1, e2⟩ := peq1_sound h.1 r1 k1 n
    obtain ⟨e3, e4⟩ := peqs_sound n h.2 r2 k2
    subst e1; subst e3
    refine ⟨rfl, ?_⟩
    simp only [List.zip_cons_cons, List.all_cons, e2, Bool.true_and]
    exact e4
  | [], _ :: _, _, _, h, _, _ => by simp [peqs] at h
  | _ :: _, [], _, _, h, _, _ => by simp [peqs] at h

theorem peq_sound {x y : AV} {u v : Value} (h : x.peq y = true) (r : x.rel ρ Z u) (k : y.rel ρ Z v) : u = v ∧ Instr.sameBits 10000 u v = true := by
  unfold AV.peq at h
  split at h
  · simp only [AV.rel] at r k
    obtain ⟨a, rfl, r⟩ := r
    obtain ⟨c, rfl, k⟩ := k
    obtain ⟨e1, e2⟩ := peqs_sound 9999 h r k
    have : a = c := Array.ext' e1
    subst this
    refine ⟨rfl, ?_⟩
    show Instr.sameBits (9999 + 1) _ _ = true
    simp only [Instr.sameBits, beq_self_eq_true, Bool.true_and]
    exact e2
  · exact peq1_sound h r k _

theorem run_keyStays {x y : AV} {u v : Value} (h : x.peq y = true) (r : x.rel ρ Z u) (k : y.rel ρ Z v) : (Instr.keyThatStays u v).run P w = .ok v w := by
  obtain ⟨_, e2⟩ := peq_sound h r k
  unfold Instr.keyThatStays
  rw [if_pos e2]
  rfl

theorem key_sound (em : Bool) : ∀ (n : Nat) (t : TypeId) (x : AV) (v : Value), akey P n t x = true → x.rel ρ Z v → (Instr.checkKey em n t v).run P w = .ok () w
  | 0, t, x, v, h, _ => by simp [akey] at h
  | n + 1, t, x, v, h, r => by
    unfold akey at h
    split at h <;> try (cases h; done)
    · rename_i hu; simp only [AV.rel] at r; subst r; simp [Instr.checkKey, run_underlying hu w]
    · rename_i hu; simp only [AV.rel] at r; subst r; simp [Instr.checkKey, run_underlying hu w]
    · rename_i hu; simp only [AV.rel] at r; subst r; simp [Instr.checkKey, run_underlying hu w]
    · rename_i fs cs hu
      simp only [AV.rel] at r
      obtain ⟨a, rfl, r⟩ := r
      simp only [Instr.checkKey, Sem.run_bind, run_underlying hu w, Result.andThen_ok]
      rw [← Array.forIn_toList]
      clear hu
      generalize fs.toList = l at h
      induction l with
      | nil => simp
      | cons f l ih =>
        simp only [akeyFields, Bool.and_eq_true] at h
        obtain ⟨h1, h2⟩ := h
        simp only [List.forIn_cons, Sem.run_bind, Sem.run_ite]
        split at h1
        · rename_i hn
          rw [if_pos hn]
          split at h1 <;> try (cases h1; done)
          rename_i x hx
          obtain ⟨cv, g1, g2⟩ := part_sound (w := w) r hx
          have := key_sound em n f.type x cv h1 g2
          simp only [g1, Result.andThen_ok, this, Sem.run_pure]
          exact ih h2
        · rename_i hn
          rw [if_neg hn]
          simp only [Sem.run_pure, Result.andThen_ok]
          exact ih h2

/-- What the quick look tells is what the slow one would. -/
theorem sameNow_sound {kt : TypeId} {d : TypeDesc} (hd : P.underlying kt = some d) {x y : AV} {u v : Value} {b c : Bool} (h : aeq P 10000 kt x y = some b) (r : x.rel ρ Z u) (k : y.rel ρ Z v)
    (hs : Instr.sameNow d u v = some c) : c = b := by
  have he : aeq P (9999 + 1) kt x y = some b := h
  unfold aeq at he
  rw [hd] at he
  split at he <;> try (cases he; done)
  all_goals
    rename_i e
    cases e
    simp only [AV.rel] at r k
  all_goals first
    | (subst r; subst k; simp [Instr.sameNow] at hs he; rw [← hs, ← he]; done)
    | (subst r; subst k; simp [Instr.sameNow, beq_str] at hs he; rw [← hs, ← he]; done)
    | (split at he <;> simp at he; rename_i hk; subst hk; subst r; subst k; simp [Instr.sameNow] at hs; rw [← hs, ← he]; done)
    | (cases hs; done)
    | (simp [Instr.sameNow] at hs; done)

/-- What was found. -/
def frel (ρ : Names) (Z : Frozen) (i : Nat) : Option (Nat × AV) → Option (Nat × Value) → Prop
  | none, none => True
  | some (j, v), some (j', cv) => j' = i + j ∧ v.rel ρ Z cv
  | _, _ => False

/-- A list of entries that stand so is looked through. -/
theorem findAsking_sound {kt : TypeId} {x : AV} {u : Value} (r : x.rel ρ Z u) : ∀ {es : List (AV × AV × Nat)} {l : List MapEntry} (i : Nat) {res : Option (Nat × AV)}, mrels ρ Z es l → afind P kt x es = some res →
    ∃ vr : Option (Nat × Value), (Instr.findAsking kt u l i).run P w = .ok vr w ∧ frel ρ Z i res vr
  | [], l, i, res, hm, h => by
    simp only [mrels] at hm; subst hm
    simp only [afind] at h; cases h
    exact ⟨none, by simp [Instr.findAsking], trivial⟩
  | (k', v, n) :: es, l, i, res, hm, h => by
    simp only [mrels] at hm
    obtain ⟨e, l', rfl, h1, h2, h3, h4⟩ := hm
    simp only [afind] at h
    split at h <;> try (cases h; done)
    · rename_i he
      cases h
      have heq : (Op.equal kt u e.key).run P w = .ok true w := aeq_sound (w := w) _ _ _ _ _ _ _ he r h1
      exact ⟨some (i, e.val), by simp [Instr.findAsking, heq], by simp [frel, h2]⟩
    · rename_i he
      have heq : (Op.equal kt u e.key).run P w = .ok false w := aeq_sound (w := w) _ _ _ _ _ _ _ he r h1
      cases hr : afind P kt x es with
      | none => simp [hr] at h
      | some r' =>
        simp [hr] at h; subst h
        obtain ⟨vr, g1, g2⟩ := findAsking_sound r (i + 1) h4 hr
        refine ⟨vr, by simp [Instr.findAsking, heq, g1], ?_⟩
        cases r' with
        | none => cases vr <;> simp_all [frel]
        | some p => cases vr <;> simp_all [frel]; omega

theorem findNow_sound {kt : TypeId} {d : TypeDesc} (hd : P.underlying kt = some d) {x : AV} {u : Value} (r : x.rel ρ Z u) : ∀ {es : List (AV × AV × Nat)} {l : List MapEntry} (i : Nat) {res : Option (Nat × AV)} {vr : Option (Nat × Value)},
    mrels ρ Z es l → afind P kt x es = some res → Instr.findNow d u l i = some vr → frel ρ Z i res vr
  | [], l, i, res, vr, hm, h, hf => by
    simp only [mrels] at hm; subst hm
    simp only [afind] at h; cases h
    simp [Instr.findNow] at hf; subst hf
    trivial
  | (k', v, n) :: es, l, i, res, vr, hm, h, hf => by
    simp only [mrels] at hm
    obtain ⟨e, l', rfl, h1, h2, h3, h4⟩ := hm
    simp only [afind] at h
    simp only [Instr.findNow] at hf
    cases hs : Instr.sameNow d u e.key with
    | none => simp [hs] at hf
    | some c =>
      split at h <;> try (cases h; done)
      · rename_i he
        have := sameNow_sound hd he r h1 hs
        subst this
        cases h
        simp [hs] at hf; subst hf
        simp [frel, h2]
      · rename_i he
        have := sameNow_sound hd he r h1 hs
        subst this
        simp [hs] at hf
        cases hr : afind P kt x es with
        | none => simp [hr] at h
        | some r' =>
          simp [hr] at h; subst h
          have g2 := findNow_sound hd r (i + 1) h4 hr hf
          cases r' with
          | none => cases vr <;> simp_all [frel]
          | some p => cases vr <;> simp_all [frel]; omega

theorem findKey_sound {kt : TypeId} {d : TypeDesc} (hd : P.underlying kt = some d) {x : AV} {u : Value} (r : x.rel ρ Z u) {es : List (AV × AV × Nat)} {l : List MapEntry} {res : Option (Nat × AV)} (hm : mrels ρ Z es l)
    (h : afind P kt x es = some res) : ∃ vr : Option (Nat × Value), (Instr.findKey kt u l).run P w = .ok vr w ∧ frel ρ Z 0 res vr := by
  unfold Instr.findKey
  rw [Sem.run_bind, run_underlying hd w, Result.andThen_ok]
  cases hf : Instr.findNow d u l 0 with
  | some vr =>
    exact ⟨vr, rfl, findNow_sound hd r 0 hm h hf⟩
  | none =>
    exact findAsking_sound (w := w) r 0 hm h

theorem akey_desc {n : Nat} {t : TypeId} {x : AV} (h : akey P n t x = true) : ∃ d, P.underlying t = some d := by
  cases n with
  | zero => simp [akey] at h
  | succ n =>
    unfold akey at h
    split at h <;> try (cases h; done)
    all_goals
      rename_i hu
      exact ⟨_, hu⟩

theorem alits_perm {kt : TypeId} {k : AV} {es es' : List (AV × AV)} (h : es.Perm es') : ∀ {r : Option AV}, alits P kt k es = some r → alits P kt k es' = some r := by
  induction h with
  | nil => intro r h; exact h
  | cons x _ ih =>
    obtain ⟨k', v⟩ := x
    intro r h
    simp only [alits] at h ⊢
    split at h <;> try (cases h; done)
    · rename_i h1 h2
      rw [h1, ih h2]; exact h
    · rename_i h1 h2
      rw [h1, ih h2]; exact h
  | swap x y t =>
    obtain ⟨k1, v1⟩ := x
    obtain ⟨k2, v2⟩ := y
    intro r h
    simp only [alits] at h ⊢
    cases e1 : aeq P 10000 kt k k1 with
    | none => simp [e1] at h
    | some b1 =>
      cases e2 : aeq P 10000 kt k k2 with
      | none => simp [e2] at h
      | some b2 =>
        cases e3 : alits P kt k t with
        | none => cases b1 <;> cases b2 <;> simp [e1, e2, e3] at h
        | some r' => cases b1 <;> cases b2 <;> cases r' <;> simp_all
  | trans _ _ ih1 ih2 => intro r h; exact ih2 (ih1 h)

theorem lrels_perm_right {l l' : List MapEntry} (h : l.Perm l') : ∀ {es : List (AV × AV)}, lrels ρ Z es l → ∃ es', es.Perm es' ∧ lrels ρ Z es' l' := by
  induction h with
  | nil => intro es h; exact ⟨es, .refl _, h⟩
  | cons x _ ih =>
    intro es h
    cases es with
    | nil => simp only [lrels] at h; cases h
    | cons p es =>
      obtain ⟨k, v⟩ := p
      simp only [lrels] at h
      obtain ⟨e, l1, h0, h1, h2, h3⟩ := h
      cases h0
      obtain ⟨es', p1, p2⟩ := ih h3
      exact ⟨(k, v) :: es', p1.cons _, by simp only [lrels]; exact ⟨_, _, rfl, h1, h2, p2⟩⟩
  | swap x y t =>
    intro es h
    match es with
    | [] => simp only [lrels] at h; cases h
    | [(k, v)] =>
      simp only [lrels] at h
      obtain ⟨e, l1, h0, h1, h2, h3⟩ := h
      subst h3; cases h0
    | (k, v) :: (k', v') :: es =>
      simp only [lrels] at h
      obtain ⟨e, l1, h0, h1, h2, e', l2, h3, h4, h5, h6⟩ := h
      subst h3; cases h0
      exact ⟨(k', v') :: (k, v) :: es, .swap _ _ _, by simp only [lrels]; exact ⟨_, _, rfl, h4, h5, _, _, rfl, h1, h2, h6⟩⟩
  | trans _ _ ih1 ih2 =>
    intro es h
    obtain ⟨e1, p1, h1⟩ := ih1 h
    obtain ⟨e2, p2, h2⟩ := ih2 h1
    exact ⟨e2, p1.trans p2, h2⟩

/-- Entries in their own order, with their stamps. -/
theorem afind_of_alits {kt : TypeId} {k : AV} : ∀ {es : List (AV × AV)} {l : List MapEntry} {r : Option AV}, lrels ρ Z es l → alits P kt k es = some r →
    ∃ es' r', mrels ρ Z es' l ∧ afind P kt k es' = some r' ∧ r'.map (·.2) = r
  | [], l, r, hl, h => by
    simp only [lrels] at hl; subst hl
    simp only [alits] at h; cases h
    exact ⟨[], none, by simp [mrels], rfl, rfl⟩
  | (k', v) :: es, l, r, hl, h => by
    simp only [lrels] at hl
    obtain ⟨e, l', rfl, h1, h2, h3⟩ := hl
    simp only [alits] at h
    split at h <;> try (cases h; done)
    · rename_i e1 e2
      cases h
      obtain ⟨es', r', g1, g2, g3⟩ := afind_of_alits h3 e2
      exact ⟨(k', v, e.born) :: es', some (0, v), by simp only [mrels]; exact ⟨e, l', rfl, h1, h2, rfl, g1⟩, by simp [afind, e1], rfl⟩
    · rename_i r0 e1 e2
      cases h
      obtain ⟨es', r', g1, g2, g3⟩ := afind_of_alits h3 e2
      refine ⟨(k', v, e.born) :: es', r'.map fun p => (p.1 + 1, p.2), by simp only [mrels]; exact ⟨e, l', rfl, h1, h2, rfl, g1⟩, by simp [afind, e1, g2], ?_⟩
      rw [← g3]
      cases r' <;> rfl

theorem lookup_sound {E : Env} {H : Heap} {nx : Nat} (hh : SRel E ρ Z H nx w) {t : TypeId} {m k v : AV} {mv kv : Value} {ok : Bool} (r : m.rel ρ Z mv) (q : k.rel ρ Z kv)
    (h : alookup P H t m k ok = some v) : Tells P ρ Z (Instr.lookup t mv kv ok) w v := by
  unfold alookup at h
  split at h <;> try (cases h; done)
  rename_i kt e hu
  split at h <;> try (cases h; done)
  rename_i hkey
  simp only at h
  obtain ⟨d, hd⟩ := akey_desc hkey
  have hchk : ∀ em, (Instr.checkKey em 10000 kt kv).run P w = .ok () w := fun em => key_sound em _ _ _ _ hkey q
  -- the end
  have back : ∀ (es : Array MapEntry) (r' : Option (Nat × AV)) (vr : Option (Nat × Value)), (Instr.findKey kt kv es.toList).run P w = .ok vr w → frel ρ Z 0 r' vr → (match r' with
        | some (_, v) => some (if ok = true then AV.tuple [v, .bool true] else v)
        | none => (zeroOf P e).map fun z => if ok = true then AV.tuple [z, .bool false] else z) = some v →
      Tells P ρ Z (do
        Instr.checkKey es.isEmpty 10000 kt kv
        let (v, ok') ← match ← Instr.findKey kt kv es.toList with
          | some (_, v) => pure (v, true)
          | none => pure (← zeroValue e, false)
        pure (if ok then Value.tuple #[v, .bool ok'] else v)) w v := by
    intro es r' vr hf hm hb
    cases r' with
    | none =>
      cases vr with
      | some _ => exact hm.elim
      | none =>
        simp only at hb
        cases hz : zeroOf P e with
        | none => simp [hz] at hb
        | some z =>
          simp [hz] at hb
          obtain ⟨zv, h1, h2, _⟩ := run_zeroOf (ρ := ρ) (Z := Z) hz w
          subst hb
          cases ok
          · exact ⟨zv, by simp [hchk, hf, h1], by simpa using h2⟩
          · refine ⟨.tuple #[zv, .bool false], by simp [hchk, hf, h1], ?_⟩
            simp only [AV.rel, if_true]; exact ⟨_, rfl, AV.rels_cons h2 (AV.rels_cons (by simp [AV.rel]) AV.rels_nil)⟩
    | some p =>
      obtain ⟨j, x⟩ := p
      cases vr with
      | none => exact hm.elim
      | some p' =>
        obtain ⟨j', cv⟩ := p'
        have hx : x.rel ρ Z cv := hm.2
        simp only at hb
        cases hb
        cases ok
        · exact ⟨cv, by simp [hchk, hf], by simpa using hx⟩
        · refine ⟨.tuple #[cv, .bool true], by simp [hchk, hf], ?_⟩
          simp only [AV.rel, if_true]; exact ⟨_, rfl, AV.rels_cons hx (AV.rels_cons (by simp [AV.rel]) AV.rels_nil)⟩
  split at h <;> try (cases h; done)
  · simp only [AV.rel] at r
    subst r
    obtain ⟨vr, g1, g2⟩ := findKey_sound (w := w) (kt := kt) hd q (es := []) (l := []) (res := none) (by simp [mrels]) (by simp [afind])
    obtain ⟨cv, b1, b2⟩ := back #[] none vr g1 g2 h
    exact ⟨cv, by simp only [Instr.lookup, Sem.run_bind, run_underlying hu w, Result.andThen_ok, Sem.run_pure] at b1 ⊢; exact b1, b2⟩
  · rename_i b
    simp only [AV.rel] at r
    obtain ⟨p, hp, rfl⟩ := r
    split at h <;> try (cases h; done)
    · rename_i es n hb
      split at h <;> try (cases h; done)
      rename_i r' hr'
      obtain ⟨p', ob, k1, k2, k3, _⟩ := hh.live _ _ hb
      rw [hp] at k1; cases k1
      obtain ⟨ents, rfl, hm⟩ := k3
      obtain ⟨vr, g1, g2⟩ := findKey_sound (w := w) (kt := kt) hd q hm hr'
      obtain ⟨cv, b1, b2⟩ := back ents r' vr g1 g2 h
      refine ⟨cv, ?_, b2⟩
      have hobj : (getObj p.block).run P w = .ok (.map ents n) w := by simp [getObj, Sem.run, k2]
      simp only [Instr.lookup, Sem.run_bind, run_underlying hu w, Result.andThen_ok, Sem.run_pure, hobj] at b1 ⊢
      exact b1
    · rename_i es hb
      split at h <;> try (cases h; done)
      rename_i r0 hr0
      obtain ⟨p', ob, k1, k2, k3, _⟩ := hh.live _ _ hb
      rw [hp] at k1; cases k1
      obtain ⟨ents, n, l, rfl, hperm, hm0⟩ := k3
      obtain ⟨es1, p1, hm1⟩ := lrels_perm_right hperm hm0
      obtain ⟨es2, r', hm, hr', hrr⟩ := afind_of_alits hm1 (alits_perm p1 hr0)
      obtain ⟨vr, g1, g2⟩ := findKey_sound (w := w) (kt := kt) hd q hm hr'
      obtain ⟨cv, b1, b2⟩ := back ents r' vr g1 g2 (by
        rw [← h, ← hrr]
        cases r' <;> rfl)
      refine ⟨cv, ?_, b2⟩
      have hobj : (getObj p.block).run P w = .ok (.map ents n) w := by simp [getObj, Sem.run, k2]
      simp only [Instr.lookup, Sem.run_bind, run_underlying hu w, Result.andThen_ok, Sem.run_pure, hobj] at b1 ⊢
      exact b1

theorem mrels_get : ∀ {es : List (AV × AV × Nat)} {l : List MapEntry} (i : Nat) {k v : AV} {n : Nat}, mrels ρ Z es l → es[i]? = some (k, v, n) → ∃ e, l[i]? = some e ∧ k.rel ρ Z e.key ∧ v.rel ρ Z e.val ∧ e.born = n
  | [], l, i, k, v, n, _, h => by simp at h
  | (k', v', n') :: es, l, 0, k, v, n, hm, h => by
    simp only [mrels] at hm
    obtain ⟨e, l', rfl, h1, h2, h3, h4⟩ := hm
    simp at h
    obtain ⟨rfl, rfl, rfl⟩ := h
    exact ⟨e, by simp, h1, h2, h3⟩
  | (k', v', n') :: es, l, i + 1, k, v, n, hm, h => by
    simp only [mrels] at hm
    obtain ⟨e, l', rfl, h1, h2, h3, h4⟩ := hm
    simp at h
    obtain ⟨e2, g1, g2⟩ := mrels_get i h4 h
    exact ⟨e2, by simpa using g1, g2⟩
theorem mrels_set : ∀ {es : List (AV × AV × Nat)} {l : List MapEntry} (i : Nat) {k v : AV} {n : Nat} {e : MapEntry}, mrels ρ Z es l → k.rel ρ Z e.key → v.rel ρ Z e.val → e.born = n → mrels ρ Z (es.set i (k, v, n)) (l.set i e)
  | [], l, i, k, v, n, e, hm, _, _, _ => by simp only [mrels] at hm; subst hm; simp [mrels]
  | (k', v', n') :: es, l, 0, k, v, n, e, hm, h1, h2, h3 => by
    simp only [mrels] at hm
    obtain ⟨e', l', rfl, _, _, _, h4⟩ := hm
    simp only [List.set_cons_zero, mrels]
    exact ⟨e, l', rfl, h1, h2, h3, h4⟩
  | (k', v', n') :: es, l, i + 1, k, v, n, e, hm, h1, h2, h3 => by
    simp only [mrels] at hm
    obtain ⟨e', l', rfl, a1, a2, a3, h4⟩ := hm
    simp only [List.set_cons_succ, mrels]
    exact ⟨e', _, rfl, a1, a2, a3, mrels_set i h4 h1 h2 h3⟩
theorem mrels_push : ∀ {es : List (AV × AV × Nat)} {l : List MapEntry} {k v : AV} {n : Nat} {e : MapEntry}, mrels ρ Z es l → k.rel ρ Z e.key → v.rel ρ Z e.val → e.born = n → mrels ρ Z (es ++ [(k, v, n)]) (l ++ [e])
  | [], l, k, v, n, e, hm, h1, h2, h3 => by simp only [mrels] at hm; subst hm; simp only [List.nil_append, mrels]; exact ⟨e, [], rfl, h1, h2, h3, rfl⟩
  | (k', v', n') :: es, l, k, v, n, e, hm, h1, h2, h3 => by
    simp only [mrels] at hm
    obtain ⟨e', l', rfl, a1, a2, a3, h4⟩ := hm
    simp only [List.cons_append, mrels]
    exact ⟨e', _, rfl, a1, a2, a3, mrels_push h4 h1 h2 h3⟩

theorem setIfInBounds_get (h : Array Obj) (r : Nat) (o : Obj) (hr : r < h.size) (c : Nat) : (h.setIfInBounds r o)[c]? = if c = r then some o else h[c]? := by
  rw [Array.getElem?_setIfInBounds]
  by_cases hc : r = c
  · subst hc; simp [hr]
  · simp [hc, Ne.symm hc]

/-- A map's object is written. -/
theorem setMap_sound {E : Env} {s : St σ} (hh : SR E ρ Z s w) {b : Nat} {es es' : List (AV × AV × Nat)} {n n' : Nat} (hb : Hp.get s.H b = some (.map es n)) {p : Pl} (hp : ρ b = some p)
    {ents' : Array MapEntry} (hm : mrels ρ Z es' ents'.toList) :
    ∃ w', (setObj p.block (.map ents' n')).run P w = .ok () w' ∧ SR E ρ Z (⟨Hp.put s.H b (some (.map es' n')), s.nx⟩ : St σ) w' := by
  obtain ⟨q, ob, k1, k2, k3, k4, k5⟩ := hh.live _ _ hb
  rw [hp] at k1; cases k1
  obtain ⟨ents, rfl, _⟩ := k3
  refine ⟨{ w with heap := w.heap.setIfInBounds p.block (.map ents' n') }, by simp [setObj, Sem.run, k2], ?_⟩
  show SRel E ρ Z (Hp.get (Hp.put s.H b _)) s.nx _
  rw [Hp.get_put]
  refine hh.setBlk hb hp (o' := .map ents' n') (fun c => setIfInBounds_get _ _ _ (heap_lt k2) c) ⟨rfl, rfl, rfl, by simp, fun k hk => by omega⟩ ⟨ents', rfl, hm⟩

theorem modify_list (a : Array MapEntry) (i : Nat) (f : MapEntry → MapEntry) {e : MapEntry} (h : a.toList[i]? = some e) : (a.modify i f).toList = a.toList.set i (f e) := by
  apply List.ext_getElem?
  intro j
  have h' : a[i]? = some e := by simpa using h
  rw [Array.getElem?_toList, Array.getElem?_modify, List.getElem?_set, Array.getElem?_toList]
  have hi : i < a.size := by
    rcases Nat.lt_or_ge i a.size with h1 | h1
    · exact h1
    · rw [Array.getElem?_eq_none h1] at h'; cases h'
  by_cases hij : i = j
  · subst hij
    have : a[i] = e := by rw [Array.getElem?_eq_getElem hi] at h'; simpa using h'
    simp [hi, this]
  · simp [hij]

theorem mapUpdate_sound {E : Env} {s s' : St σ} (hh : SR E ρ Z s w) {t : TypeId} {m k v : AV} {mv kv vv : Value} (r : m.rel ρ Z mv) (q : k.rel ρ Z kv) (hv : v.rel ρ Z vv)
    (h : amapUpdate P s t m k v = some s') : ∃ w', (Instr.mapUpdate t mv kv vv).run P w = .ok () w' ∧ SR E ρ Z s' w' ∧ s'.nx = s.nx := by
  unfold amapUpdate at h
  split at h <;> try (cases h; done)
  rename_i kt e b hu
  simp only [AV.rel] at r
  obtain ⟨p, hp, rfl⟩ := r
  split at h <;> try (cases h; done)
  rename_i es n hb
  split at h <;> try (cases h; done)
  rename_i hkey
  obtain ⟨d, hd⟩ := akey_desc hkey
  obtain ⟨p', ob, k1, k2, k3, _⟩ := hh.live _ _ hb
  rw [hp] at k1; cases k1
  obtain ⟨ents, rfl, hm⟩ := k3
  have hobj : (getObj p.block).run P w = .ok (.map ents n) w := by simp [getObj, Sem.run, k2]
  have hchk : (Instr.checkKey false 10000 kt kv).run P w = .ok () w := key_sound false _ _ _ _ hkey q
  split at h <;> try (cases h; done)
  · rename_i i v0 hf
    obtain ⟨vr, g1, g2⟩ := findKey_sound (w := w) (kt := kt) hd q hm hf
    cases vr with
    | none => exact g2.elim
    | some pr =>
      obtain ⟨j, cv⟩ := pr
      obtain ⟨hj, _⟩ := g2
      simp at hj; subst hj
      split at h <;> try (cases h; done)
      rename_i k' v' n' he
      split at h <;> try (cases h; done)
      rename_i hpeq
      cases h
      obtain ⟨en, a1, a2, a3, a4⟩ := mrels_get j hm he
      have a1' : ents[j]? = some en := by simpa using a1
      have hst : (Instr.keyThatStays en.key kv).run P w = .ok kv w := run_keyStays hpeq a2 q
      obtain ⟨w', b1, b2⟩ := setMap_sound (P := P) hh hb hp (es' := es.set j (k, v, n')) (n' := n) (ents' := ents.modify j fun e => { e with key := kv, val := vv }) (by
        rw [modify_list _ _ _ a1]
        exact mrels_set j hm q hv a4)
      exact ⟨w', by simp [Instr.mapUpdate, run_underlying hu w, hobj, hchk, g1, a1', hst, b1], b2, rfl⟩
  · rename_i hf
    cases h
    obtain ⟨vr, g1, g2⟩ := findKey_sound (w := w) (kt := kt) hd q hm hf
    cases vr with
    | some _ => exact g2.elim
    | none =>
      obtain ⟨w', b1, b2⟩ := setMap_sound (P := P) hh hb hp (es' := es ++ [(k, v, n)]) (n' := n + 1) (ents' := ents.push { key := kv, val := vv, born := n }) (by
        rw [Array.toList_push]
        exact mrels_push hm q hv rfl)
      exact ⟨w', by simp [Instr.mapUpdate, run_underlying hu w, hobj, hchk, g1, b1], b2, rfl⟩

theorem mapEntry_sound {E : Env} {s s' : St σ} (hh : SR E ρ Z s w) {t : TypeId} {m k v : AV} {mv kv : Value} (r : m.rel ρ Z mv) (q : k.rel ρ Z kv)
    (h : amapEntry P s t m k = some (v, s')) : ∃ cv w', (Instr.mapEntry t mv kv).run P w = .ok cv w' ∧ SR E ρ Z s' w' ∧ s'.nx = s.nx ∧ v.rel ρ Z cv := by
  unfold amapEntry at h
  split at h <;> try (cases h; done)
  rename_i kt e b hu
  simp only [AV.rel] at r
  obtain ⟨p, hp, rfl⟩ := r
  split at h <;> try (cases h; done)
  rename_i es n hb
  split at h <;> try (cases h; done)
  rename_i hkey
  obtain ⟨d, hd⟩ := akey_desc hkey
  obtain ⟨p', ob, k1, k2, k3, _⟩ := hh.live _ _ hb
  rw [hp] at k1; cases k1
  obtain ⟨ents, rfl, hm⟩ := k3
  have hobj : (getObj p.block).run P w = .ok (.map ents n) w := by simp [getObj, Sem.run, k2]
  have hchk : (Instr.checkKey false 10000 kt kv).run P w = .ok () w := key_sound false _ _ _ _ hkey q
  split at h <;> try (cases h; done)
  · rename_i i v0 hf
    obtain ⟨vr, g1, g2⟩ := findKey_sound (w := w) (kt := kt) hd q hm hf
    cases vr with
    | none => exact g2.elim
    | some pr =>
      obtain ⟨j, cv⟩ := pr
      obtain ⟨hj, hcv⟩ := g2
      simp at hj; subst hj
      split at h <;> try (cases h; done)
      rename_i k' v' n' he
      split at h <;> try (cases h; done)
      rename_i hpeq
      cases h
      obtain ⟨en, a1, a2, a3, a4⟩ := mrels_get j hm he
      have a1' : ents[j]? = some en := by simpa using a1
      have hst : (Instr.keyThatStays en.key kv).run P w = .ok kv w := run_keyStays hpeq a2 q
      have hvv : v0 = v' := by
        have : ∀ (es : List (AV × AV × Nat)) (j : Nat) (v0 : AV), afind P kt k es = some (some (j, v0)) → ∀ k' v' n', es[j]? = some (k', v', n') → v0 = v' := by
          intro es
          induction es with
          | nil => intro j v0 h; simp [afind] at h
          | cons p es ih =>
            intro j v0 h k' v' n' he
            obtain ⟨a, b, c⟩ := p
            simp only [afind] at h
            split at h <;> try (cases h; done)
            · cases h; simp at he; exact he.2.1
            · cases hr : afind P kt k es with
              | none => simp [hr] at h
              | some r' =>
                cases r' with
                | none => simp [hr] at h
                | some p' =>
                  simp [hr] at h
                  obtain ⟨rfl, rfl⟩ := h
                  simp at he
                  exact ih _ _ hr _ _ _ he
        exact this _ _ _ hf _ _ _ he
      subst hvv
      obtain ⟨w', b1, b2⟩ := setMap_sound (P := P) hh hb hp (es' := es.set j (k, v0, n')) (n' := n) (ents' := ents.modify j fun e => { e with key := kv }) (by
        rw [modify_list _ _ _ a1]
        exact mrels_set j hm q a3 a4)
      refine ⟨.tuple #[cv, goInt en.born], w', by simp [Instr.mapEntry, run_underlying hu w, hobj, hchk, g1, hst, b1, a1'], b2, rfl, ?_⟩
      simp only [AV.rel]
      exact ⟨_, rfl, AV.rels_cons hcv (AV.rels_cons (by simp [AV.rel, goInt, a4]) AV.rels_nil)⟩
  · rename_i hf
    split at h <;> try (cases h; done)
    rename_i z hz
    cases h
    obtain ⟨zv, z1, z2, _⟩ := run_zeroOf (ρ := ρ) (Z := Z) hz w
    obtain ⟨vr, g1, g2⟩ := findKey_sound (w := w) (kt := kt) hd q hm hf
    cases vr with
    | some _ => exact g2.elim
    | none =>
      obtain ⟨w', b1, b2⟩ := setMap_sound (P := P) hh hb hp (es' := es ++ [(k, z, n)]) (n' := n + 1) (ents' := ents.push { key := kv, val := zv, born := n }) (by
        rw [Array.toList_push]
        exact mrels_push hm q z2 rfl)
      refine ⟨.tuple #[zv, goInt n], w', by simp [Instr.mapEntry, run_underlying hu w, hobj, hchk, g1, z1, b1], b2, rfl, ?_⟩
      simp only [AV.rel]
      exact ⟨_, rfl, AV.rels_cons z2 (AV.rels_cons (by simp [AV.rel, goInt]) AV.rels_nil)⟩

theorem stamp_sound {n : Int} : ∀ {es : List (AV × AV × Nat)} {l : List MapEntry} {i : Nat}, mrels ρ Z es l → stampAt n es = some i → l.findIdx? (fun e => (e.born : Int) == n) = some i
  | [], l, i, hm, h => by simp [stampAt] at h
  | (k, v, m) :: es, l, i, hm, h => by
    simp only [mrels] at hm
    obtain ⟨e, l', rfl, h1, h2, h3, h4⟩ := hm
    simp only [stampAt] at h
    rw [List.findIdx?_cons, h3]
    split at h
    · rename_i hc
      cases h
      simp [hc]
    · rename_i hc
      cases hs : stampAt n es with
      | none => simp [hs] at h
      | some j =>
        simp [hs] at h; subst h
        have := stamp_sound h4 hs
        simp at hc
        simp [hc, this]

theorem entryStore_sound {E : Env} {s s' : St σ} (hh : SR E ρ Z s w) {ty : TypeId} {m t v : AV} {mv tv vv : Value} (r : m.rel ρ Z mv) (q : t.rel ρ Z tv) (hv : v.rel ρ Z vv)
    (h : aentryStore s m t v = some s') : ∃ w', (Instr.entryStore ty mv tv vv).run P w = .ok () w' ∧ SR E ρ Z s' w' ∧ s'.nx = s.nx := by
  unfold aentryStore at h
  split at h <;> try (cases h; done)
  rename_i b kk n
  simp only [AV.rel] at r q
  obtain ⟨p, hp, rfl⟩ := r
  subst q
  split at h <;> try (cases h; done)
  rename_i es c hb
  split at h <;> try (cases h; done)
  rename_i i hi
  split at h <;> try (cases h; done)
  rename_i k v' n' he
  cases h
  obtain ⟨p', ob, k1, k2, k3, _⟩ := hh.live _ _ hb
  rw [hp] at k1; cases k1
  obtain ⟨ents, rfl, hm⟩ := k3
  have hobj : (getObj p.block).run P w = .ok (.map ents c) w := by simp [getObj, Sem.run, k2]
  have hidx : ents.findIdx? (fun e => (e.born : Int) == n) = some i := by
    have := stamp_sound hm hi
    rw [← List.findIdx?_toArray] at this
    simpa using this
  obtain ⟨en, a1, a2, a3, a4⟩ := mrels_get i hm he
  obtain ⟨w', b1, b2⟩ := setMap_sound (P := P) hh hb hp (es' := es.set i (k, v, n')) (n' := c) (ents' := ents.modify i fun e => { e with val := vv }) (by
    rw [modify_list _ _ _ a1]
    exact mrels_set i hm a2 hv a4)
  exact ⟨w', by simp [Instr.entryStore, hobj, asInt, asIntOf, hidx, b1], b2, rfl⟩

theorem makeMap_sound {E : Env} {s : St σ} (hh : SR E ρ Z s w) {t : TypeId} : Gives P E ρ Z (Instr.makeMap t none) w (amakeMap s).1 (amakeMap s).2 s.nx := by
  refine ⟨.map (some w.heap.size), w.alloc (.map #[] 0), ρ.put s.nx ⟨w.heap.size, 0, 0⟩, Z, by simp [Instr.makeMap], ext_put hh.noName _, by simp [amakeMap], ?_, ?_⟩
  · show SRel E _ Z (Hp.get (Hp.put s.H s.nx _)) _ _
    rw [Hp.get_put]
    exact hh.newBlk ⟨#[], rfl, by simp [mrels]⟩
  · simp only [amakeMap, AV.rel]
    exact ⟨_, by simp [Names.put]; rfl, rfl⟩
end sound
end Go.Am

/- One operation, on the abstract level. -/
namespace Go.Am
open Go.RowKit

variable {σ : Type} [Hp σ]

def aev (tmps : List AV) : Operand → AV
  | .tmp t => tmps.getD t .junk
  | .const v => aconst v
  | .global _ => .junk
  | .func f => .func (.func f) [] []

def AV.noNil : AV → Bool
  | .ptr _ _ | .pref _ | .map _ | .yld _ | .iface _ _ => true
  | .func fn _ _ => match fn with | .func _ => true | _ => false
  | _ => false

section
variable (P : Program)

/-- The elements of a slice become nothing. -/
def aclear (s : St σ) (t : TypeId) (x : AV) : Option (AV × St σ) :=
  match P.underlying t with
  | some (.slice e) => match x with
    | .nilSlice => some (.tuple [], s)
    | .slice b o len _ _ _ =>
      if len = 0 then some (.tuple [], s) else
      match zeroOf P e with
      | some z => match Hp.get s.H b with
        | some (.cells c) => if z.cells.length ≠ 0 ∧ z.cells.all AV.one = true ∧ o + len * z.cells.length ≤ c.length then some (.tuple [], ⟨Hp.put s.H b (some (.cells (splice c o (List.replicate len z.cells).flatten))), s.nx⟩) else none
        | _ => none
      | none => none
    | _ => none
  | _ => none

/-- An entry of a map goes. -/
def adelete (s : St σ) (t : TypeId) (m k : AV) : Option (AV × St σ) :=
  match P.underlying t with
  | some (.map kt _) => match m with
    | .map b => match Hp.get s.H b with
      | some (.map es n) => if akey P 10000 kt k = true then
          match afind P kt k es with
          | some (some (i, _)) => some (.tuple [], ⟨Hp.put s.H b (some (.map (es.eraseIdx i) n)), s.nx⟩)
          | some none => some (.tuple [], ⟨Hp.put s.H b (some (.map es n)), s.nx⟩)
          | none => none
        else none
      | _ => none
    | _ => none
  | _ => none

/-- A built-in function that has its say at once. -/
def abuiltin (b : Builtin) (ts : List TypeId) (xs : List AV) (s : St σ) : Option (AV × St σ) :=
  match b, ts, xs with
  | .len, t :: _, [x] => (alen P (Hp.get s.H) t x).map (·, s)
  | .append, [t, u], [x, y] => aappend P s t u x y
  | .copy, t :: _, [x, y] => acopy P s t x y
  | .clear, t :: _, [x] => aclear P s t x
  | .delete, t :: _, [x, y] => adelete P s t x y
  | .max, _, xs => (amax xs).map (·, s)
  | .min, _, xs => (amin xs).map (·, s)
  | _, _, _ => none

/-- A walk over a map begins. -/
def arange (s : St σ) (t : TypeId) (x : AV) : Option (AV × St σ) :=
  match P.underlying t with
  | some (.map _ _) => match x with
    | .nilMap => some (.ptr s.nx 0, ⟨Hp.put s.H s.nx (some (.iter none 0 [] 0)), s.nx + 1⟩)
    | .map b => match Hp.get s.H b with
      | some (.map _ n) => some (.ptr s.nx 0, ⟨Hp.put s.H s.nx (some (.iter (some b) n [] n)), s.nx + 1⟩)
      | _ => none
    | _ => none
  | _ => none
/-- A walk over a map of one entry at most goes on. -/
def anext (s : St σ) (x : AV) : Option (AV × St σ) :=
  match x with
  | .ptr b 0 => match Hp.get s.H b with
    | some (.iter m since seen last) => match m with
      | none => some (.tuple [.bool false], s)
      | some m => match Hp.get s.H m with
        | some (.map es clock) => match es with
          | [] => some (.tuple [.bool false], s)
          | [(k, v, n)] => match seen with
            | [] => if n < since then some (.tuple [.bool true, k, v], ⟨Hp.put s.H b (some (.iter (some m) since [n] clock)), s.nx⟩) else none
            | [n'] => if n' = n ∧ n < last then some (.tuple [.bool false], s) else none
            | _ => none
          | _ => none
        | _ => none
    | _ => none
  | _ => none
/-- The entry at which a walk stands. -/
def aentry (s : St σ) (x : AV) : Option (AV × St σ) :=
  match x with
  | .ptr b 0 => match Hp.get s.H b with
    | some (.iter (some m) _ seen stepped) => match Hp.get s.H m with
      | some (.map es clock) => match seen.getLast? with
        | some n => match es.find? (fun e => e.2.2 == n) with
          | some e => if clock = stepped then some (.tuple [e.1, e.2.1], s) else none
          | none => none
        | none => none
      | _ => none
    | _ => none
  | _ => none

/-- An operation that calls nothing. -/
def aop (ev : Operand → AV) (o : Oper) (s : St σ) : Option (AV × St σ) :=
  match o.op with
  | .move x | .assign x => some (ev x, s)
  | .pick c a b => match ev c with
    | .bool true => some (ev a, s)
    | .bool false => some (ev b, s)
    | _ => none
  | .alloc t => match zeroOf P t with
    | some z => if z.cells.all AV.one = true then some (.ptr s.nx 0, anew s z.cells) else none
    | none => none
  | .box _ x => if (ev x).cells.all AV.one = true then some (.ptr s.nx 0, anew s (ev x).cells) else none
  | .build t parts => (abuild P t (parts.toList.map fun p => (p.1, ev p.2))).map (·, s)
  | .buildSlice t len parts => abuildSlice P s t len (parts.toList.map fun p => (p.1, ev p.2))
  | .load t a => match cellsAt (Hp.get s.H) (ev a) with
    | some cs => (aload P t cs).map (·, s)
    | none => none
  | .store t a x => (astore P s t (ev a) (ev x)).map (.tuple [], ·)
  | .nilCheck x => if (ev x).noNil then some (ev x, s) else none
  | .binOp op t x y _ => (abin P op t (isK x) (isK y) (ev x) (ev y)).map (·, s)
  | .unOp op _ x => (aun op (ev x)).map (·, s)
  | .convert src dst x => (aconv P src dst (ev x)).map (·, s)
  | .makeInterface t x => (amkIface P t (ev x)).map (·, s)
  | .makeFunc fn first captured => match fn with
    | .yield _ => none
    | fn => some (.func fn (first.toList.map ev) (captured.toList.map ev), s)
  | .makeMap _ none => some (amakeMap s)
  | .makeSlice t l c => amakeSlice P s t (ev l) (ev c)
  | .slice t x lo hi mx => (aslice P (Hp.get s.H) t (ev x) (lo.map ev) (hi.map ev) (mx.map ev)).map (·, s)
  | .fieldAddr t x f => (afieldAddr P t (ev x) f).map (·, s)
  | .field t x f => (afield P t (ev x) f).map (·, s)
  | .indexAddr t x i => (aindexAddr P t (ev x) (ev i)).map (·, s)
  | .index t x i => (aindex P t (ev x) (ev i)).map (·, s)
  | .lookup t m k ok => (alookup P (Hp.get s.H) t (ev m) (ev k) ok).map (·, s)
  | .mapUpdate t m k x | .insert t m k x => (amapUpdate P s t (ev m) (ev k) (ev x)).map (.tuple [], ·)
  | .mapEntry t m k => amapEntry P s t (ev m) (ev k)
  | .entryStore _ m t x => (aentryStore s (ev m) (ev t) (ev x)).map (.tuple [], ·)
  | .typeAssert x _ t ok => (aassert P (ev x) t ok).map (·, s)
  | .extract x i => (aextract (ev x) i).map (·, s)
  | .call { callee := .builtin b, args, argTypes } => abuiltin P b argTypes.toList (args.toList.map ev) s
  | .range t x => arange P s t (ev x)
  | .next x isS => if isS = false then anext s (ev x) else none
  | .entry x => aentry s (ev x)
  | _ => none
end

section sound
variable {P : Program} {ρ : Names} {Z : Frozen} {w : World} {E : Env} {s s' : St σ}

/-- What an operation leaves in its temporary. -/
def nval : Next → Option Value
  | .value v => some v
  | .skip => some undef
  | _ => none

def NGives (P : Program) (E : Env) (ρ : Names) (Z : Frozen) (m : Sem Next) (w : World) (v : AV) (s' : St σ) (nx : Nat) : Prop :=
  ∃ n cv w' ρ' Z', m.run P w = .ok n w' ∧ nval n = some cv ∧ Ext ρ Z ρ' Z' ∧ nx ≤ s'.nx ∧ SR E ρ' Z' s' w' ∧ v.rel ρ' Z' cv

theorem NGives.ofGives {m : Sem Value} {v : AV} {nx : Nat} (h : Gives P E ρ Z m w v s' nx) : NGives P E ρ Z (do pure (.value (← m))) w v s' nx := by
  obtain ⟨cv, w', ρ', Z', h1, h2, h3, h4, h5⟩ := h
  exact ⟨.value cv, cv, w', ρ', Z', by simp [h1], rfl, h2, h3, h4, h5⟩
theorem NGives.ofTells (hh : SR E ρ Z s w) {m : Sem Value} {v : AV} (h : Tells P ρ Z m w v) : NGives P E ρ Z (do pure (.value (← m))) w v s s.nx := by
  obtain ⟨cv, h1, h2⟩ := h
  exact ⟨.value cv, cv, w, ρ, Z, by simp [h1], rfl, Ext.refl _ _, Nat.le_refl _, hh, h2⟩
theorem NGives.ofUnit {m : Sem Unit} {nx : Nat} (h : ∃ w', m.run P w = .ok () w' ∧ SR E ρ Z s' w' ∧ s'.nx = nx) : NGives P E ρ Z (do m; pure .skip) w (.tuple []) s' nx := by
  obtain ⟨w', h1, h2, h3⟩ := h
  exact ⟨.skip, undef, w', ρ, Z, by simp [h1], rfl, Ext.refl _ _, by omega, h2, by simp [AV.rel, undef, AV.rels]⟩

theorem map_pair {α β : Type} {o : Option α} {s : β} {v : α} {s' : β} (h : o.map (·, s) = some (v, s')) : o = some v ∧ s' = s := by
  cases o with
  | none => simp at h
  | some a => simp at h; obtain ⟨rfl, rfl⟩ := h; exact ⟨rfl, rfl⟩
theorem map_skip {β : Type} {o : Option β} {v : AV} {s' : β} (h : o.map (AV.tuple [], ·) = some (v, s')) : o = some s' ∧ v = .tuple [] := by
  cases o with
  | none => simp at h
  | some a => simp at h; obtain ⟨rfl, rfl⟩ := h; exact ⟨rfl, rfl⟩

theorem prels_map {ev : Operand → AV} {cv : Operand → Value} (he : ∀ x, (ev x).rel ρ Z (cv x)) : ∀ (l : List (Nat × Operand)), prels ρ Z (l.map fun p => (p.1, ev p.2)) (l.map fun p => (p.1, cv p.2))
  | [] => by simp [prels]
  | (i, x) :: l => by simp only [List.map_cons, prels]; exact ⟨cv x, _, rfl, he x, prels_map he l⟩
theorem rels_map {ev : Operand → AV} {cv : Operand → Value} (he : ∀ x, (ev x).rel ρ Z (cv x)) : ∀ (l : List Operand), AV.rels ρ Z (l.map ev) (l.map cv)
  | [] => by simp [AV.rels]
  | x :: l => by simp only [List.map_cons]; exact AV.rels_cons (he x) (rels_map he l)
theorem orel_map {ev : Operand → AV} {cv : Operand → Value} (he : ∀ x, (ev x).rel ρ Z (cv x)) (o : Option Operand) : orel ρ Z (o.map ev) (o.map cv) := by
  cases o with
  | none => rfl
  | some x => exact ⟨cv x, rfl, he x⟩

theorem nilCheck_sound {ev : Operand → AV} {cv : Operand → Value} {o : Oper} {x : Operand} (ho : o.op = .nilCheck x) (h : (ev x).noNil = true) (r : (ev x).rel ρ Z (cv x)) : execOp cv o = pure (.value (cv x)) := by
  unfold execOp
  rw [ho]
  generalize ev x = a at *
  cases a <;> simp only [AV.noNil, Bool.false_eq_true] at h <;> simp only [AV.rel] at r
  · obtain ⟨p, e, hv⟩ := r; simp only [hv]
  · obtain ⟨cb, o, arr, el, fr, e, hv, s⟩ := r; simp only [hv]
  · obtain ⟨p, e, hv⟩ := r; simp only [hv]
  · split at h <;> try (cases h; done)
    obtain ⟨n, a, c, hv, s⟩ := r; simp only [hv]
  · obtain ⟨p, e, hv⟩ := r; simp only [hv]
  · obtain ⟨y, hv, s⟩ := r; simp only [hv]

theorem clear_sound (hh : SR E ρ Z s w) {t ty : TypeId} {ts : Array TypeId} {x v : AV} {xv : Value} (ht : ts[0]? = some t) (r : x.rel ρ Z xv) (h : aclear P s t x = some (v, s')) :
    Gives P E ρ Z (Builtin.clear_ ts ty #[xv]) w v s' s.nx := by
  unfold aclear at h
  split at h <;> try (cases h; done)
  rename_i e hu
  have hv : ∀ v : AV, v = .tuple [] → v.rel ρ Z (.tuple #[]) := by intro v hv; subst hv; simp [AV.rel, AV.rels]
  split at h <;> try (cases h; done)
  · cases h
    simp only [AV.rel] at r
    subst r
    exact ⟨.tuple #[], w, ρ, Z, by simp [Builtin.clear_, ht, run_underlying hu], Ext.refl _ _, Nat.le_refl _, hh, hv _ rfl⟩
  · rename_i b o len cap sz tt
    simp only [AV.rel] at r
    obtain ⟨p, cc, o', hp, rfl, l1, l2, l3, l4⟩ := r
    split at h
    · rename_i h0
      cases h
      subst h0
      exact ⟨.tuple #[], w, ρ, Z, by simp [Builtin.clear_, ht, run_underlying hu], Ext.refl _ _, Nat.le_refl _, hh, hv _ rfl⟩
    · rename_i h0
      split at h <;> try (cases h; done)
      rename_i z hz
      split at h <;> try (cases h; done)
      rename_i c hb
      split at h <;> try (cases h; done)
      rename_i hc
      obtain ⟨q1, q2, q3⟩ := hc
      cases h
      obtain ⟨e1, _⟩ := l4 (by omega)
      subst e1
      obtain ⟨zv, g1, g2, _⟩ := run_zeroOf (P := P) (ρ := ρ) (Z := Z) hz w
      have hzr := AV.cells_rel g2 q2
      have hzl := AV.rels_length hzr
      simp only [Array.length_toList] at hzl
      have hrel := rels_flatten hzr len
      have hone : (List.replicate len z.cells).flatten.all AV.one = true := by
        rw [List.all_flatten, List.all_eq_true]
        intro y hy
        rw [List.mem_replicate] at hy
        rw [hy.2]; exact q2
      obtain ⟨w', f1, f2⟩ := storeCells_sound (P := P) hh hb hp hrel hone (by simp; omega)
      have hzf := zeros_flat zv.cells len (by omega)
      refine ⟨.tuple #[], w', ρ, Z, ?_, Ext.refl _ _, Nat.le_refl _, f2, hv _ rfl⟩
      obtain ⟨len', rfl⟩ : ∃ n, len = n + 1 := ⟨len - 1, by omega⟩
      have hzf' : (Builtin.zeroCells zv.cells (len' + 1)).toList = (List.replicate (len' + 1) zv.cells.toList).flatten := hzf
      simp [Builtin.clear_, ht, run_underlying hu, g1, hzf', f1]

theorem mrels_erase : ∀ (i : Nat) {es : List (AV × AV × Nat)} {l : List MapEntry}, mrels ρ Z es l → mrels ρ Z (es.eraseIdx i) (l.eraseIdx i)
  | i, [], l, h => by simp only [mrels] at h; subst h; simp [mrels]
  | 0, (k, v, n) :: es, l, h => by
    simp only [mrels] at h
    obtain ⟨e, l', rfl, _, _, _, h4⟩ := h
    simpa using h4
  | i + 1, (k, v, n) :: es, l, h => by
    simp only [mrels] at h
    obtain ⟨e, l', rfl, h1, h2, h3, h4⟩ := h
    simp only [List.eraseIdx_cons_succ, mrels]
    exact ⟨e, _, rfl, h1, h2, h3, mrels_erase i h4⟩

theorem delete_sound (hh : SR E ρ Z s w) {t ty : TypeId} {ts : Array TypeId} {m k v : AV} {mv kv : Value} (ht : ts[0]? = some t) (r : m.rel ρ Z mv) (q : k.rel ρ Z kv) (h : adelete P s t m k = some (v, s')) :
    Gives P E ρ Z (Builtin.delete_ ts ty #[mv, kv]) w v s' s.nx := by
  unfold adelete at h
  split at h <;> try (cases h; done)
  rename_i kt e hu
  have hv : ∀ v : AV, v = .tuple [] → v.rel ρ Z (.tuple #[]) := by intro v hv; subst hv; simp [AV.rel, AV.rels]
  split at h <;> try (cases h; done)
  rename_i b
  simp only [AV.rel] at r
  obtain ⟨p, hp, rfl⟩ := r
  split at h <;> try (cases h; done)
  rename_i es n hb
  split at h <;> try (cases h; done)
  rename_i hkey
  obtain ⟨d, hd⟩ := akey_desc hkey
  obtain ⟨p', ob, k1, k2, k3, _⟩ := hh.live _ _ hb
  rw [hp] at k1; cases k1
  obtain ⟨ents, rfl, hm⟩ := k3
  have hobj : (getObj p.block).run P w = .ok (.map ents n) w := by simp [getObj, Sem.run, k2]
  have hchk : (Instr.checkKey ents.isEmpty 10000 kt kv).run P w = .ok () w := key_sound ents.isEmpty _ _ _ _ hkey q
  split at h <;> try (cases h; done)
  · rename_i i v0 hf
    cases h
    obtain ⟨vr, g1, g2⟩ := findKey_sound (w := w) (kt := kt) hd q hm hf
    cases vr with
    | none => exact g2.elim
    | some pr =>
      obtain ⟨j, cv⟩ := pr
      obtain ⟨hj, _⟩ := g2
      simp at hj; subst hj
      obtain ⟨w', b1, b2⟩ := setMap_sound (P := P) hh hb hp (es' := es.eraseIdx j) (n' := n) (ents' := ents.eraseIdxIfInBounds j) (by
        rw [Array.toList_eraseIdxIfInBounds]
        exact mrels_erase j hm)
      exact ⟨.tuple #[], w', ρ, Z, by simp [Builtin.delete_, ht, run_underlying hu, hobj, hchk, g1, b1], Ext.refl _ _, Nat.le_refl _, b2, hv _ rfl⟩
  · rename_i hf
    cases h
    obtain ⟨vr, g1, g2⟩ := findKey_sound (w := w) (kt := kt) hd q hm hf
    cases vr with
    | some _ => exact g2.elim
    | none =>
      obtain ⟨w', b1, b2⟩ := setMap_sound (P := P) hh hb hp (es' := es) (n' := n) (ents' := ents) hm
      exact ⟨.tuple #[], w', ρ, Z, by simp [Builtin.delete_, ht, run_underlying hu, hobj, hchk, g1, b1], Ext.refl _ _, Nat.le_refl _, b2, hv _ rfl⟩

theorem builtin_sound (hh : SR E ρ Z s w) {b : Builtin} {ts : Array TypeId} {ty : TypeId} {cs : Array Bool} {xs : List AV} {vs : Array Value} {v : AV} (r : AV.rels ρ Z xs vs.toList)
    (h : abuiltin P b ts.toList xs s = some (v, s')) : NGives P E ρ Z (builtin b ts ty cs vs) w v s' s.nx := by
  unfold abuiltin at h
  split at h
  · rename_i t ts' x hts
    obtain ⟨h', hs'⟩ := map_pair h
    subst hs'
    clear h
    have h := h'
    clear h'
    simp only [AV.rels] at r
    obtain ⟨xv, l, hl, rx, rfl⟩ := r
    have hv : vs = #[xv] := Array.ext' hl
    subst hv
    have ht : ts[0]? = some t := by rw [← Array.getElem?_toList, hts]; rfl
    exact NGives.ofTells hh (len_sound hh ht rx h)
  · rename_i t u x y hts
    simp only [AV.rels] at r
    obtain ⟨xv, l, hl, rx, yv, l', rfl, ry, rfl⟩ := r
    have hv : vs = #[xv, yv] := Array.ext' hl
    subst hv
    have ht : ts = #[t, u] := Array.ext' hts
    subst ht
    exact NGives.ofGives (append_sound hh rx ry h)
  · rename_i t ts' x y hts
    simp only [AV.rels] at r
    obtain ⟨xv, l, hl, rx, yv, l', rfl, ry, rfl⟩ := r
    have hv : vs = #[xv, yv] := Array.ext' hl
    subst hv
    have ht : ts[0]? = some t := by rw [← Array.getElem?_toList, hts]; rfl
    exact NGives.ofGives (copy_sound hh ht rx ry h)
  · rename_i t ts' x hts
    simp only [AV.rels] at r
    obtain ⟨xv, l, hl, rx, rfl⟩ := r
    have hv : vs = #[xv] := Array.ext' hl
    subst hv
    have ht : ts[0]? = some t := by rw [← Array.getElem?_toList, hts]; rfl
    exact NGives.ofGives (clear_sound hh ht rx h)
  · rename_i t ts' x y hts
    simp only [AV.rels] at r
    obtain ⟨xv, l, hl, rx, yv, l', rfl, ry, rfl⟩ := r
    have hv : vs = #[xv, yv] := Array.ext' hl
    subst hv
    have ht : ts[0]? = some t := by rw [← Array.getElem?_toList, hts]; rfl
    exact NGives.ofGives (delete_sound hh ht rx ry h)
  · obtain ⟨h', hs'⟩ := map_pair h
    subst hs'
    clear h
    have h := h'
    clear h'
    exact NGives.ofTells hh (max_sound r h)
  · obtain ⟨h', hs'⟩ := map_pair h
    subst hs'
    clear h
    have h := h'
    clear h'
    exact NGives.ofTells hh (min_sound r h)
  · cases h

theorem mrels_one {k v : AV} {n : Nat} {l : List MapEntry} (h : mrels ρ Z [(k, v, n)] l) : ∃ e, l = [e] ∧ k.rel ρ Z e.key ∧ v.rel ρ Z e.val ∧ e.born = n := by
  simp only [mrels] at h
  obtain ⟨e, l', rfl, h1, h2, h3, rfl⟩ := h
  exact ⟨e, rfl, h1, h2, h3⟩

/-- A walk's object turns. -/
theorem setObj_iter (hh : SR E ρ Z s w) {b : Nat} {k k' : ABlk} (hb : Hp.get s.H b = some k) {p : Pl} (hp : ρ b = some p) {o o' : Obj} (hk : k'.rel ρ Z p o') (ho : w.heap[p.block]? = some o) (hn : ∀ c e f, o ≠ .cells c e f := by intros; simp) :
    ∃ w', (setObj p.block o').run P w = .ok () w' ∧ SR E ρ Z (⟨Hp.put s.H b (some k'), s.nx⟩ : St σ) w' := by
  refine ⟨{ w with heap := w.heap.setIfInBounds p.block o' }, ?_, ?_⟩
  · cases o <;> first | exact absurd rfl (hn _ _ _) | simp [setObj, Sem.run, ho]
  · show SRel E ρ Z (Hp.get (Hp.put s.H b _)) s.nx _
    rw [Hp.get_put]
    exact hh.setBlk hb hp (o' := o') (fun c => setIfInBounds_get _ _ _ (heap_lt ho) c) ⟨rfl, rfl, rfl, by simp, fun k hk => by omega⟩ hk

theorem range_sound (hh : SR E ρ Z s w) {t : TypeId} {x v : AV} {xv : Value} (r : x.rel ρ Z xv) (h : arange P s t x = some (v, s')) : Gives P E ρ Z (Instr.range t xv) w v s' s.nx := by
  unfold arange at h
  split at h <;> try (cases h; done)
  rename_i k0 e hu
  split at h <;> try (cases h; done)
  · cases h
    simp only [AV.rel] at r
    subst r
    refine ⟨.pointer (some ⟨w.heap.size, 0, none⟩), w.alloc (.mapIter none 0 #[] 0), ρ.put s.nx ⟨w.heap.size, 0, 0⟩, Z, by simp [Instr.range, run_underlying hu], ext_put hh.noName _, by simp, ?_, ?_⟩
    · show SRel E _ Z (Hp.get (Hp.put s.H s.nx _)) _ _
      rw [Hp.get_put]
      exact hh.newBlk ⟨rfl, none, rfl, rfl⟩
    · simp only [AV.rel]; exact ⟨_, by simp [Names.put]; rfl, rfl⟩
  · rename_i b
    split at h <;> try (cases h; done)
    rename_i es n hb
    cases h
    simp only [AV.rel] at r
    obtain ⟨p, hp, rfl⟩ := r
    obtain ⟨p', ob, k1, k2, k3, _⟩ := hh.live _ _ hb
    rw [hp] at k1; cases k1
    obtain ⟨ents, rfl, hm⟩ := k3
    have hobj : (getObj p.block).run P w = .ok (.map ents n) w := by simp [getObj, Sem.run, k2]
    refine ⟨.pointer (some ⟨w.heap.size, 0, none⟩), w.alloc (.mapIter (some p.block) n #[] n), ρ.put s.nx ⟨w.heap.size, 0, 0⟩, Z, by simp [Instr.range, run_underlying hu, hobj], ext_put hh.noName _, by simp, ?_, ?_⟩
    · show SRel E _ Z (Hp.get (Hp.put s.H s.nx _)) _ _
      rw [Hp.get_put]
      exact hh.newBlk ⟨rfl, some p.block, ⟨p, (ext_put (Z := Z) hh.noName _).names _ _ hp, rfl⟩, rfl⟩
    · simp only [AV.rel]; exact ⟨_, by simp [Names.put]; rfl, rfl⟩

theorem iter_at (hh : SR E ρ Z s w) {b : Nat} {m : Option Nat} {since last : Nat} {seen : List Nat} (hb : Hp.get s.H b = some (.iter m since seen last)) {p : Pl} (hp : ρ b = some p) :
    p.base = 0 ∧ ∃ mb, (match m with | none => mb = none | some b => ∃ q, ρ b = some q ∧ mb = some q.block) ∧ w.heap[p.block]? = some (.mapIter mb since seen.toArray last) := by
  obtain ⟨q, o, h1, h2, h3, _⟩ := hh.live _ _ hb
  rw [hp] at h1; cases h1
  obtain ⟨h0, mb, hm, rfl⟩ := h3
  exact ⟨h0, mb, by cases m <;> exact hm, h2⟩

theorem next_sound (hh : SR E ρ Z s w) {x v : AV} {xv : Value} {ty : TypeId} (r : x.rel ρ Z xv) (h : anext s x = some (v, s')) : Gives P E ρ Z (Instr.next xv false ty) w v s' s.nx := by
  unfold anext at h
  split at h <;> try (cases h; done)
  rename_i b
  split at h <;> try (cases h; done)
  rename_i m since seen last hb
  simp only [AV.rel] at r
  obtain ⟨p, hp, rfl⟩ := r
  obtain ⟨hbase, mb, hmb, hw⟩ := iter_at hh hb hp
  have hobj : (getObj p.block).run P w = .ok (.mapIter mb since seen.toArray last) w := by simp [getObj, Sem.run, hw]
  have over : (AV.tuple [.bool false]).rel ρ Z (.tuple #[.bool false]) := by simp [AV.rel, AV.rels]
  rw [hbase]
  split at h
  · cases h
    subst hmb
    exact ⟨.tuple #[.bool false], w, ρ, Z, by simp [Instr.next, hobj], Ext.refl _ _, Nat.le_refl _, hh, over⟩
  · rename_i m
    obtain ⟨q, hq, rfl⟩ := hmb
    split at h <;> try (cases h; done)
    rename_i es clock hm
    obtain ⟨q', om, k1, k2, k3, _⟩ := hh.live _ _ hm
    rw [hq] at k1; cases k1
    obtain ⟨ents, rfl, hme⟩ := k3
    have hobm : (getObj q.block).run P w = .ok (.map ents clock) w := by simp [getObj, Sem.run, k2]
    split at h <;> try (cases h; done)
    · cases h
      have : ents = #[] := by
        simp only [mrels] at hme
        exact Array.ext' hme
      subst this
      exact ⟨.tuple #[.bool false], w, ρ, Z, by simp [Instr.next, hobj, hobm, choose, Sem.run, Question.forced], Ext.refl _ _, Nat.le_refl _, hh, over⟩
    · rename_i k y n
      obtain ⟨e, he, e1, e2, e3⟩ := mrels_one hme
      have : ents = #[e] := Array.ext' he
      subst this
      subst e3
      split at h <;> try (cases h; done)
      · split at h <;> try (cases h; done)
        rename_i hlt
        cases h
        obtain ⟨w', f1, f2⟩ := setObj_iter (P := P) (k' := .iter (some m) since [e.born] clock) hh hb hp (o' := .mapIter (some q.block) since #[e.born] clock) ⟨hbase, some q.block, ⟨q, hq, rfl⟩, rfl⟩ hw
        refine ⟨.tuple #[.bool true, e.key, e.val], w', ρ, Z, ?_, Ext.refl _ _, Nat.le_refl _, f2, ?_⟩
        · have hn : ¬ (since ≤ e.born) := by omega
          simp [Instr.next, hobj, hobm, choose, Sem.run, Question.forced, hlt, hn, f1]
        · simp only [AV.rel]
          exact ⟨_, rfl, AV.rels_cons (by simp [AV.rel]) (AV.rels_cons e1 (AV.rels_cons e2 AV.rels_nil))⟩
      · split at h <;> try (cases h; done)
        rename_i hc
        obtain ⟨rfl, hlt⟩ := hc
        cases h
        have hn : ¬ (last ≤ e.born) := by omega
        exact ⟨.tuple #[.bool false], w, ρ, Z, by simp [Instr.next, hobj, hobm, choose, Sem.run, Question.forced, hn], Ext.refl _ _, Nat.le_refl _, hh, over⟩

theorem mrels_find {n : Nat} : ∀ {es : List (AV × AV × Nat)} {l : List MapEntry} {e : AV × AV × Nat}, mrels ρ Z es l → es.find? (fun e => e.2.2 == n) = some e → ∃ e', l.find? (fun e => e.born == n) = some e' ∧ e.1.rel ρ Z e'.key ∧ e.2.1.rel ρ Z e'.val
  | [], l, e, _, he => by simp at he
  | (k, v, m) :: es, l, e, h, he => by
    simp only [mrels] at h
    obtain ⟨e1, l', rfl, h1, h2, h3, h4⟩ := h
    simp only [List.find?_cons] at he ⊢
    rw [h3]
    cases hm : (m == n) with
    | true =>
      rw [hm] at he
      cases he
      exact ⟨e1, rfl, h1, h2⟩
    | false =>
      rw [hm] at he
      exact mrels_find h4 he

theorem entry_sound (hh : SR E ρ Z s w) {x v : AV} {xv : Value} (r : x.rel ρ Z xv) (h : aentry s x = some (v, s')) : Gives P E ρ Z (Instr.entry xv) w v s' s.nx := by
  unfold aentry at h
  split at h <;> try (cases h; done)
  rename_i b
  split at h <;> try (cases h; done)
  rename_i m since seen stepped hb
  split at h <;> try (cases h; done)
  rename_i es clock hm
  split at h <;> try (cases h; done)
  rename_i n hlast
  split at h <;> try (cases h; done)
  rename_i ae hfind
  split at h <;> try (cases h; done)
  rename_i hc
  cases hc
  cases h
  simp only [AV.rel] at r
  obtain ⟨p, hp, rfl⟩ := r
  obtain ⟨hbase, mb, ⟨q, hq, rfl⟩, hw⟩ := iter_at hh hb hp
  have hobj : (getObj p.block).run P w = .ok (.mapIter (some q.block) since seen.toArray stepped) w := by simp [getObj, Sem.run, hw]
  obtain ⟨q', om, k1, k2, k3, _⟩ := hh.live _ _ hm
  rw [hq] at k1; cases k1
  obtain ⟨ents, rfl, hme⟩ := k3
  have hobm : (getObj q.block).run P w = .ok (.map ents stepped) w := by simp [getObj, Sem.run, k2]
  obtain ⟨e, he, e1, e2⟩ := mrels_find hme hfind
  have hback : seen.toArray.back? = some n := by rw [List.back?_toArray]; exact hlast
  have hf : ents.find? (fun e => e.born == n) = some e := by rw [← Array.find?_toList]; exact he
  rw [hbase]
  refine ⟨.tuple #[e.key, e.val], w, ρ, Z, by simp [Instr.entry, hobj, hobm, hback, hf], Ext.refl _ _, Nat.le_refl _, hh, ?_⟩
  simp only [AV.rel]
  exact ⟨_, rfl, AV.rels_cons e1 (AV.rels_cons e2 AV.rels_nil)⟩

theorem op_sound (hh : SR E ρ Z s w) {ev : Operand → AV} {cv : Operand → Value} (he : ∀ x, (ev x).rel ρ Z (cv x)) {o : Oper} {v : AV} (h : aop P ev o s = some (v, s')) :
    NGives P E ρ Z (execOp cv o) w v s' s.nx := by
  unfold aop at h
  unfold execOp
  split at h
  · rename_i x ho; cases h; rw [ho]; exact ⟨.value (cv x), cv x, w, ρ, Z, rfl, rfl, Ext.refl _ _, Nat.le_refl _, hh, he x⟩
  · rename_i x ho; cases h; rw [ho]; exact ⟨.value (cv x), cv x, w, ρ, Z, rfl, rfl, Ext.refl _ _, Nat.le_refl _, hh, he x⟩
  · rename_i c a b ho
    rw [ho]
    have hc := he c
    split at h <;> try (cases h; done)
    · rename_i e; rw [e] at hc; simp only [AV.rel] at hc; cases h
      exact ⟨.value (cv a), cv a, w, ρ, Z, by simp [hc, asBool], rfl, Ext.refl _ _, Nat.le_refl _, hh, he a⟩
    · rename_i e; rw [e] at hc; simp only [AV.rel] at hc; cases h
      exact ⟨.value (cv b), cv b, w, ρ, Z, by simp [hc, asBool], rfl, Ext.refl _ _, Nat.le_refl _, hh, he b⟩
  · rename_i t ho
    rw [ho]
    split at h <;> try (cases h; done)
    rename_i z hz
    split at h <;> try (cases h; done)
    rename_i hone
    cases h
    exact NGives.ofGives (alloc_sound hh hz hone)
  · rename_i t x ho
    rw [ho]
    split at h <;> try (cases h; done)
    rename_i hone
    cases h
    exact NGives.ofGives (box_sound hh (he x) hone)
  · rename_i t parts ho
    rw [ho]
    obtain ⟨h', hs'⟩ := map_pair h
    subst hs'
    clear h
    have h := h'
    clear h'
    refine NGives.ofTells hh (build_sound (ρ := ρ) (Z := Z) ?_ h)
    simpa using prels_map he parts.toList
  · rename_i t len parts ho
    rw [ho]
    refine NGives.ofGives (buildSlice_sound hh ?_ h)
    simpa using prels_map he parts.toList
  · rename_i t a ho
    rw [ho]
    split at h <;> try (cases h; done)
    rename_i cs hc
    obtain ⟨h', hs'⟩ := map_pair h
    subst hs'
    clear h
    have h := h'
    clear h'
    exact NGives.ofTells hh (loadAt_sound hh (he a) hc h)
  · rename_i t a x ho
    rw [ho]
    obtain ⟨h', hs'⟩ := map_skip h
    subst hs'
    clear h
    have h := h'
    clear h'
    exact NGives.ofUnit (storeAt_sound hh (he a) (he x) h)
  · rename_i x ho
    rw [ho]
    split at h <;> try (cases h; done)
    rename_i hn
    cases h
    have hq := nilCheck_sound ho hn (he x)
    unfold execOp at hq
    rw [ho] at hq
    rw [hq]
    exact ⟨.value (cv x), cv x, w, ρ, Z, rfl, rfl, Ext.refl _ _, Nat.le_refl _, hh, he x⟩
  · rename_i op t x y ty ho
    rw [ho]
    obtain ⟨h', hs'⟩ := map_pair h
    subst hs'
    clear h
    have h := h'
    clear h'
    exact NGives.ofTells hh (bin_sound (he x) (he y) h)
  · rename_i op t x ho
    rw [ho]
    obtain ⟨h', hs'⟩ := map_pair h
    subst hs'
    clear h
    have h := h'
    clear h'
    exact NGives.ofTells hh (un_sound (he x) h)
  · rename_i src dst x ho
    rw [ho]
    obtain ⟨h', hs'⟩ := map_pair h
    subst hs'
    clear h
    have h := h'
    clear h'
    exact NGives.ofTells hh (conv_sound (he x) h)
  · rename_i t x ho
    rw [ho]
    obtain ⟨h', hs'⟩ := map_pair h
    subst hs'
    clear h
    have h := h'
    clear h'
    exact NGives.ofTells hh (mkIface_sound (he x) h)
  · rename_i fn first captured ho
    rw [ho]
    split at h <;> try (cases h; done)
    rename_i hy
    cases h
    refine ⟨_, _, w, ρ, Z, rfl, rfl, Ext.refl _ _, Nat.le_refl _, hh, ?_⟩
    simp only [AV.rel]
    exact ⟨fun l e => hy l e, _, _, rfl, by simpa using rels_map he first.toList, by simpa using rels_map he captured.toList⟩
  · rename_i t ho
    rw [ho]
    cases h
    exact NGives.ofGives (makeMap_sound hh)
  · rename_i t l c ho
    rw [ho]
    exact NGives.ofGives (makeSlice_sound hh (he l) (he c) h)
  · rename_i t x lo hi mx ho
    rw [ho]
    obtain ⟨h', hs'⟩ := map_pair h
    subst hs'
    clear h
    have h := h'
    clear h'
    exact NGives.ofTells hh (slice_sound hh (he x) (orel_map he lo) (orel_map he hi) (orel_map he mx) h)
  · rename_i t x f ho
    rw [ho]
    obtain ⟨h', hs'⟩ := map_pair h
    subst hs'
    clear h
    have h := h'
    clear h'
    exact NGives.ofTells hh (fieldAddr_sound (he x) h)
  · rename_i t x f ho
    rw [ho]
    obtain ⟨h', hs'⟩ := map_pair h
    subst hs'
    clear h
    have h := h'
    clear h'
    exact NGives.ofTells hh (field_sound (he x) h)
  · rename_i t x i ho
    rw [ho]
    obtain ⟨h', hs'⟩ := map_pair h
    subst hs'
    clear h
    have h := h'
    clear h'
    exact NGives.ofTells hh (indexAddr_sound (he x) (he i) h)
  · rename_i t x i ho
    rw [ho]
    obtain ⟨h', hs'⟩ := map_pair h
    subst hs'
    clear h
    have h := h'
    clear h'
    exact NGives.ofTells hh (index_sound (he x) (he i) h)
  · rename_i t m k ok ho
    rw [ho]
    obtain ⟨h', hs'⟩ := map_pair h
    subst hs'
    clear h
    have h := h'
    clear h'
    exact NGives.ofTells hh (lookup_sound hh (he m) (he k) h)
  · rename_i t m k x ho
    rw [ho]
    obtain ⟨h', hs'⟩ := map_skip h
    subst hs'
    clear h
    have h := h'
    clear h'
    exact NGives.ofUnit (mapUpdate_sound hh (he m) (he k) (he x) h)
  · rename_i t m k x ho
    rw [ho]
    obtain ⟨h', hs'⟩ := map_skip h
    subst hs'
    clear h
    have h := h'
    clear h'
    exact NGives.ofUnit (mapUpdate_sound hh (he m) (he k) (he x) h)
  · rename_i t m k ho
    rw [ho]
    obtain ⟨c, w', g1, g2, g3, g4⟩ := mapEntry_sound hh (he m) (he k) h
    exact ⟨.value c, c, w', ρ, Z, by simp [g1], rfl, Ext.refl _ _, by omega, g2, g4⟩
  · rename_i t m k x ho
    rw [ho]
    obtain ⟨h', hs'⟩ := map_skip h
    subst hs'
    clear h
    have h := h'
    clear h'
    exact NGives.ofUnit (entryStore_sound hh (he m) (he k) (he x) h)
  · rename_i x xt t ok ho
    rw [ho]
    obtain ⟨h', hs'⟩ := map_pair h
    subst hs'
    clear h
    have h := h'
    clear h'
    exact NGives.ofTells hh (assert_sound (he x) h)
  · rename_i x i ho
    rw [ho]
    obtain ⟨h', hs'⟩ := map_pair h
    subst hs'
    clear h
    have h := h'
    clear h'
    exact NGives.ofTells hh (extract_sound (he x) h)
  · rename_i b args ts ho
    rw [ho]
    have key : ∀ cs, NGives P E ρ Z (builtin b ts o.type cs (args.map cv)) w v s' s.nx := fun cs => builtin_sound (P := P) (E := E) hh (by simpa using rels_map he args.toList) h
    exact key _
  · rename_i t x ho
    rw [ho]
    exact NGives.ofGives (range_sound hh (he x) h)
  · rename_i x isS ho
    rw [ho]
    split at h <;> try (cases h; done)
    rename_i hs
    subst hs
    exact NGives.ofGives (next_sound hh (he x) h)
  · rename_i x ho
    rw [ho]
    exact NGives.ofGives (entry_sound hh (he x) h)
  · cases h
end sound
end Go.Am

/- Code, on the abstract level: what it means that a piece of code comes to something, and the rules. -/
namespace Go.Am
open Go.RowKit

variable {σ : Type} [Hp σ]

/-- A call that is put off; a mark of a loop over a function. -/
inductive ADef where
  | call (fn : Fn) (captured args : List AV)
  | mark (b : Nat)

abbrev ACh := List (AV × Bool)

/-- How a frame goes that is left. -/
inductive AMode where
  | ret
  | pan (ch : ACh)

/-- How a piece of code is left. -/
inductive AExit where
  | normal
  | exit (id : Nat)
  | goto (l : Nat)
  | ret
  | panic (ch : ACh)

/-- How a call ends. -/
inductive AEnd where
  | ret (v : AV)
  | pan (ch : ACh)

/-- A frame's own state, and the heap; cm: how the frame goes that has put this call off. -/
structure FS (σ : Type) where
  tmps : List AV
  defers : List ADef
  cm : Option AMode
  st : St σ

section rel
variable (ρ : Names) (Z : Frozen)

def ADef.rel : ADef → Deferred → Prop
  | .call fn cs xs, d => (∀ l, fn ≠ .yield l) ∧ ∃ c, d.target = .fn fn c ∧ AV.rels ρ Z cs c.toList ∧ AV.rels ρ Z xs d.args.toList
  | .mark b, d => ∃ p, ρ b = some p ∧ d.target = .collected p.block
def drels : List ADef → List Deferred → Prop
  | [], l => l = []
  | d :: ds, l => ∃ e l', l = e :: l' ∧ d.rel ρ Z e ∧ drels ds l'
def chrels : ACh → List PanicEntry → Prop
  | [], l => l = []
  | (v, r) :: ch, l => ∃ e l', l = e :: l' ∧ v.rel ρ Z e.v ∧ e.recovered = r ∧ e.goexit = false ∧ chrels ch l'
def AMode.rel : AMode → FrameMode → Prop
  | .ret, m => m = .returning
  | .pan ch, m => ∃ chain, m = .panicking chain ∧ chrels ρ Z ch chain
end rel

section mono
variable {ρ ρ' : Names} {Z Z' : Frozen} (h : Ext ρ Z ρ' Z')
 include h
theorem ADef.rel_mono {d : ADef} {e : Deferred} (r : d.rel ρ Z e) : d.rel ρ' Z' e := by
  cases d with
  | call fn cs xs =>
    obtain ⟨n, c, h1, h2, h3⟩ := r
    exact ⟨n, c, h1, AV.rels_mono h _ _ h2, AV.rels_mono h _ _ h3⟩
  | mark b =>
    obtain ⟨p, h1, h2⟩ := r
    exact ⟨p, h.names _ _ h1, h2⟩
theorem drels_mono : ∀ {ds : List ADef} {l : List Deferred}, drels ρ Z ds l → drels ρ' Z' ds l
  | [], l, r => r
  | d :: ds, l, r => by
    obtain ⟨e, l', h1, h2, h3⟩ := r
    exact ⟨e, l', h1, ADef.rel_mono h h2, drels_mono h3⟩
theorem chrels_mono : ∀ {ch : ACh} {l : List PanicEntry}, chrels ρ Z ch l → chrels ρ' Z' ch l
  | [], l, r => r
  | (v, b) :: ch, l, r => by
    obtain ⟨e, l', h1, h2, h3, h4, h5⟩ := r
    exact ⟨e, l', h1, AV.rel_mono h _ _ h2, h3, h4, chrels_mono h5⟩
theorem AMode.rel_mono {m : AMode} {fm : FrameMode} (r : m.rel ρ Z fm) : m.rel ρ' Z' fm := by
  cases m with
  | ret => exact r
  | pan ch =>
    obtain ⟨c, h1, h2⟩ := r
    exact ⟨c, h1, chrels_mono h h2⟩
end mono

/-- The caller, where it counts. -/
def CRel (ρ : Names) (Z : Frozen) (b : Frame) (cs : List Frame) : Option AMode → Prop
  | none => b.kind = .normal
  | some m => b.kind = .deferred ∧ b.roundOf = none ∧ ∃ c rest, cs = c :: rest ∧ m.rel ρ Z c.mode
/-- How the callers may have turned. -/
def CStep (cs cs' : List Frame) : Option AMode → Prop
  | none => cs' = cs
  | some _ => ∃ c rest m, cs = c :: rest ∧ cs' = { c with mode := m } :: rest

/-- Where the machine has come. -/
def Arr (P : Program) (ρ : Names) (Z : Frozen) (m : Machine) (b : Frame) (k : List Item) (cs : List Frame) : AExit → Act → World → Prop
  | .normal, a, w => Steps P m (lone (b.atR a k) cs w)
  | .exit id, a, w => ∃ k0, exitTo id k0 = exitTo id k ∧ Steps P m (lone (b.atR a (.code (.exit id) :: k0)) cs w)
  | .goto l, a, w => ∃ k0, gotoIn l k0 = gotoIn l k ∧ Steps P m (lone (b.atR a (.code (.goto l) :: k0)) cs w)
  | .ret, a, w => ∃ k0, Steps P m (lone (b.atR a (.code .ret :: k0)) cs w)
  | .panic ch, a, w => ∃ todo chain, chrels ρ Z ch chain ∧ Steps P m (lone { b.atR a todo with mode := .panicking chain } cs w)

/-- An abstract frame stands for the model's. -/
structure FRel (E : Env) (ρ : Names) (Z : Frozen) (s : FS σ) (b : Frame) (cs : List Frame) (a : Act) (w : World) : Prop where
  st : SR E ρ Z s.st w
  tmps : AV.rels ρ Z s.tmps a.tmps.toList
  defers : drels ρ Z s.defers a.defers
  caller : CRel ρ Z b cs s.cm

/-- What a machine in the midst of a piece of code comes to. -/
def Goes (P : Program) (E : Env) (ρ : Names) (Z : Frozen) (nx : Nat) (cm : Option AMode) (b : Frame) (k : List Item) (cs : List Frame) (m : Machine) (Q : AExit → FS σ → Prop) : Prop :=
  ∃ e s' ρ' Z' w' a' cs', Q e s' ∧ Ext ρ Z ρ' Z' ∧ nx ≤ s'.st.nx ∧ s'.cm.isSome = cm.isSome ∧ FRel E ρ' Z' s' b cs' a' w' ∧ CStep cs cs' cm ∧ Arr P ρ' Z' m b k cs' e a' w'

/-- From this abstract state this item comes to an exit and a state of which Q holds; f: the function whose code it is; rd: is it the round of a loop over a function? -/
def ExecI (P : Program) (f : FuncId) (rd : Bool) (it : Item) (s : FS σ) (Q : AExit → FS σ → Prop) : Prop :=
  ∀ E ρ Z w a b k cs, FRel E ρ Z s b cs a w → b.fn = f → b.roundOf.isSome = rd → Goes P E ρ Z s.st.nx s.cm b k cs (lone (b.atR a (it :: k)) cs w) Q
/-- The same of a piece of code. -/
def Exec (P : Program) (f : FuncId) (rd : Bool) (c : Code) (s : FS σ) (Q : AExit → FS σ → Prop) : Prop := ExecI P f rd (.code c) s Q

section rules
variable {P : Program} {f : FuncId} {rd : Bool} {s : FS σ} {Q : AExit → FS σ → Prop}

theorem CStep.refl {cs : List Frame} {cm : Option AMode} {ρ : Names} {Z : Frozen} {b : Frame} (h : CRel ρ Z b cs cm) : CStep cs cs cm := by
  cases cm with
  | none => rfl
  | some m =>
    obtain ⟨_, _, c, rest, rfl, _⟩ := h
    exact ⟨c, rest, c.mode, rfl, rfl⟩
theorem CStep.trans {cs cs' cs'' : List Frame} {cm cm' : Option AMode} (h : CStep cs cs' cm) (k : CStep cs' cs'' cm') (hc : cm'.isSome = cm.isSome) : CStep cs cs'' cm := by
  cases cm with
  | none =>
    cases cm' with
    | none => simp only [CStep] at *; rw [k, h]
    | some _ => simp at hc
  | some m =>
    cases cm' with
    | none => simp at hc
    | some _ =>
      obtain ⟨c, rest, m1, rfl, rfl⟩ := h
      obtain ⟨c', rest', m2, h1, rfl⟩ := k
      cases h1
      exact ⟨c, rest, m2, rfl, rfl⟩

theorem Arr.of_steps {ρ : Names} {Z : Frozen} {m m₁ : Machine} {b : Frame} {k : List Item} {cs : List Frame} {e : AExit} {a : Act} {w : World} (h : Steps P m m₁) (h' : Arr P ρ Z m₁ b k cs e a w) : Arr P ρ Z m b k cs e a w := by
  cases e with
  | normal => exact h.trans h'
  | exit id => obtain ⟨k0, e, s⟩ := h'; exact ⟨k0, e, h.trans s⟩
  | goto l => obtain ⟨k0, e, s⟩ := h'; exact ⟨k0, e, h.trans s⟩
  | ret => obtain ⟨k0, s⟩ := h'; exact ⟨k0, h.trans s⟩
  | panic ch => obtain ⟨t, c, e, s⟩ := h'; exact ⟨t, c, e, h.trans s⟩

theorem Goes.of_steps {E : Env} {ρ : Names} {Z : Frozen} {nx : Nat} {cm : Option AMode} {b : Frame} {k : List Item} {cs : List Frame} {m m₁ : Machine} (h : Steps P m m₁) (g : Goes P E ρ Z nx cm b k cs m₁ Q) : Goes P E ρ Z nx cm b k cs m Q := by
  obtain ⟨e, s', ρ', Z', w', a', cs', h1, h2, h3, h4, h5, h6, h7⟩ := g
  exact ⟨e, s', ρ', Z', w', a', cs', h1, h2, h3, h4, h5, h6, h7.of_steps h⟩

theorem Goes.mono {E : Env} {ρ : Names} {Z : Frozen} {nx : Nat} {cm : Option AMode} {b : Frame} {k : List Item} {cs : List Frame} {m : Machine} {Q' : AExit → FS σ → Prop} (g : Goes P E ρ Z nx cm b k cs m Q) (hq : ∀ e s, Q e s → Q' e s) : Goes P E ρ Z nx cm b k cs m Q' := by
  obtain ⟨e, s', ρ', Z', w', a', cs', h1, h⟩ := g
  exact ⟨e, s', ρ', Z', w', a', cs', hq _ _ h1, h⟩

/-- What is there already. -/
theorem Goes.here {E : Env} {ρ : Names} {Z : Frozen} {b : Frame} {k : List Item} {cs : List Frame} {a : Act} {w : World} (h : FRel E ρ Z s b cs a w) (hq : Q .normal s) : Goes P E ρ Z s.st.nx s.cm b k cs (lone (b.atR a k) cs w) Q :=
  ⟨.normal, s, ρ, Z, w, a, cs, hq, Ext.refl _ _, Nat.le_refl _, rfl, h, CStep.refl h.caller, Steps.refl _ _⟩

theorem Exec.mono {c : Code} {Q' : AExit → FS σ → Prop} (h : Exec P f rd c s Q) (hq : ∀ e s, Q e s → Q' e s) : Exec P f rd c s Q' :=
  fun E ρ Z w a b k cs hr hf hrd => (h E ρ Z w a b k cs hr hf hrd).mono hq

theorem exec_skip (h : Q .normal s) : Exec P f rd .skip s Q :=
  fun E ρ Z w a b k cs hr _ _ => (Goes.here hr h).of_steps (.one stepR_skip)
theorem exec_label {l : Nat} (h : Q .normal s) : Exec P f rd (.label l) s Q :=
  fun E ρ Z w a b k cs hr _ _ => (Goes.here hr h).of_steps (.one stepR_label)
theorem exec_exit {id : Nat} (h : Q (.exit id) s) : Exec P f rd (.exit id) s Q :=
  fun E ρ Z w a b k cs hr _ _ => ⟨.exit id, s, ρ, Z, w, a, cs, h, Ext.refl _ _, Nat.le_refl _, rfl, hr, CStep.refl hr.caller, k, rfl, Steps.refl _ _⟩
theorem exec_goto {l : Nat} (h : Q (.goto l) s) : Exec P f rd (.goto l) s Q :=
  fun E ρ Z w a b k cs hr _ _ => ⟨.goto l, s, ρ, Z, w, a, cs, h, Ext.refl _ _, Nat.le_refl _, rfl, hr, CStep.refl hr.caller, k, rfl, Steps.refl _ _⟩
theorem exec_ret (h : Q .ret s) : Exec P f rd .ret s Q :=
  fun E ρ Z w a b k cs hr _ _ => ⟨.ret, s, ρ, Z, w, a, cs, h, Ext.refl _ _, Nat.le_refl _, rfl, hr, CStep.refl hr.caller, k, Steps.refl _ _⟩

/-- Behind a piece of code: what is normal goes on. -/
def AExit.then (next : FS σ → Prop) (Q : AExit → FS σ → Prop) : AExit → FS σ → Prop
  | .normal, s => next s
  | e, s => Q e s

theorem FRel.ext {E : Env} {ρ ρ' : Names} {Z Z' : Frozen} {b : Frame} {cs : List Frame} {a : Act} {w : World} : True := trivial

/-- What has gone so far goes on. -/
theorem Goes.bind {E : Env} {ρ : Names} {Z : Frozen} {nx : Nat} {cm : Option AMode} {b : Frame} {k k1 : List Item} {cs : List Frame} {m : Machine} {R : AExit → FS σ → Prop} (g : Goes P E ρ Z nx cm b k1 cs m R)
    (h : ∀ e s' ρ' Z' w' a' cs', R e s' → FRel E ρ' Z' s' b cs' a' w' → Arr P ρ' Z' m b k1 cs' e a' w' → Goes P E ρ' Z' s'.st.nx s'.cm b k cs' m Q) : Goes P E ρ Z nx cm b k cs m Q := by
  obtain ⟨e, s', ρ', Z', w', a', cs', h1, h2, h3, h4, h5, h6, h7⟩ := g
  obtain ⟨e2, s2, ρ2, Z2, w2, a2, cs2, g1, g2, g3, g4, g5, g6, g7⟩ := h e s' ρ' Z' w' a' cs' h1 h5 h7
  exact ⟨e2, s2, ρ2, Z2, w2, a2, cs2, g1, h2.trans g2, Nat.le_trans h3 g3, g4.trans h4, g5, h6.trans g6 h4, g7⟩

/-- Is an item no block's, no scope's? -/
theorem exitTo_plain {id : Nat} {x : Item} {k : List Item} (h : x.plain = true) : exitTo id (x :: k) = exitTo id k := by cases x <;> simp_all [exitTo, Item.plain]
theorem gotoIn_plain {l : Nat} {x : Item} {k : List Item} (h : x.plain = true) : gotoIn l (x :: k) = gotoIn l k := by cases x <;> simp_all [gotoIn, Item.plain]

/-- An exit that is no normal one passes what is plain. -/
theorem Goes.pass {E : Env} {ρ : Names} {Z : Frozen} {x : Item} {b : Frame} {k : List Item} {cs : List Frame} {m : Machine} {a : Act} {w : World} {e : AExit} (hx : x.plain = true) (he : e ≠ .normal) (hr : FRel E ρ Z s b cs a w) (hq : Q e s)
    (h : Arr P ρ Z m b (x :: k) cs e a w) : Goes P E ρ Z s.st.nx s.cm b k cs m Q := by
  refine ⟨e, s, ρ, Z, w, a, cs, hq, Ext.refl _ _, Nat.le_refl _, rfl, hr, CStep.refl hr.caller, ?_⟩
  cases e with
  | normal => exact absurd rfl he
  | exit id => obtain ⟨k0, e, s⟩ := h; exact ⟨k0, by rw [e, exitTo_plain hx], s⟩
  | goto l => obtain ⟨k0, e, s⟩ := h; exact ⟨k0, by rw [e, gotoIn_plain hx], s⟩
  | ret => exact h
  | panic ch => exact h

theorem exec_seq {x y : Code} (h : Exec P f rd x s (AExit.then (fun s => Exec P f rd y s Q) Q)) : Exec P f rd (.seq x y) s Q := by
  intro E ρ Z w a b k cs hr hf hrd
  refine ((h E ρ Z w a b (.code y :: k) cs hr hf hrd).of_steps (.one stepR_seq)).bind ?_
  intro e s' ρ' Z' w' a' cs' hq hr' harr
  cases e with
  | normal => exact (hq E ρ' Z' w' a' b k cs' hr' hf hrd).of_steps harr
  | exit id => exact Goes.pass rfl (by simp) hr' hq harr
  | goto l => exact Goes.pass rfl (by simp) hr' hq harr
  | ret => exact Goes.pass rfl (by simp) hr' hq harr
  | panic ch => exact Goes.pass rfl (by simp) hr' hq harr

theorem eval_rel {ρ : Names} {Z : Frozen} {tmps : List AV} {a : Act} (h : AV.rels ρ Z tmps a.tmps.toList) (x : Operand) : (aev tmps x).rel ρ Z (a.eval x) := by
  cases x with
  | tmp t =>
    simp only [aev, Act.eval]
    cases ht : tmps[t]? with
    | none => simp [ht, AV.rel]
    | some v =>
      obtain ⟨u, hu, hr⟩ := AV.rels_getElem? t h ht
      have hu' : a.tmps[t]? = some u := by simpa using hu
      simpa [ht, hu'] using hr
  | const v => exact aconst_rel v
  | global g => simp [aev, AV.rel]
  | func f => simp only [aev, Act.eval, AV.rel]; exact ⟨by simp, _, _, rfl, by simp [AV.rels], by simp [AV.rels]⟩

theorem exec_cond {c : Operand} {x y : Code} {t : Bool} (hc : aev s.tmps c = .bool t) (h : Exec P f rd (if t then x else y) s Q) : Exec P f rd (.cond c x y) s Q := by
  intro E ρ Z w a b k cs hr hf hrd
  have := eval_rel hr.tmps c
  rw [hc] at this
  simp only [AV.rel] at this
  exact (h E ρ Z w a b k cs hr hf hrd).of_steps (.one (stepR_cond this))

theorem exec_block {id : Nat} {c : Code} (h : Exec P f rd c s (fun e s => match e with | .normal => Q .normal s | .exit i => if i = id then Q .normal s else Q e s | e => Q e s)) : Exec P f rd (.block id c) s Q := by
  intro E ρ Z w a b k cs hr hf hrd
  refine ((h E ρ Z w a b (.inBlock id :: k) cs hr hf hrd).of_steps (.one stepR_block)).bind ?_
  intro e s' ρ' Z' w' a' cs' hq hr' harr
  cases e with
  | normal => exact (Goes.here hr' hq).of_steps (harr.trans (.one stepR_inBlock))
  | exit i =>
    obtain ⟨k0, he, hs⟩ := harr
    simp only at hq
    by_cases hi : i = id
    · subst hi
      rw [if_pos rfl] at hq
      have : exitTo i k0 = some k := by rw [he]; simp [exitTo]
      exact (Goes.here hr' hq).of_steps (hs.trans (.one (stepR_exit this)))
    · rw [if_neg hi] at hq
      refine ⟨.exit i, s', ρ', Z', w', a', cs', hq, Ext.refl _ _, Nat.le_refl _, rfl, hr', CStep.refl hr'.caller, k0, ?_, hs⟩
      rw [he]; simp [exitTo, Ne.symm hi]
  | goto l =>
    obtain ⟨k0, he, hs⟩ := harr
    exact ⟨.goto l, s', ρ', Z', w', a', cs', hq, Ext.refl _ _, Nat.le_refl _, rfl, hr', CStep.refl hr'.caller, k0, by rw [he]; simp [gotoIn], hs⟩
  | ret => exact ⟨.ret, s', ρ', Z', w', a', cs', hq, Ext.refl _ _, Nat.le_refl _, rfl, hr', CStep.refl hr'.caller, harr⟩
  | panic ch => exact ⟨.panic ch, s', ρ', Z', w', a', cs', hq, Ext.refl _ _, Nat.le_refl _, rfl, hr', CStep.refl hr'.caller, harr⟩

/-- A loop at its beginning, and a loop behind a round. -/
def ExecL (P : Program) (f : FuncId) (rd : Bool) (c : Code) (s : FS σ) (Q : AExit → FS σ → Prop) : Prop := ExecI P f rd (.inLoop c) s Q ∧ Exec P f rd (.loop c) s Q

/-- A loop goes round, or is left. -/
theorem exec_round {c : Code} (h : Exec P f rd c s (AExit.then (fun s => ExecL P f rd c s Q) Q)) : ExecL P f rd c s Q := by
  have go : ∀ it : Item, (∀ {b : Frame} {a : Act} {k : List Item} {cs : List Frame} {w : World}, step P (lone (b.atR a (it :: k)) cs w) = .next (lone (b.atR a (.code c :: .inLoop c :: k)) cs w)) → ExecI P f rd it s Q := by
    intro it hst E ρ Z w a b k cs hr hf hrd
    refine ((h E ρ Z w a b (.inLoop c :: k) cs hr hf hrd).of_steps (.one hst)).bind ?_
    intro e s' ρ' Z' w' a' cs' hq hr' harr
    cases e with
    | normal => exact (hq.1 E ρ' Z' w' a' b k cs' hr' hf hrd).of_steps harr
    | exit id => exact Goes.pass rfl (by simp) hr' hq harr
    | goto l => exact Goes.pass rfl (by simp) hr' hq harr
    | ret => exact Goes.pass rfl (by simp) hr' hq harr
    | panic ch => exact Goes.pass rfl (by simp) hr' hq harr
  exact ⟨go _ stepR_inLoop, go _ stepR_loop⟩

/-- A loop, by what holds at each round's head and what gets less. -/
theorem exec_loop_inv {c : Code} (I : FS σ → Prop) (meas : FS σ → Nat) (h0 : I s) (h : ∀ s, I s → Exec P f rd c s (AExit.then (fun s' => I s' ∧ meas s' < meas s) Q)) : Exec P f rd (.loop c) s Q := by
  have go : ∀ n s, meas s < n → I s → ExecL P f rd c s Q := by
    intro n
    induction n with
    | zero => intro s hn; omega
    | succ n ih =>
      intro s hn hI
      refine exec_round ((h s hI).mono fun e s' hq => ?_)
      cases e with
      | normal => exact ih s' (by have := hq.2; omega) hq.1
      | exit id => exact hq
      | goto l => exact hq
      | ret => exact hq
      | panic ch => exact hq
  exact (go _ s (Nat.lt_succ_self _) h0).2

theorem stepR_scope {b : Frame} {a : Act} {k : List Item} {cs : List Frame} {w : World} {c : Code} : step P (lone (b.atR a (.code (.scope c) :: k)) cs w) = .next (lone (b.atR a (.code c :: .inScope c :: k)) cs w) :=
  step_lone_go (by simp [stepG, stepG.exec, Frame.atR])
theorem stepR_inScope {b : Frame} {a : Act} {k : List Item} {cs : List Frame} {w : World} {c : Code} : step P (lone (b.atR a (.inScope c :: k)) cs w) = .next (lone (b.atR a k) cs w) :=
  step_lone_go (by simp [stepG, stepG.exec, Frame.atR])

/-- Code within a scope whose labels lie in 'body'. -/
def InScope (P : Program) (f : FuncId) (rd : Bool) (body c : Code) (s : FS σ) (Q : AExit → FS σ → Prop) : Prop :=
  ∀ E ρ Z w a b k cs, FRel E ρ Z s b cs a w → b.fn = f → b.roundOf.isSome = rd → Goes P E ρ Z s.st.nx s.cm b k cs (lone (b.atR a (.code c :: .inScope body :: k)) cs w) Q

/-- What an exit means at a scope's end. -/
def AExit.onScope (body : Code) (on : Code → FS σ → Prop) (Q : AExit → FS σ → Prop) : AExit → FS σ → Prop
  | .normal, s => Q .normal s
  | .goto l, s => match findLabel body l with
    | some rest => on rest s
    | none => Q (.goto l) s
  | e, s => Q e s

theorem inScope_step {body c : Code} (h : Exec P f rd c s (AExit.onScope body (fun rest s => InScope P f rd body rest s Q) Q)) : InScope P f rd body c s Q := by
  intro E ρ Z w a b k cs hr hf hrd
  refine (h E ρ Z w a b (.inScope body :: k) cs hr hf hrd).bind ?_
  intro e s' ρ' Z' w' a' cs' hq hr' harr
  cases e with
  | normal => exact (Goes.here (Q := Q) hr' hq).of_steps (harr.trans (.one stepR_inScope))
  | exit i =>
    obtain ⟨k0, he, hs⟩ := harr
    exact ⟨.exit i, s', ρ', Z', w', a', cs', hq, Ext.refl _ _, Nat.le_refl _, rfl, hr', CStep.refl hr'.caller, k0, by rw [he]; simp [exitTo], hs⟩
  | goto l =>
    obtain ⟨k0, he, hs⟩ := harr
    simp only [AExit.onScope] at hq
    cases hl : findLabel body l with
    | none =>
      rw [hl] at hq
      exact ⟨.goto l, s', ρ', Z', w', a', cs', hq, Ext.refl _ _, Nat.le_refl _, rfl, hr', CStep.refl hr'.caller, k0, by rw [he]; simp [gotoIn, hl], hs⟩
    | some rest =>
      rw [hl] at hq
      have hg : gotoIn l k0 = some (.code rest :: .inScope body :: k) := by rw [he]; simp [gotoIn, hl]
      exact (hq E ρ' Z' w' a' b k cs' hr' hf hrd).of_steps (hs.trans (.one (stepR_goto hg)))
  | ret => exact ⟨.ret, s', ρ', Z', w', a', cs', hq, Ext.refl _ _, Nat.le_refl _, rfl, hr', CStep.refl hr'.caller, harr⟩
  | panic ch => exact ⟨.panic ch, s', ρ', Z', w', a', cs', hq, Ext.refl _ _, Nat.le_refl _, rfl, hr', CStep.refl hr'.caller, harr⟩

theorem exec_scope {body : Code} (h : InScope P f rd body body s Q) : Exec P f rd (.scope body) s Q :=
  fun E ρ Z w a b k cs hr hf hrd => (h E ρ Z w a b k cs hr hf hrd).of_steps (.one stepR_scope)
end rules
end Go.Am

/- Regions in the order of their text; calls. -/
namespace Go.Am
open Go.RowKit

variable {σ : Type} [Hp σ]

def undefA : AV := .tuple []

def aput (tmps : List AV) (dst : Option Tmp) (v : AV) : List AV :=
  match dst with
  | some d => tmps.set d v
  | none => tmps

/-- Is an operation wanted, as far as is known? -/
def awanted (ops : Array Oper) (tmps : List AV) (o : Oper) : Option Bool :=
  match o.guard with
  | none => some true
  | some (j, want) =>
    match (ops[j]?).bind (·.dst) with
    | some d => match tmps[d]? with
      | some (.bool b) => some (b == want)
      | some (.tuple []) => some false
      | _ => none
    | none => some false

/-- How a call ends, and the model's word for it. -/
def AEnd.rel (ρ : Names) (Z : Frozen) : AEnd → Ending → Prop
  | .ret v, e => ∃ cv, e = .returned cv ∧ v.rel ρ Z cv
  | .pan ch, e => ∃ chain, e = .panicked chain ∧ chrels ρ Z ch chain

/-- A call of a function of the program's, on the abstract level. -/
def ACall (P : Program) (g : FuncId) (args : List AV) (st : St σ) (Q : AEnd → St σ → Prop) : Prop :=
  ∀ E ρ Z w (cargs : Array Value), SR E ρ Z st w → AV.rels ρ Z args cargs.toList →
    Calls P g cargs w fun e w' => ∃ ae st' ρ' Z', Q ae st' ∧ Ext ρ Z ρ' Z' ∧ st.nx ≤ st'.nx ∧ SR E ρ' Z' st' w' ∧ ae.rel ρ' Z' e

theorem ACall.mono {P : Program} {g : FuncId} {args : List AV} {st : St σ} {Q Q' : AEnd → St σ → Prop} (h : ACall P g args st Q) (hq : ∀ e st, Q e st → Q' e st) : ACall P g args st Q' :=
  fun E ρ Z w cargs hr ha => (h E ρ Z w cargs hr ha).mono fun e w' ⟨ae, st', ρ', Z', h1, h2⟩ => ⟨ae, st', ρ', Z', hq _ _ h1, h2⟩

section rules
variable {P : Program} {f : FuncId} {rd : Bool} {s : FS σ} {Q : AExit → FS σ → Prop} {ops : Array Oper}

theorem ops_nil (h : Q .normal s) : ExecI P f rd (.inRegion ops []) s Q :=
  fun E ρ Z w a b k cs hr _ _ => (Goes.here hr h).of_steps (.one stepR_region_end)

theorem put_rel {ρ : Names} {Z : Frozen} {tmps : List AV} {a : Act} {dst : Option Tmp} {v : AV} {cv : Value} (h : AV.rels ρ Z tmps a.tmps.toList) (hv : v.rel ρ Z cv) : AV.rels ρ Z (aput tmps dst v) (a.put dst cv).tmps.toList := by
  cases dst with
  | none => exact h
  | some d =>
    simp only [aput, Act.put, Array.toList_setIfInBounds]
    exact AV.rels_set d h hv
theorem put_defers (a : Act) (dst : Option Tmp) (cv : Value) : (a.put dst cv).defers = a.defers := by cases dst <;> rfl

theorem wanted_sound {ρ : Names} {Z : Frozen} {tmps : List AV} {a : Act} {o : Oper} {t : Bool} (h : AV.rels ρ Z tmps a.tmps.toList) (hw : awanted ops tmps o = some t) : Region.wanted o (yielded ops a.tmps) = t := by
  unfold awanted at hw
  unfold Region.wanted
  cases hg : o.guard with
  | none => simp [hg] at hw; simp [hw]
  | some jw =>
    obtain ⟨j, want⟩ := jw
    simp only [hg] at hw ⊢
    unfold yielded
    cases hd : (ops[j]?).bind (·.dst) with
    | none => simp [hd] at hw; simp [hw]
    | some d =>
      simp only [hd] at hw
      simp only [Option.bind_some]
      split at hw <;> try (cases hw; done)
      · rename_i b ht
        obtain ⟨u, hu, hr⟩ := AV.rels_getElem? d h ht
        simp only [AV.rel] at hr
        subst hr
        have hu' : a.tmps[d]? = some (.bool b) := by simpa using hu
        simp at hw
        simp [hu', ← hw]
      · rename_i ht
        obtain ⟨u, hu, hr⟩ := AV.rels_getElem? d h ht
        simp only [AV.rel] at hr
        obtain ⟨q, rfl, _⟩ := hr
        have hu' : a.tmps[d]? = some (.tuple q) := by simpa using hu
        simp at hw
        simp [hu', ← hw]

theorem undef_rel {ρ : Names} {Z : Frozen} : undefA.rel ρ Z undef := by simp only [undefA, undef, AV.rel]; exact ⟨_, rfl, by simp [AV.rels]⟩

theorem CRel.mono {ρ ρ' : Names} {Z Z' : Frozen} {b : Frame} {cs : List Frame} {cm : Option AMode} (h : CRel ρ Z b cs cm) (hx : Ext ρ Z ρ' Z') : CRel ρ' Z' b cs cm := by
  cases cm with
  | none => exact h
  | some m =>
    obtain ⟨c1, c2, c, rst, c3, c4⟩ := h
    exact ⟨c1, c2, c, rst, c3, AMode.rel_mono hx c4⟩

/-- An operation that is not wanted. -/
theorem ops_skip {i : Nat} {rest : List Nat} {o : Oper} (ho : ops[i]? = some o) (hw : awanted ops s.tmps o = some false)
    (h : ExecI P f rd (.inRegion ops rest) { s with tmps := aput s.tmps o.dst undefA } Q) : ExecI P f rd (.inRegion ops (i :: rest)) s Q := by
  intro E ρ Z w a b k cs hr hf hrd
  have hw' := wanted_sound hr.tmps hw
  have hs := stepR_op_skip (P := P) (b := b) (a := a) (k := k) (cs := cs) (w := w) (ops := ops) (i := i) (rest := rest) (by simp [ho, hw'])
  rw [ho, Option.bind_some] at hs
  exact (h E ρ Z w (a.put o.dst undef) b k cs ⟨hr.st, put_rel hr.tmps undef_rel, by rw [put_defers]; exact hr.defers, hr.caller⟩ hf hrd).of_steps (.one hs)

theorem finish_put {b : Frame} {a : Act} {i : Nat} {rest : List Nat} {k : List Item} {o : Oper} (ho : ops[i]? = some o) (cv : Value) :
    (b.atR a (.inRegion ops (i :: rest) :: k)).finish cv = b.atR (a.put o.dst cv) (.inRegion ops rest :: k) := by
  rw [Frame.finish_atR, ho, Option.bind_some]

/-- An operation that calls nothing. -/
theorem ops_op {i : Nat} {rest : List Nat} {o : Oper} (ho : ops[i]? = some o) (hw : awanted ops s.tmps o = some true) {v : AV} {st' : St σ} (hop : aop P (aev s.tmps) o s.st = some (v, st'))
    (h : ExecI P f rd (.inRegion ops rest) { s with tmps := aput s.tmps o.dst v, st := st' } Q) : ExecI P f rd (.inRegion ops (i :: rest)) s Q := by
  intro E ρ Z w a b k cs hr hf hrd
  have hw' := wanted_sound hr.tmps hw
  obtain ⟨n, cv, w', ρ', Z', g1, g2, g3, g4, g5, g6⟩ := op_sound (P := P) hr.st (fun x => eval_rel hr.tmps x) hop
  have hnd : ∀ c, o.op ≠ .defer c := by
    intro c e
    simp [aop, e] at hop
  have hg := stepGR_op (P := P) (b := b) (k := k) (cs := cs) (w := w) (rest := rest) ho hw'
  rw [Oper.semAt_eq _ _ _ hnd] at hg
  have hs : step P (lone (b.atR a (.inRegion ops (i :: rest) :: k)) cs w) = .next (lone (b.atR (a.put o.dst cv) (.inRegion ops rest :: k)) cs w') := by
    refine step_lone_go ?_
    rw [hg, ← finish_put ho]
    cases n <;> simp only [nval, reduceCtorEq] at g2
    · cases g2; simp [stepG.apply, g1]
    · cases g2; simp [stepG.apply, g1]
  have hfr : FRel E ρ' Z' { s with tmps := aput s.tmps o.dst v, st := st' } b cs (a.put o.dst cv) w' :=
    ⟨g5, put_rel (AV.rels_mono g3 _ _ hr.tmps) g6, by rw [put_defers]; exact drels_mono g3 hr.defers, hr.caller.mono g3⟩
  obtain ⟨e, s2, ρ2, Z2, w2, a2, cs2, q1, q2, q3, q4, q5, q6, q7⟩ := h E ρ' Z' w' (a.put o.dst cv) b k cs hfr hf hrd
  exact ⟨e, s2, ρ2, Z2, w2, a2, cs2, q1, g3.trans q2, Nat.le_trans g4 q3, q4, q5, q6, q7.of_steps (.one hs)⟩

/-- A function of the program's with a body. -/
structure Has (P : Program) (g : FuncId) (fn : Func) (c : Code) : Prop where
  at_ : P.funcs[g]? = some fn
  body : fn.body = some c
  name : (fn.name == "runtime.NumGoroutine") = false

theorem run_callFunc {g : FuncId} {fn : Func} {c : Code} (h : Has P g fn c) (args : Array Value) (w : World) : (callFunc g args).run P w = .ok (.enter g args) w := by
  simp only [callFunc, Sem.run_bind, run_program, Result.andThen_ok, h.at_, Sem.run_ite]
  have hn := h.name
  simp [h.body, hn]

/-- What a call leads to. -/
inductive ATgt where
  | enter (g : FuncId) (args : List AV)
  | round (b : Nat) (args : List AV)

def atgt : AV → List AV → Option ATgt
  | .func (.func g) first cap, xs => some (.enter g (first ++ xs ++ cap))
  | .yld b, xs => some (.round b xs)
  | _, _ => none

/-- The machine has come behind a call: its value is there, or a panic goes through. -/
theorem call_goes {E : Env} {ρ : Names} {Z : Frozen} {w : World} {a : Act} {b : Frame} {k : List Item} {cs : List Frame} {i : Nat} {rest : List Nat} {o : Oper} {g : FuncId} {args : List AV} {cargs : Array Value}
    (hr : FRel E ρ Z s b cs a w) (hf : b.fn = f) (hrd : b.roundOf.isSome = rd) (ho : ops[i]? = some o) (ha : AV.rels ρ Z args cargs.toList)
    (hent : step P (lone (b.atR a (.inRegion ops (i :: rest) :: k)) cs w) = .next (lone (Frame.enter P g cargs .normal) (b.atR a (.inRegion ops (i :: rest) :: k) :: cs) w))
    (h : ACall P g args s.st fun e st' => match e with
      | .ret v => ExecI P f rd (.inRegion ops rest) { s with tmps := aput s.tmps o.dst v, st := st' } Q
      | .pan ch => Q (.panic ch) { s with st := st' }) :
    Goes P E ρ Z s.st.nx s.cm b k cs (lone (b.atR a (.inRegion ops (i :: rest) :: k)) cs w) Q := by
  obtain ⟨e, w', fr, hR, hcomes, _, hleave⟩ := h E ρ Z w cargs hr.st ha (b.atR a (.inRegion ops (i :: rest) :: k) :: cs)
  obtain ⟨ae, st', ρ', Z', hq, hx, hnx, hst, hend⟩ := hR
  cases ae with
  | ret v =>
    obtain ⟨cv, rfl, hv⟩ := hend
    have hs : Steps P (lone (b.atR a (.inRegion ops (i :: rest) :: k)) cs w) (lone (b.atR (a.put o.dst cv) (.inRegion ops rest :: k)) cs w') :=
      .head hent (Steps.trans hcomes (.one (by rw [step_leave_returned hleave, finish_put ho])))
    have hfr : FRel E ρ' Z' { s with tmps := aput s.tmps o.dst v, st := st' } b cs (a.put o.dst cv) w' :=
      ⟨hst, put_rel (AV.rels_mono hx _ _ hr.tmps) hv, by rw [put_defers]; exact drels_mono hx hr.defers, hr.caller.mono hx⟩
    obtain ⟨e, s2, ρ2, Z2, w2, a2, cs2, q1, q2, q3, q4, q5, q6, q7⟩ := hq E ρ' Z' w' (a.put o.dst cv) b k cs hfr hf hrd
    exact ⟨e, s2, ρ2, Z2, w2, a2, cs2, q1, hx.trans q2, Nat.le_trans hnx q3, q4, q5, q6, q7.of_steps hs⟩
  | pan ch =>
    obtain ⟨chain, rfl, hch⟩ := hend
    have hs : Steps P (lone (b.atR a (.inRegion ops (i :: rest) :: k)) cs w) (lone { b.atR a (.inRegion ops (i :: rest) :: k) with mode := .panicking chain } cs w') :=
      .head hent (Steps.trans hcomes (.one (by rw [step_leave_panicked hleave, Frame.raise_atR])))
    exact ⟨.panic ch, { s with st := st' }, ρ', Z', w', a, cs, hq, hx, hnx, rfl, ⟨hst, AV.rels_mono hx _ _ hr.tmps, drels_mono hx hr.defers, hr.caller.mono hx⟩, CStep.refl hr.caller, _, chain, hch, hs⟩

/-- A call of a function value. -/
theorem ops_call {i : Nat} {rest : List Nat} {o : Oper} (ho : ops[i]? = some o) (hw : awanted ops s.tmps o = some true) {fx : Operand} {xs : Array Operand} {ts : Array TypeId}
    (hop : o.op = .call { callee := .value fx, args := xs, argTypes := ts }) {g : FuncId} {args : List AV} (ht : atgt (aev s.tmps fx) (xs.toList.map (aev s.tmps)) = some (.enter g args))
    {fn : Func} {c : Code} (hfn : Has P g fn c)
    (h : ACall P g args s.st fun e st' => match e with
      | .ret v => ExecI P f rd (.inRegion ops rest) { s with tmps := aput s.tmps o.dst v, st := st' } Q
      | .pan ch => Q (.panic ch) { s with st := st' }) : ExecI P f rd (.inRegion ops (i :: rest)) s Q := by
  intro E ρ Z w a b k cs hr hf hrd
  have hw' := wanted_sound hr.tmps hw
  have hg := stepGR_op (P := P) (b := b) (k := k) (cs := cs) (w := w) (rest := rest) ho hw'
  rw [Oper.semAt_eq _ _ _ (by intro c e; rw [hop] at e; cases e)] at hg
  have hv := eval_rel hr.tmps fx
  unfold atgt at ht
  split at ht <;> try (cases ht; done)
  rename_i g' first cap he
  cases ht
  rw [he] at hv
  simp only [AV.rel] at hv
  obtain ⟨_, fa, ca, hva, r1, r2⟩ := hv
  have hrun : (execOp a.eval o).run P w = .ok (.enter g (fa ++ xs.map a.eval ++ ca)) w := by
    simp only [execOp, hop, resolve, hva, Deferred.ofValue, invoke, pure_bind]
    exact run_callFunc hfn _ _
  refine call_goes hr hf hrd ho (args := first ++ List.map (aev s.tmps) xs.toList ++ cap) (cargs := fa ++ xs.map a.eval ++ ca) ?_ ?_ h
  · simp only [Array.toList_append, Array.toList_map]
    exact AV.rels_append (AV.rels_append r1 (rels_map (fun x => eval_rel hr.tmps x) _)) r2
  · refine step_lone_go ?_
    rw [hg]
    simp [stepG.apply, hrun, Frame.atR]

/-- A panic of the text's own. -/
theorem ops_panic {i : Nat} {rest : List Nat} {o : Oper} (ho : ops[i]? = some o) (hw : awanted ops s.tmps o = some true) {x : Operand} (hop : o.op = .panic x) {t : TypeId} {v : AV} (hx : aev s.tmps x = .iface t v)
    (h : Q (.panic [(.iface t v, false)]) s) : ExecI P f rd (.inRegion ops (i :: rest)) s Q := by
  intro E ρ Z w a b k cs hr hf hrd
  have hw' := wanted_sound hr.tmps hw
  have hg := stepGR_op (P := P) (b := b) (k := k) (cs := cs) (w := w) (rest := rest) ho hw'
  rw [Oper.semAt_eq _ _ _ (by intro c e; rw [hop] at e; cases e)] at hg
  have hv := eval_rel hr.tmps x
  rw [hx] at hv
  have hv' := hv
  simp only [AV.rel] at hv
  obtain ⟨y, hy, r1⟩ := hv
  have hrun : (execOp a.eval o).run P w = .halt (.panic (a.eval x)) w := by
    simp only [execOp, hop, hy, Instr.panic]
    simp
  have hs : step P (lone (b.atR a (.inRegion ops (i :: rest) :: k)) cs w) = .next (lone { b.atR a (.inRegion ops (i :: rest) :: k) with mode := .panicking [{ v := a.eval x, recovered := false }] } cs w) := by
    refine step_lone_go ?_
    rw [hg]
    simp [stepG.apply, hrun, Frame.atR, Frame.raise]
  refine ⟨.panic [(.iface t v, false)], s, ρ, Z, w, a, cs, h, Ext.refl _ _, Nat.le_refl _, rfl, hr, CStep.refl hr.caller, _, _, ?_, .one hs⟩
  exact ⟨_, [], rfl, hv', rfl, rfl, rfl⟩

/-- What is put off. -/
def adef : AV → List AV → Option ADef
  | .func fn first cap, xs => match fn with
    | .func g => some (.call (.func g) cap (first ++ xs))
    | _ => none
  | _, _ => none

theorem ops_defer {i : Nat} {rest : List Nat} {o : Oper} (hrd0 : rd = false) (ho : ops[i]? = some o) (hw : awanted ops s.tmps o = some true) {fx : Operand} {xs : Array Operand} {ts : Array TypeId}
    (hop : o.op = .defer { callee := .value fx, args := xs, argTypes := ts }) {d : ADef} (hd : adef (aev s.tmps fx) (xs.toList.map (aev s.tmps)) = some d)
    (h : ExecI P f rd (.inRegion ops rest) { s with tmps := aput s.tmps o.dst undefA, defers := d :: s.defers } Q) : ExecI P f rd (.inRegion ops (i :: rest)) s Q := by
  intro E ρ Z w a b k cs hr hf hrd
  have hro : b.roundOf = none := by
    cases hb : b.roundOf with
    | none => rfl
    | some _ => rw [hb] at hrd; simp [hrd0] at hrd
  have hw' := wanted_sound hr.tmps hw
  have hg := stepGR_op (P := P) (b := b) (k := k) (cs := cs) (w := w) (rest := rest) ho hw'
  rw [hro, Oper.semAt_none] at hg
  have hv := eval_rel hr.tmps fx
  unfold adef at hd
  split at hd <;> try (cases hd; done)
  rename_i fn first cap he
  split at hd <;> try (cases hd; done)
  rename_i g
  cases hd
  rw [he] at hv
  simp only [AV.rel] at hv
  obtain ⟨_, fa, ca, hva, r1, r2⟩ := hv
  let D : Deferred := { target := .fn (.func g) ca, args := fa ++ xs.map a.eval }
  have hrun : (execOp a.eval o).run P w = .ok (.defer D) w := by
    simp only [execOp, hop, resolve, hva, Deferred.ofValue, pure_bind]
    rfl
  have hs : step P (lone (b.atR a (.inRegion ops (i :: rest) :: k)) cs w) = .next (lone (b.atR ({ a with defers := D :: a.defers }.put o.dst undef) (.inRegion ops rest :: k)) cs w) := by
    refine step_lone_go ?_
    rw [hg]
    have := finish_put (b := b) (a := { a with defers := D :: a.defers }) (rest := rest) (k := k) ho undef
    simp only [stepG.apply, Sem.runT_eq, hrun, GStep.bare_after]
    exact congrArg (fun fr => GStep.go { frame := fr, callers := cs, status := .running, dying := none } w) this
  refine (h E ρ Z w ({ a with defers := D :: a.defers }.put o.dst undef) b k cs ⟨hr.st, put_rel (a := { a with defers := D :: a.defers }) hr.tmps undef_rel, ?_, hr.caller⟩ hf hrd).of_steps (.one hs)
  rw [put_defers]
  refine ⟨D, a.defers, rfl, ?_, hr.defers⟩
  refine ⟨by simp, ca, rfl, r2, ?_⟩
  simp only [D, Array.toList_append, Array.toList_map]
  exact AV.rels_append r1 (rels_map (fun x => eval_rel hr.tmps x) _)

/-- What recover tells, and how the frame goes then from which this call was put off. -/
def arecover : Option AMode → AV × Option AMode
  | some (.pan ((v, false) :: older)) => (v, some (.pan ((v, true) :: older)))
  | cm => (.nilIface, cm)

theorem ops_recover {i : Nat} {rest : List Nat} {o : Oper} (hrd0 : rd = false) (ho : ops[i]? = some o) (hw : awanted ops s.tmps o = some true) {ts : Array TypeId}
    (hop : o.op = .call { callee := .builtin .recover, args := #[], argTypes := ts })
    (h : ExecI P f rd (.inRegion ops rest) { s with tmps := aput s.tmps o.dst (arecover s.cm).1, cm := (arecover s.cm).2 } Q) : ExecI P f rd (.inRegion ops (i :: rest)) s Q := by
  intro E ρ Z w a b k cs hr hf hrd
  have hro : b.roundOf = none := by
    cases hb : b.roundOf with
    | none => rfl
    | some _ => rw [hb] at hrd; simp [hrd0] at hrd
  have hw' := wanted_sound hr.tmps hw
  have hg := stepGR_op (P := P) (b := b) (k := k) (cs := cs) (w := w) (rest := rest) ho hw'
  rw [Oper.semAt_eq _ _ _ (by intro c e; rw [hop] at e; cases e)] at hg
  have hrun : (execOp a.eval o).run P w = .ok .recover w := by
    simp only [execOp, hop, resolve, pure_bind, invoke, builtin]
    rfl
  -- what the model's own search tells
  have key : ∃ (cv : Value × Bool) (cs' : List Frame), tryRecover (b.atR a (.inRegion ops (i :: rest) :: k)) cs = (if cv.2 then some (cv.1, cs') else none) ∧ (cv.2 = false → cv.1 = .nilIface ∧ cs' = cs) ∧ (arecover s.cm).1.rel ρ Z cv.1 ∧
      CRel ρ Z b cs' (arecover s.cm).2 ∧ CStep cs cs' s.cm := by
    have hc := hr.caller
    cases hcm : s.cm with
    | none =>
      rw [hcm] at hc
      have hk : b.kind = .normal := hc
      exact ⟨(.nilIface, false), cs, by simp [tryRecover, Frame.atR, hk], fun _ => ⟨rfl, rfl⟩, by simp [arecover, AV.rel], hk, rfl⟩
    | some m =>
      rw [hcm] at hc
      have hc0 := hc
      obtain ⟨hk, _, c, rst, rfl, hm⟩ := hc
      have no : ∀ mode, c.mode = mode → (∀ v older, mode ≠ .panicking ({ v, recovered := false, goexit := false } :: older)) → tryRecover (b.atR a (.inRegion ops (i :: rest) :: k)) (c :: rst) = none := by
        intro mode hmode hno
        simp only [tryRecover, Frame.atR, hk]
        split
        · rename_i v older heq
          exact absurd (hmode ▸ heq) (hno v older)
        · rfl
      cases m with
      | ret =>
        have hm' : c.mode = .returning := hm
        exact ⟨(.nilIface, false), c :: rst, by rw [no _ hm' (by simp)]; simp, fun _ => ⟨rfl, rfl⟩, by simp [arecover, AV.rel], hc0, ⟨c, rst, c.mode, rfl, rfl⟩⟩
      | pan ch =>
        obtain ⟨chain, hmc, hch⟩ := hm
        cases ch with
        | nil =>
          have : chain = [] := hch
          subst this
          exact ⟨(.nilIface, false), c :: rst, by rw [no _ hmc (by simp)]; simp, fun _ => ⟨rfl, rfl⟩, by simp [arecover, AV.rel], hc0, ⟨c, rst, c.mode, rfl, rfl⟩⟩
        | cons p older =>
          obtain ⟨v, rc⟩ := p
          obtain ⟨e, l', rfl, h1, h2, h3, h4⟩ := hch
          cases rc with
          | true =>
            refine ⟨(.nilIface, false), c :: rst, ?_, fun _ => ⟨rfl, rfl⟩, by simp [arecover, AV.rel], hc0, ⟨c, rst, c.mode, rfl, rfl⟩⟩
            rw [no _ hmc (by intro v older e0; injection e0 with e0; injection e0 with e1 e2; rw [e1] at h2; simp at h2)]
            simp
          | false =>
            refine ⟨(e.v, true), { c with mode := .panicking ({ v := e.v, recovered := true } :: l') } :: rst, ?_, by simp, ?_, ?_, ⟨c, rst, _, rfl, rfl⟩⟩
            · simp only [tryRecover, Frame.atR, hk, hmc]
              obtain ⟨ev, er, eg⟩ := e
              simp at h2 h3
              subst h2; subst h3
              rfl
            · simpa [arecover] using h1
            · exact ⟨hk, hro, _, rst, rfl, _, rfl, _, l', rfl, h1, rfl, rfl, h4⟩
  obtain ⟨⟨cv, found⟩, cs', k1, k2, k3, k4, k5⟩ := key
  have hs : step P (lone (b.atR a (.inRegion ops (i :: rest) :: k)) cs w) = .next (lone (b.atR (a.put o.dst cv) (.inRegion ops rest :: k)) cs' w) := by
    refine step_lone_go ?_
    rw [hg, ← finish_put ho]
    have hro' : (b.atR a (.inRegion ops (i :: rest) :: k)).roundOf = none := hro
    cases found with
    | true =>
      simp only [if_true] at k1
      simp [stepG.apply, hrun, hro', k1]
    | false =>
      obtain ⟨e1, e2⟩ := k2 rfl
      simp only at e1 e2
      subst e1; subst e2
      simp only [Bool.false_eq_true, if_false] at k1
      simp [stepG.apply, hrun, hro', k1]
  have hfr : FRel E ρ Z { s with tmps := aput s.tmps o.dst (arecover s.cm).1, cm := (arecover s.cm).2 } b cs' (a.put o.dst cv) w :=
    ⟨hr.st, put_rel hr.tmps k3, by rw [put_defers]; exact hr.defers, k4⟩
  obtain ⟨e, s2, ρ2, Z2, w2, a2, cs2, q1, q2, q3, q4, q5, q6, q7⟩ := h E ρ Z w (a.put o.dst cv) b k cs' hfr hf hrd
  have hsome : (arecover s.cm).2.isSome = s.cm.isSome := by
    unfold arecover
    split <;> simp_all
  exact ⟨e, s2, ρ2, Z2, w2, a2, cs2, q1, q2, q3, q4.trans hsome, q5, k5.trans q6 hsome, q7.of_steps (.one hs)⟩
end rules
end Go.Am

/- Functions: what a call comes to, by its body; what was put off. -/
namespace Go.Am
open Go.RowKit

variable {σ : Type} [Hp σ]

section defs
variable (P : Program)

def ares1 (H : Heap) (tmps : List AV) : ResultVar → Option AV
  | .tmp t => some (tmps.getD t .junk)
  | .cell a t => match cellsAt H (tmps.getD a .junk) with
    | some cs => aload P t cs
    | none => none
def aresL (H : Heap) (tmps : List AV) : List ResultVar → Option (List AV)
  | [] => some []
  | r :: rs => match ares1 P H tmps r, aresL H tmps rs with
    | some v, some vs => some (v :: vs)
    | _, _ => none
/-- What a function hands back. -/
def ares (H : Heap) (fn : Func) (tmps : List AV) : Option AV :=
  match aresL P H tmps fn.results.toList with
  | some [v] => some v
  | some vs => some (.tuple vs)
  | none => none
end defs

def asettle : AMode → AMode
  | .pan ((_, true) :: _) => .ret
  | m => m
def araise (m : AMode) (ch : ACh) : AMode :=
  match m with
  | .pan old => .pan (ch ++ old)
  | .ret => .pan ch

/-- A call that was put off, made by a frame that goes so. -/
def ACallD (P : Program) (g : FuncId) (args : List AV) (st : St σ) (m : AMode) (Q : AEnd → AMode → St σ → Prop) : Prop :=
  ∀ E ρ Z w (cargs : Array Value) (u : FrameMode), SR E ρ Z st w → AV.rels ρ Z args cargs.toList → m.rel ρ Z u →
    CallsD P g cargs u w fun e u' w' => ∃ ae m' st' ρ' Z', Q ae m' st' ∧ Ext ρ Z ρ' Z' ∧ st.nx ≤ st'.nx ∧ SR E ρ' Z' st' w' ∧ ae.rel ρ' Z' e ∧ m'.rel ρ' Z' u'

/-- A frame is left: what was put off is done. -/
def Unw (P : Program) (fn : Func) (tmps : List AV) (Q : AEnd → St σ → Prop) : List ADef → AMode → St σ → Prop
  | [], .ret, st => ∃ v, ares P (Hp.get st.H) fn tmps = some v ∧ Q (.ret v) st
  | [], .pan ch, st => Q (.pan ch) st
  | .mark b :: ds, m, st => Hp.get st.H b = some (.deferred true) ∧ Unw P fn tmps Q ds m ⟨Hp.put st.H b (some (.deferred false)), st.nx⟩
  | .call f cap xs :: ds, m, st => ∃ g fn2 c, f = .func g ∧ Has P g fn2 c ∧ ACallD P g (xs ++ cap) st m fun e m' st' => match e with
      | .ret _ => Unw P fn tmps Q ds (asettle m') st'
      | .pan ch => Unw P fn tmps Q ds (araise m' ch) st'

section rules
variable {P : Program} {E : Env} {ρ : Names} {Z : Frozen} {w : World}

/-- One result's reading. -/
def resF (ct : Array Value) : ResultVar → Sem Value
  | .tmp t => pure (ct.getD t undef)
  | .cell a t => do loadVar t (← asAddr (ct.getD a undef))

theorem results_eq (fn : Func) (ct : Array Value) : results fn ct = (do
    let vs ← fn.results.mapM (resF ct)
    pure (if h : vs.size = 1 then vs[0] else .tuple vs)) := by
  unfold results
  have : ∀ (g h : ResultVar → Sem Value), (∀ r, g r = h r) → (do
      let vs ← fn.results.mapM g
      pure (if h : vs.size = 1 then vs[0] else .tuple vs) : Sem Value) = (do
      let vs ← fn.results.mapM h
      pure (if h : vs.size = 1 then vs[0] else .tuple vs)) := by
    intro g h e
    rw [show g = h from funext e]
  exact this _ _ fun r => by cases r <;> rfl

theorem resL_sound {H : Heap} {nx : Nat} (hh : SRel E ρ Z H nx w) {tmps : List AV} {ct : Array Value} (ht : AV.rels ρ Z tmps ct.toList) : ∀ {rs : List ResultVar} {vs : List AV}, aresL P H tmps rs = some vs →
    ∃ cvs : List Value, (rs.mapM (resF ct)).run P w = .ok cvs w ∧ AV.rels ρ Z vs cvs
  | [], vs, h => by simp only [aresL] at h; cases h; exact ⟨[], rfl, AV.rels_nil⟩
  | r :: rs, vs, h => by
    simp only [aresL] at h
    split at h <;> try (cases h; done)
    rename_i v vs' hv hvs
    cases h
    obtain ⟨cvs, g1, g2⟩ := resL_sound hh ht hvs
    have getD_rel : ∀ t, (tmps.getD t .junk).rel ρ Z (ct.getD t undef) := fun t => eval_rel (a := ⟨ct, []⟩) ht (.tmp t)
    cases r with
    | tmp t =>
      simp only [ares1] at hv; cases hv
      refine ⟨ct.getD t undef :: cvs, ?_, AV.rels_cons (getD_rel t) g2⟩
      simp only [List.mapM_cons, Sem.run_bind, resF, Sem.run_pure, Result.andThen_ok, g1]
    | cell a t =>
      simp only [ares1] at hv
      split at hv <;> try (cases hv; done)
      rename_i cs hcs
      obtain ⟨b, o, arr, el, fr, hp, hb, hr⟩ := cellsAt_sound (σ := Heap) (s := ⟨H, nx⟩) hh (getD_rel a) hcs
      obtain ⟨cv, h1, h2⟩ := loadVar_sound (P := P) hb hr hv
      refine ⟨cv :: cvs, ?_, AV.rels_cons h2 g2⟩
      simp only [List.mapM_cons, Sem.run_bind, resF, hp, asAddr, Sem.run_pure, Result.andThen_ok, h1, g1]

theorem res_sound {st : St σ} (hh : SR E ρ Z st w) {tmps : List AV} {ct : Array Value} (ht : AV.rels ρ Z tmps ct.toList) {fn : Func} {v : AV} (h : ares P (Hp.get st.H) fn tmps = some v) :
    ∃ cv, (results fn ct).run P w = .ok cv w ∧ v.rel ρ Z cv := by
  unfold ares at h
  have key : ∀ vs, aresL P (Hp.get st.H) tmps fn.results.toList = some vs → ∃ cvs : Array Value, (results fn ct).run P w = .ok (if h : cvs.size = 1 then cvs[0] else .tuple cvs) w ∧ AV.rels ρ Z vs cvs.toList := by
    intro vs hvs
    obtain ⟨cvs, g1, g2⟩ := resL_sound (P := P) hh ht hvs
    refine ⟨cvs.toArray, ?_, by simpa using g2⟩
    rw [results_eq, Sem.run_bind, Array.mapM_eq_mapM_toList, Sem.run_map, g1]
    rfl
  split at h
  · rename_i v' hv
    cases h
    obtain ⟨cvs, g1, g2⟩ := key _ hv
    have hl := AV.rels_length g2
    simp at hl
    rw [dif_pos hl] at g1
    obtain ⟨u, hu, hr⟩ := AV.rels_getElem? 0 g2 (x := v) (by simp)
    refine ⟨_, g1, ?_⟩
    have : cvs[0]? = some u := by simpa using hu
    rw [Array.getElem?_eq_getElem (by omega)] at this
    simp at this
    rw [this]; exact hr
  · rename_i vs hne hvs
    cases h
    obtain ⟨cvs, g1, g2⟩ := key _ hvs
    have hl := AV.rels_length g2
    simp at hl
    rw [dif_neg (by
      intro e
      rw [e] at hl
      match vs, hl, hne with
      | [v], _, hne => exact hne v rfl)] at g1
    exact ⟨_, g1, by simp only [AV.rel]; exact ⟨_, rfl, g2⟩⟩
  · cases h

theorem settle_rel {m : AMode} {u : FrameMode} (h : m.rel ρ Z u) : (asettle m).rel ρ Z (settle u) := by
  cases m with
  | ret => simp only [AMode.rel] at h; subst h; simp [asettle, AMode.rel, settle]
  | pan ch =>
    obtain ⟨chain, rfl, hc⟩ := h
    cases ch with
    | nil =>
      have : chain = [] := hc
      subst this
      exact ⟨[], rfl, rfl⟩
    | cons p older =>
      obtain ⟨v, r⟩ := p
      obtain ⟨e, l', rfl, h1, h2, h3, h4⟩ := hc
      cases r with
      | true =>
        have hd : ∀ {o : ACh} {l : List PanicEntry}, chrels ρ Z o l → l.dropWhile (!·.goexit) = [] := by
          intro o
          induction o with
          | nil => intro l h; have : l = [] := h; subst this; rfl
          | cons q o ih =>
            intro l h
            obtain ⟨v, r⟩ := q
            obtain ⟨e, l', rfl, _, _, h3, h4⟩ := h
            simp [List.dropWhile, h3, ih h4]
        obtain ⟨ev, er, eg⟩ := e
        simp at h2
        subst h2
        simp only [asettle, AMode.rel, settle, hd h4]
      | false =>
        obtain ⟨ev, er, eg⟩ := e
        simp at h2
        subst h2
        simp only [asettle, settle]
        exact ⟨_, rfl, _, l', rfl, h1, rfl, h3, h4⟩

theorem chrels_append : ∀ {a b : ACh} {l m : List PanicEntry}, chrels ρ Z a l → chrels ρ Z b m → chrels ρ Z (a ++ b) (l ++ m)
  | [], b, l, m, h, k => by have : l = [] := h; subst this; exact k
  | (v, r) :: a, b, l, m, h, k => by
    obtain ⟨e, l', rfl, h1, h2, h3, h4⟩ := h
    exact ⟨e, l' ++ m, rfl, h1, h2, h3, chrels_append h4 k⟩

theorem raised_rel {m : AMode} {u : FrameMode} {ch : ACh} {chain : List PanicEntry} (h : m.rel ρ Z u) (k : chrels ρ Z ch chain) : (araise m ch).rel ρ Z (raised u chain) := by
  cases m with
  | ret => simp only [AMode.rel] at h; subst h; exact ⟨chain, rfl, k⟩
  | pan old =>
    obtain ⟨o, rfl, ho⟩ := h
    exact ⟨_, rfl, chrels_append k ho⟩

theorem mode_run {m : AMode} {u : FrameMode} (h : m.rel ρ Z u) : u ≠ .run := by
  cases m with
  | ret => simp only [AMode.rel] at h; subst h; simp
  | pan old => obtain ⟨o, rfl, ho⟩ := h; simp

theorem step_mark {fr : Frame} {cs : List Frame} {w w' : World} {d : Deferred} {r : Nat} {ds calls : List Deferred}
    (hm : fr.mode ≠ .run) (hd : fr.defers = d :: ds) (ht : d.target = .collected r) (hk : (Instr.takeDeferred r).run P w = .ok calls w') :
    step P (lone fr cs w) = .next (lone { fr with defers := calls ++ ds } cs w') := by
  obtain ⟨t, a⟩ := d
  simp only at ht
  subst ht
  refine step_lone_go ?_
  cases hmode : fr.mode with
  | run => exact absurd hmode hm
  | returning => simp [stepG, unwind, hmode, hd, Sem.runT_eq, hk, GStep.bare_after]
  | panicking chain => simp [stepG, unwind, hmode, hd, Sem.runT_eq, hk, GStep.bare_after]

/-- An object of the model's is set, where an abstract block of another kind than cells lies. -/
theorem setObj_sound {st : St σ} (hh : SR E ρ Z st w) {b : Nat} {k k' : ABlk} (hb : Hp.get st.H b = some k) {p : Pl} (hp : ρ b = some p) {o' : Obj} (hk : k'.rel ρ Z p o') (hnc : ∀ o, k.rel ρ Z p o → ∀ c e f, o ≠ .cells c e f) :
    ∃ w', (setObj p.block o').run P w = .ok () w' ∧ SR E ρ Z (⟨Hp.put st.H b (some k'), st.nx⟩ : St σ) w' := by
  obtain ⟨q, ob, k1, k2, k3, k4, k5⟩ := hh.live _ _ hb
  rw [hp] at k1; cases k1
  have hno := hnc _ k3
  refine ⟨{ w with heap := w.heap.setIfInBounds p.block o' }, ?_, ?_⟩
  · cases ob <;> first | exact absurd rfl (hno _ _ _) | simp [setObj, Sem.run, k2]
  · show SRel E ρ Z (Hp.get (Hp.put st.H b _)) st.nx _
    rw [Hp.get_put]
    exact hh.setBlk hb hp (o' := o') (fun c => setIfInBounds_get _ _ _ (heap_lt k2) c) ⟨rfl, rfl, rfl, by simp, fun k hk => by omega⟩ hk

/-- A frame that is left goes through all that it put off. -/
theorem unw_steps {fn : Func} {tmps : List AV} {Q : AEnd → St σ → Prop} : ∀ (ds : List ADef) (m : AMode) (st : St σ) (ρ : Names) (Z : Frozen) (w : World) (fr : Frame) (cs : List Frame), m.rel ρ Z fr.mode → drels ρ Z ds fr.defers →
    AV.rels ρ Z tmps fr.tmps.toList → P.funcs[fr.fn]? = some fn → SR E ρ Z st w → Unw P fn tmps Q ds m st →
    ∃ ae st' ρ' Z' w' fr' e, Q ae st' ∧ Ext ρ Z ρ' Z' ∧ st.nx ≤ st'.nx ∧ SR E ρ' Z' st' w' ∧ Comes P (lone fr cs w) (lone fr' cs w') e ∧ fr'.fn = fr.fn ∧ fr'.kind = fr.kind ∧ ae.rel ρ' Z' e ∧ fr'.going P w' e ∧ e ≠ .outgrown
  | [], .ret, st, ρ, Z, w, fr, cs, hm, hd, ht, hf, hst, h => by
    obtain ⟨v, hv, hQ⟩ := h
    obtain ⟨cv, h1, h2⟩ := res_sound (P := P) hst ht hv
    exact ⟨.ret v, st, ρ, Z, w, fr, .returned cv, hQ, Ext.refl _ _, Nat.le_refl _, hst, Steps.refl _ _, rfl, rfl, ⟨cv, rfl, h2⟩, ⟨hm, hd, fn, hf, h1⟩, by simp⟩
  | [], .pan ch, st, ρ, Z, w, fr, cs, hm, hd, ht, hf, hst, h => by
    obtain ⟨chain, hmode, hch⟩ := hm
    exact ⟨.pan ch, st, ρ, Z, w, fr, .panicked chain, h, Ext.refl _ _, Nat.le_refl _, hst, Steps.refl _ _, rfl, rfl, ⟨chain, rfl, hch⟩, ⟨hmode, hd, fn, hf⟩, by simp⟩
  | .mark b :: ds, m, st, ρ, Z, w, fr, cs, hm, hd, ht, hf, hst, h => by
    obtain ⟨hb, h⟩ := h
    obtain ⟨d, l', hdd, ⟨p, hp, htar⟩, hds⟩ := hd
    obtain ⟨q, ob, k1, k2, k3, _⟩ := hst.live _ _ hb
    rw [hp] at k1; cases k1
    have k3' : ob = .deferred (some []) := k3
    subst k3'
    obtain ⟨w1, g1, g2⟩ := setObj_sound (P := P) (k' := .deferred false) hst hb hp (o' := .deferred none) rfl (by intro o ho; cases ho; simp)
    have htake : (Instr.takeDeferred p.block).run P w = .ok [] w1 := by
      have hget : (getObj p.block).run P w = .ok (.deferred (some [])) w := by simp [getObj, Sem.run, k2]
      simp [Instr.takeDeferred, hget, g1]
    have hs := step_mark (P := P) (cs := cs) (mode_run hm) hdd htar htake
    obtain ⟨ae, st', ρ', Z', w', fr', e, q1, q2, q3, q4, q5, q6, q7, q8, q9, q10⟩ := unw_steps ds m _ ρ Z w1 { fr with defers := [] ++ l' } cs hm hds ht hf g2 h
    exact ⟨ae, st', ρ', Z', w', fr', e, q1, q2, q3, q4, Comes.of_steps (.one hs) q5, q6, q7, q8, q9, q10⟩
  | .call f cap xs :: ds, m, st, ρ, Z, w, fr, cs, hm, hd, ht, hf, hst, h => by
    obtain ⟨g, fn2, c, rfl, hfn, hcall⟩ := h
    obtain ⟨d, l', hdd, ⟨_, ca, htar, hcap, hxs⟩, hds⟩ := hd
    have hinv : (invoke d.target d.args).run P w = .ok (.enter g (d.args ++ ca)) w := by
      rw [htar]
      exact run_callFunc hfn _ _
    have h1 := step_defer (P := P) (cs := cs) (mode_run hm) hdd htar hinv
    obtain ⟨e, u', w1, frX, ⟨ae, m1, st1, ρ1, Z1, hq, hx, hnx, hst1, he, hm1⟩, hsteps, hkX, hgo⟩ := hcall E ρ Z w (d.args ++ ca) fr.mode hst (by simpa using AV.rels_append hxs hcap) hm { fr with defers := l' } cs rfl
    cases ae with
    | ret v =>
      obtain ⟨cv, rfl, hv⟩ := he
      have h2 := step_going_returned (c := { { fr with defers := l' } with mode := u' }) (cs := cs) hkX hgo
      obtain ⟨ae, st', ρ', Z', w', fr', e, q1, q2, q3, q4, q5, q6, q7, q8, q9, q10⟩ := unw_steps ds (asettle m1) st1 ρ1 Z1 w1 { { { fr with defers := l' } with mode := u' } with mode := settle u' } cs (settle_rel hm1) (drels_mono hx hds) (AV.rels_mono hx _ _ ht) hf hst1 hq
      exact ⟨ae, st', ρ', Z', w', fr', e, q1, hx.trans q2, Nat.le_trans hnx q3, q4, Comes.of_steps (.head h1 (Steps.trans hsteps (.one h2))) q5, q6, q7, q8, q9, q10⟩
    | pan ch =>
      obtain ⟨chain, rfl, hch⟩ := he
      have h2 := step_going_panicked (c := { { fr with defers := l' } with mode := u' }) (cs := cs) hgo
      obtain ⟨ae, st', ρ', Z', w', fr', e, q1, q2, q3, q4, q5, q6, q7, q8, q9, q10⟩ := unw_steps ds (araise m1 ch) st1 ρ1 Z1 w1 { { { fr with defers := l' } with mode := u' } with mode := raised u' chain } cs (raised_rel hm1 hch) (drels_mono hx hds) (AV.rels_mono hx _ _ ht) hf hst1 hq
      exact ⟨ae, st', ρ', Z', w', fr', e, q1, hx.trans q2, Nat.le_trans hnx q3, q4, Comes.of_steps (.head h1 (Steps.trans hsteps (.one h2))) q5, q6, q7, q8, q9, q10⟩

/-- The temporaries at a function's begin. -/
def atmps (fn : Func) (args : List AV) : List AV := args ++ List.replicate (fn.ntmps - args.length) undefA

theorem atmps_rel {fn : Func} {args : List AV} {cargs : Array Value} (h : AV.rels ρ Z args cargs.toList) : AV.rels ρ Z (atmps fn args) (cargs ++ Array.replicate (fn.ntmps - cargs.size) undef).toList := by
  have hl := AV.rels_length h
  simp at hl
  simp only [atmps, Array.toList_append, Array.toList_replicate, hl]
  exact AV.rels_append h (AV.rels_replicate undef_rel _)

/-- What a body comes to, what was put off done. -/
def bodyEnd (P : Program) (fn : Func) (Q : AEnd → Option AMode → St σ → Prop) : AExit → FS σ → Prop
  | .normal, s | .ret, s => Unw P fn s.tmps (fun e st => Q e s.cm st) s.defers .ret s.st
  | .panic ch, s => Unw P fn s.tmps (fun e st => Q e s.cm st) s.defers (.pan ch) s.st
  | _, _ => False

/-- A frame that has come to its body's end is left. -/
theorem body_steps {fn : Func} {Q : AEnd → Option AMode → St σ → Prop} {b : Frame} {cs : List Frame} {m : Machine} {nx : Nat} {cm : Option AMode} (hf : P.funcs[b.fn]? = some fn) (hro : b.roundOf = none)
    (g : Goes P E ρ Z nx cm b [] cs m (bodyEnd P fn Q)) :
    ∃ ae cm' st' ρ' Z' w' fr' e cs', Q ae cm' st' ∧ Ext ρ Z ρ' Z' ∧ nx ≤ st'.nx ∧ SR E ρ' Z' st' w' ∧ Comes P m (lone fr' cs' w') e ∧ fr'.fn = b.fn ∧ fr'.kind = b.kind ∧ ae.rel ρ' Z' e ∧ fr'.going P w' e ∧ e ≠ .outgrown ∧
      CRel ρ' Z' b cs' cm' ∧ CStep cs cs' cm ∧ cm'.isSome = cm.isSome := by
  obtain ⟨e, s, ρ1, Z1, w1, a, cs', hq, hx, hnx, hcm, hr, hcs, harr⟩ := g
  have fin : ∀ (fr : Frame) (mode : AMode), Steps P m (lone fr cs' w1) → mode.rel ρ1 Z1 fr.mode → fr.defers = a.defers → fr.tmps = a.tmps → fr.fn = b.fn → fr.kind = b.kind → Unw P fn s.tmps (fun e st => Q e s.cm st) s.defers mode s.st →
      ∃ ae cm' st' ρ' Z' w' fr' e cs', Q ae cm' st' ∧ Ext ρ Z ρ' Z' ∧ nx ≤ st'.nx ∧ SR E ρ' Z' st' w' ∧ Comes P m (lone fr' cs' w') e ∧ fr'.fn = b.fn ∧ fr'.kind = b.kind ∧ ae.rel ρ' Z' e ∧ fr'.going P w' e ∧ e ≠ .outgrown ∧
      CRel ρ' Z' b cs' cm' ∧ CStep cs cs' cm ∧ cm'.isSome = cm.isSome := by
    intro fr mode hs hm hd ht hfn hk hu
    obtain ⟨ae, st', ρ', Z', w', fr', e, q1, q2, q3, q4, q5, q6, q7, q8, q9, q10⟩ := unw_steps (P := P) s.defers mode s.st ρ1 Z1 w1 fr cs' hm (by rw [hd]; exact hr.defers) (by rw [ht]; exact hr.tmps) (by rw [hfn]; exact hf) hr.st hu
    exact ⟨ae, s.cm, st', ρ', Z', w', fr', e, cs', q1, hx.trans q2, Nat.le_trans hnx q3, q4, Comes.of_steps hs q5, by rw [q6, hfn], by rw [q7, hk], q8, q9, q10, hr.caller.mono q2, hcs, hcm⟩
  cases e with
  | normal => exact fin { b.atR a [] with mode := .returning } .ret (Steps.trans harr (.one (stepR_end hro))) rfl rfl rfl rfl rfl hq
  | ret =>
    obtain ⟨k0, hs⟩ := harr
    exact fin { b.atR a (.code .ret :: k0) with mode := .returning } .ret (Steps.trans hs (.one (stepR_ret hro))) rfl rfl rfl rfl rfl hq
  | panic ch =>
    obtain ⟨todo, chain, hch, hs⟩ := harr
    exact fin { b.atR a todo with mode := .panicking chain } (.pan ch) hs ⟨chain, rfl, hch⟩ rfl rfl rfl rfl hq
  | exit id => exact hq.elim
  | goto l => exact hq.elim

/-- A call, by the body of the function. -/
theorem acall_of_exec {g : FuncId} {fn : Func} {c : Code} (hfn : Has P g fn c) {args : List AV} {st : St σ} {Q : AEnd → St σ → Prop}
    (h : Exec P g false c ⟨atmps fn args, [], none, st⟩ (bodyEnd P fn fun e _ st => Q e st)) : ACall P g args st Q := by
  intro E ρ Z w cargs hst ha cs
  let b : Frame := { (default : Frame) with fn := g, kind := .normal, roundOf := none }
  have henter : Frame.enter P g cargs .normal = b.atR { tmps := cargs ++ Array.replicate (fn.ntmps - cargs.size) undef, defers := [] } [.code c] := by
    simp [Frame.enter, Frame.atR, hfn.at_, hfn.body, b]
  have hg := h E ρ Z w { tmps := cargs ++ Array.replicate (fn.ntmps - cargs.size) undef, defers := [] } b [] cs ⟨hst, atmps_rel ha, rfl, rfl⟩ rfl rfl
  rw [← henter] at hg
  obtain ⟨ae, cm', st', ρ', Z', w', fr', e, cs', q1, q2, q3, q4, q5, q6, q7, q8, q9, q10, q11, q12, q13⟩ := body_steps hfn.at_ rfl hg
  have hcs : cs' = cs := q12
  subst hcs
  refine ⟨e, w', fr', ⟨ae, st', ρ', Z', q1, q2, q3, q4, q8⟩, q5, q6, ?_⟩
  cases e with
  | returned v => exact ⟨q9.1, q9.2.1, q7, q9.2.2⟩
  | panicked chain => exact q9
  | outgrown => exact absurd rfl q10

/-- A call that was put off, by the body of the function. -/
theorem acallD_of_exec {g : FuncId} {fn : Func} {c : Code} (hfn : Has P g fn c) {args : List AV} {st : St σ} {m : AMode} {Q : AEnd → AMode → St σ → Prop}
    (h : Exec P g false c ⟨atmps fn args, [], some m, st⟩ (bodyEnd P fn fun e cm st => ∃ m', cm = some m' ∧ Q e m' st)) : ACallD P g args st m Q := by
  intro E ρ Z w cargs u hst ha hm c0 cs hu
  let b : Frame := { (default : Frame) with fn := g, kind := .deferred, roundOf := none }
  have henter : Frame.enter P g cargs .deferred = b.atR { tmps := cargs ++ Array.replicate (fn.ntmps - cargs.size) undef, defers := [] } [.code c] := by
    simp [Frame.enter, Frame.atR, hfn.at_, hfn.body, b]
  have hg := h E ρ Z w { tmps := cargs ++ Array.replicate (fn.ntmps - cargs.size) undef, defers := [] } b [] (c0 :: cs) ⟨hst, atmps_rel ha, rfl, rfl, rfl, c0, cs, rfl, by rw [hu]; exact hm⟩ rfl rfl
  rw [← henter] at hg
  obtain ⟨ae, cm', st', ρ', Z', w', fr', e, cs', ⟨m', rfl, q1⟩, q2, q3, q4, q5, q6, q7, q8, q9, q10, q11, q12, q13⟩ := body_steps hfn.at_ rfl hg
  obtain ⟨c1, rest, mode, h1, rfl⟩ := q12
  cases h1
  obtain ⟨_, _, c2, rest2, h2, hm2⟩ := q11
  cases h2
  exact ⟨e, mode, w', fr', ⟨ae, m', st', ρ', Z', q1, q2, q3, q4, q8, hm2⟩, q5, q7, q9⟩
end rules
end Go.Am
