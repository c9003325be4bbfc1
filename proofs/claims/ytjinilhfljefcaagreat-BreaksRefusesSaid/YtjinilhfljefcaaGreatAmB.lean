/- Proved here: regions whose order is drawn; loops over functions. No conditions. -/
import Derived.Test.YtjinilhfljefcaaGreatAmA
import Derived.Orders
import Derived.RangeFuncIn
set_option linter.unusedSimpArgs false
set_option linter.unusedVariables false
set_option linter.unusedSectionVars false
/- Operations that change nothing; what an operation looks at. -/
namespace Go.Am
open Go.RowKit

variable {σ : Type} [Hp σ]

section
variable (P : Program)
/-- A built-in function that changes nothing. -/
def aqbuiltin (b : Builtin) (ts : List TypeId) (xs : List AV) (H : Heap) : Option AV :=
  match b, ts, xs with
  | .len, t :: _, [x] => alen P H t x
  | .max, _, xs => amax xs
  | .min, _, xs => amin xs
  | _, _, _ => none

/-- What an operation tells that changes nothing. -/
def aq (ev : Operand → AV) (o : Oper) (H : Heap) : Option AV :=
  match o.op with
  | .move x | .assign x => some (ev x)
  | .pick c a b => match ev c with
    | .bool true => some (ev a)
    | .bool false => some (ev b)
    | _ => none
  | .build t parts => abuild P t (parts.toList.map fun p => (p.1, ev p.2))
  | .load t a => match cellsAt H (ev a) with
    | some cs => aload P t cs
    | none => none
  | .nilCheck x => if (ev x).noNil then some (ev x) else none
  | .binOp op t x y _ => abin P op t (isK x) (isK y) (ev x) (ev y)
  | .unOp op _ x => aun op (ev x)
  | .convert src dst x => aconv P src dst (ev x)
  | .makeInterface t x => amkIface P t (ev x)
  | .makeFunc fn first captured => match fn with
    | .yield _ => none
    | fn => some (.func fn (first.toList.map ev) (captured.toList.map ev))
  | .slice t x lo hi mx => aslice P H t (ev x) (lo.map ev) (hi.map ev) (mx.map ev)
  | .fieldAddr t x f => afieldAddr P t (ev x) f
  | .field t x f => afield P t (ev x) f
  | .indexAddr t x i => aindexAddr P t (ev x) (ev i)
  | .index t x i => aindex P t (ev x) (ev i)
  | .lookup t m k ok => alookup P H t (ev m) (ev k) ok
  | .typeAssert x _ t ok => aassert P (ev x) t ok
  | .extract x i => aextract (ev x) i
  | .call { callee := .builtin b, args, argTypes } => aqbuiltin P b argTypes.toList (args.toList.map ev) H
  | _ => none
end

section sound
variable {P : Program} {ρ : Names} {Z : Frozen} {w : World} {E : Env} {s s' : St σ}

/-- A piece of the model's code that tells a value and leaves the world. -/
def NTells (P : Program) (ρ : Names) (Z : Frozen) (m : Sem Next) (w : World) (v : AV) : Prop :=
  ∃ n cv, m.run P w = .ok n w ∧ nval n = some cv ∧ v.rel ρ Z cv

theorem NTells.ofTells {m : Sem Value} {v : AV} (h : Tells P ρ Z m w v) : NTells P ρ Z (do pure (.value (← m))) w v := by
  obtain ⟨cv, h1, h2⟩ := h
  exact ⟨.value cv, cv, by simp [h1], rfl, h2⟩

theorem qbuiltin_sound (hh : SR E ρ Z s w) {b : Builtin} {ts : Array TypeId} {ty : TypeId} {cs : Array Bool} {xs : List AV} {vs : Array Value} {v : AV} (r : AV.rels ρ Z xs vs.toList)
    (h : aqbuiltin P b ts.toList xs (Hp.get s.H) = some v) : NTells P ρ Z (builtin b ts ty cs vs) w v := by
  unfold aqbuiltin at h
  split at h
  · rename_i t ts' x hts
    simp only [AV.rels] at r
    obtain ⟨xv, l, hl, rx, rfl⟩ := r
    have hv : vs = #[xv] := Array.ext' hl
    subst hv
    have ht : ts[0]? = some t := by rw [← Array.getElem?_toList, hts]; rfl
    exact NTells.ofTells (len_sound hh ht rx h)
  · exact NTells.ofTells (max_sound r h)
  · exact NTells.ofTells (min_sound r h)
  · cases h

theorem q_sound (hh : SR E ρ Z s w) {ev : Operand → AV} {cv : Operand → Value} (he : ∀ x, (ev x).rel ρ Z (cv x)) {o : Oper} {v : AV} (h : aq P ev o (Hp.get s.H) = some v) :
    NTells P ρ Z (execOp cv o) w v := by
  unfold aq at h
  unfold execOp
  split at h
  · rename_i x ho; cases h; rw [ho]; exact ⟨.value (cv x), cv x, rfl, rfl, he x⟩
  · rename_i x ho; cases h; rw [ho]; exact ⟨.value (cv x), cv x, rfl, rfl, he x⟩
  · rename_i c a b ho
    rw [ho]
    have hc := he c
    split at h <;> try (cases h; done)
    · rename_i e; rw [e] at hc; simp only [AV.rel] at hc; cases h
      exact ⟨.value (cv a), cv a, by simp [hc, asBool], rfl, he a⟩
    · rename_i e; rw [e] at hc; simp only [AV.rel] at hc; cases h
      exact ⟨.value (cv b), cv b, by simp [hc, asBool], rfl, he b⟩
  · rename_i t parts ho
    rw [ho]
    refine NTells.ofTells (build_sound (ρ := ρ) (Z := Z) ?_ h)
    simpa using prels_map he parts.toList
  · rename_i t a ho
    rw [ho]
    split at h <;> try (cases h; done)
    rename_i cs hc
    exact NTells.ofTells (loadAt_sound hh (he a) hc h)
  · rename_i x ho
    rw [ho]
    split at h <;> try (cases h; done)
    rename_i hn
    cases h
    have hq := nilCheck_sound ho hn (he x)
    unfold execOp at hq
    rw [ho] at hq
    rw [hq]
    exact ⟨.value (cv x), cv x, rfl, rfl, he x⟩
  · rename_i op t x y ty ho
    rw [ho]
    exact NTells.ofTells (bin_sound (he x) (he y) h)
  · rename_i op t x ho
    rw [ho]
    exact NTells.ofTells (un_sound (he x) h)
  · rename_i src dst x ho
    rw [ho]
    exact NTells.ofTells (conv_sound (he x) h)
  · rename_i t x ho
    rw [ho]
    exact NTells.ofTells (mkIface_sound (he x) h)
  · rename_i fn first captured ho
    rw [ho]
    split at h <;> try (cases h; done)
    rename_i hy
    cases h
    refine ⟨_, _, rfl, rfl, ?_⟩
    simp only [AV.rel]
    exact ⟨fun l e => hy l e, _, _, rfl, by simpa using rels_map he first.toList, by simpa using rels_map he captured.toList⟩
  · rename_i t x lo hi mx ho
    rw [ho]
    exact NTells.ofTells (slice_sound hh (he x) (orel_map he lo) (orel_map he hi) (orel_map he mx) h)
  · rename_i t x f ho
    rw [ho]
    exact NTells.ofTells (fieldAddr_sound (he x) h)
  · rename_i t x f ho
    rw [ho]
    exact NTells.ofTells (field_sound (he x) h)
  · rename_i t x i ho
    rw [ho]
    exact NTells.ofTells (indexAddr_sound (he x) (he i) h)
  · rename_i t x i ho
    rw [ho]
    exact NTells.ofTells (index_sound (he x) (he i) h)
  · rename_i t m k ok ho
    rw [ho]
    exact NTells.ofTells (lookup_sound hh (he m) (he k) h)
  · rename_i x xt t ok ho
    rw [ho]
    exact NTells.ofTells (assert_sound (he x) h)
  · rename_i x i ho
    rw [ho]
    exact NTells.ofTells (extract_sound (he x) h)
  · rename_i b args ts ho
    rw [ho]
    have key : ∀ cs, NTells P ρ Z (builtin b ts o.type cs (args.map cv)) w v := fun cs => qbuiltin_sound (P := P) (E := E) hh (by simpa using rels_map he args.toList) h
    exact key _
  · cases h

theorem q_not_defer {ev : Operand → AV} {o : Oper} {H : Heap} {v : AV} (h : aq P ev o H = some v) : ∀ c, o.op ≠ .defer c := by
  intro c e
  simp [aq, e] at h
theorem op_not_defer {ev : Operand → AV} {o : Oper} {v : AV × St σ} (h : aop P ev o s = some v) : ∀ c, o.op ≠ .defer c := by
  intro c e
  simp [aop, e] at h
end sound

section congr
variable {P : Program}

theorem parts_congr {ev ev' : Operand → AV} {ps : List (Nat × Operand)} (h : ∀ x ∈ ps.map (·.2), ev x = ev' x) : ps.map (fun p => (p.1, ev p.2)) = ps.map fun p => (p.1, ev' p.2) := by
  apply List.map_congr_left
  intro p hp
  rw [h p.2 (List.mem_map_of_mem hp)]
theorem oparts_congr {ev ev' : Operand → AV} {o : Option Operand} (h : ∀ x ∈ o.toList, ev x = ev' x) : o.map ev = o.map ev' := by
  cases o with
  | none => rfl
  | some x => simp [h x (by simp)]

theorem aq_congr {ev ev' : Operand → AV} {o : Oper} {H : Heap} (h : ∀ x ∈ o.op.operands.toList, ev x = ev' x) : aq P ev o H = aq P ev' o H := by
  unfold aq
  cases ho : o.op with
  | build t ps =>
    rw [ho] at h
    simp only [Op.operands] at h
    simp only []
    rw [parts_congr (ev := ev) (ev' := ev') (by simpa using h)]
  | makeFunc fn a b =>
    rw [ho] at h
    simp only [Op.operands, Array.toList_append, List.mem_append] at h
    have h1 : a.toList.map ev = a.toList.map ev' := List.map_congr_left fun x hx => h x (Or.inl hx)
    have h2 : b.toList.map ev = b.toList.map ev' := List.map_congr_left fun x hx => h x (Or.inr hx)
    simp only [h1, h2]
  | slice t x lo hi mx =>
    rw [ho] at h
    simp only [Op.operands, Array.toList_append, List.mem_append] at h
    have h0 : ev x = ev' x := h x (by simp)
    have h1 : lo.map ev = lo.map ev' := oparts_congr fun y hy => h y (by simp at hy ⊢; simp [hy])
    have h2 : hi.map ev = hi.map ev' := oparts_congr fun y hy => h y (by simp at hy ⊢; simp [hy])
    have h3 : mx.map ev = mx.map ev' := oparts_congr fun y hy => h y (by simp at hy ⊢; simp [hy])
    simp only [h0, h1, h2, h3]
  | call c =>
    rw [ho] at h
    obtain ⟨callee, args, ts⟩ := c
    cases callee with
    | builtin b =>
      simp only [Op.operands, Call.operands, Array.toList_append, List.mem_append] at h
      have h1 : args.toList.map ev = args.toList.map ev' := List.map_congr_left fun x hx => h x (Or.inr hx)
      simp only [h1]
    | value f => rfl
    | invoke f m => rfl
  | _ =>
    first
      | rfl
      | (rw [ho] at h
         simp only [Op.operands, List.mem_cons, List.not_mem_nil, or_false, forall_eq_or_imp, forall_eq] at h
         simp only [h])

theorem aop_congr {ev ev' : Operand → AV} {o : Oper} {s : St σ} (h : ∀ x ∈ o.op.operands.toList, ev x = ev' x) : aop P ev o s = aop P ev' o s := by
  unfold aop
  cases ho : o.op with
  | build t ps =>
    rw [ho] at h
    simp only [Op.operands] at h
    simp only []
    rw [parts_congr (ev := ev) (ev' := ev') (by simpa using h)]
  | buildSlice t n ps =>
    rw [ho] at h
    simp only [Op.operands] at h
    simp only []
    rw [parts_congr (ev := ev) (ev' := ev') (by simpa using h)]
  | makeFunc fn a b =>
    rw [ho] at h
    simp only [Op.operands, Array.toList_append, List.mem_append] at h
    have h1 : a.toList.map ev = a.toList.map ev' := List.map_congr_left fun x hx => h x (Or.inl hx)
    have h2 : b.toList.map ev = b.toList.map ev' := List.map_congr_left fun x hx => h x (Or.inr hx)
    simp only [h1, h2]
  | slice t x lo hi mx =>
    rw [ho] at h
    simp only [Op.operands, Array.toList_append, List.mem_append] at h
    have h0 : ev x = ev' x := h x (by simp)
    have h1 : lo.map ev = lo.map ev' := oparts_congr fun y hy => h y (by simp at hy ⊢; simp [hy])
    have h2 : hi.map ev = hi.map ev' := oparts_congr fun y hy => h y (by simp at hy ⊢; simp [hy])
    have h3 : mx.map ev = mx.map ev' := oparts_congr fun y hy => h y (by simp at hy ⊢; simp [hy])
    simp only [h0, h1, h2, h3]
  | call c =>
    rw [ho] at h
    obtain ⟨callee, args, ts⟩ := c
    cases callee with
    | builtin b =>
      simp only [Op.operands, Call.operands, Array.toList_append, List.mem_append] at h
      have h1 : args.toList.map ev = args.toList.map ev' := List.map_congr_left fun x hx => h x (Or.inr hx)
      simp only [h1]
    | value f => rfl
    | invoke f m => rfl
  | makeMap t r => cases r <;> rfl
  | _ =>
    first
      | rfl
      | (rw [ho] at h
         simp only [Op.operands, List.mem_cons, List.not_mem_nil, or_false, forall_eq_or_imp, forall_eq] at h
         simp only [h])
end congr
section mk
variable (P : Program)
/-- What an operation makes that makes one block: the value, the block. -/
def amk (ev : Operand → AV) (o : Oper) (n : Nat) : Option (AV × ABlk) :=
  match o.op with
  | .alloc t => match zeroOf P t with
    | some z => if z.cells.all AV.one = true then some (.ptr n 0, .cells z.cells) else none
    | none => none
  | .box _ x => if (ev x).cells.all AV.one = true then some (.ptr n 0, .cells (ev x).cells) else none
  | .buildSlice t len parts => match P.underlying t with
    | some (.slice e) =>
      match szOf P e, zeroOf P e with
      | some sz, some z =>
        if len * sz ≤ 16777216 ∧ z.cells.length = sz ∧ z.cells.all AV.one = true then
          match afill (fun i => some (i * sz, sz)) (List.replicate len z.cells).flatten (parts.toList.map fun p => (p.1, ev p.2)) with
          | some c => some (.slice n 0 len len sz true, .cells c)
          | none => none
        else none
      | _, _ => none
    | _ => none
  | .makeMap _ none => some (.map n, .map [] 0)
  | .makeSlice t l c => match P.underlying t, ev l, ev c with
    | some (.slice e), .int _ l, .int _ c =>
      match P.info? e, zeroOf P e with
      | some i, some z =>
        if 0 ≤ l ∧ l ≤ c ∧ c ≤ 4611686018427387904 ∧ i.bytes * c ≤ 281474976710656 ∧ z.cells.length = i.size ∧ z.cells.all AV.one = true then
          some (.slice n 0 l.toNat c.toNat i.size true, .cells (List.replicate c.toNat z.cells).flatten)
        else none
      | _, _ => none
    | _, _, _ => none
  | _ => none
end mk

section mksound
variable {P : Program} {ρ : Names} {Z : Frozen} {w : World}

def Makes (P : Program) (ρ : Names) (Z : Frozen) (m : Sem Next) (w : World) (n : Nat) (v : AV) (B : ABlk) : Prop :=
  ∃ cv ob base top, m.run P w = .ok (.value cv) (w.alloc ob) ∧ B.rel (ρ.put n ⟨w.heap.size, base, top⟩) Z ⟨w.heap.size, base, top⟩ ob ∧ v.rel (ρ.put n ⟨w.heap.size, base, top⟩) Z cv

theorem run_newRow (elem : TypeId) (arr : Array Value) : (newRow elem arr).run P w = .ok ⟨w.heap.size, 0, none⟩ (w.alloc (.cells arr elem)) := by
  simp only [newRow, Sem.run_bind, run_newObj, Result.andThen_ok, Sem.run_pure]; rfl
theorem cells_blk {n : Nat} (hn : ρ n = none) {c : List AV} {arr : Array Value} (hc : AV.rels ρ Z c arr.toList) (elem : TypeId) :
    (ABlk.cells c).rel (ρ.put n ⟨w.heap.size, 0, arr.size⟩) Z ⟨w.heap.size, 0, arr.size⟩ (.cells arr elem) := by
  have hl := AV.rels_length hc
  refine ⟨arr, elem, (0, 0), rfl, rfl, by simp at hl ⊢; omega, ?_, fun x hx => by simp⟩
  have := AV.rels_mono (ext_put (Z := Z) hn ⟨w.heap.size, 0, arr.size⟩) _ _ hc
  rw [List.drop_zero, List.take_of_length_le (by simp at hl ⊢; omega)]
  exact this

theorem Names.put_self (ρ : Names) (n : Nat) (p : Pl) : (ρ.put n p) n = some p := by simp [Names.put]

theorem mk_sound {n : Nat} (hn : ρ n = none) {ev : Operand → AV} {cv : Operand → Value} (he : ∀ x, (ev x).rel ρ Z (cv x)) {o : Oper} {v : AV} {B : ABlk} (h : amk P ev o n = some (v, B)) :
    Makes P ρ Z (execOp cv o) w n v B := by
  unfold amk at h
  unfold execOp
  split at h
  · rename_i t ho
    rw [ho]
    split at h <;> try (cases h; done)
    rename_i z hz
    split at h <;> try (cases h; done)
    rename_i hone
    cases h
    obtain ⟨zv, h1, h2, _⟩ := run_zeroOf (ρ := ρ) (Z := Z) hz w
    have hr := AV.cells_rel h2 hone
    refine ⟨.pointer (some ⟨w.heap.size, 0, none⟩), .cells zv.cells t, 0, zv.cells.size, ?_, cells_blk hn hr t, ?_⟩
    · simp only [Instr.alloc, newVar, Sem.run_bind, h1, Result.andThen_ok, run_newRow, Sem.run_pure]
    · simp only [AV.rel]; exact ⟨_, Names.put_self _ _ _, rfl⟩
  · rename_i t x ho
    rw [ho]
    split at h <;> try (cases h; done)
    rename_i hone
    cases h
    have hr := AV.cells_rel (he x) hone
    refine ⟨.pointer (some ⟨w.heap.size, 0, none⟩), .cells (cv x).cells t, 0, (cv x).cells.size, ?_, cells_blk hn hr t, ?_⟩
    · simp only [Instr.box, newVar, Sem.run_bind, Result.andThen_ok, run_newRow, Sem.run_pure]
    · simp only [AV.rel]; exact ⟨_, Names.put_self _ _ _, rfl⟩
  · rename_i t len parts ho
    rw [ho]
    split at h <;> try (cases h; done)
    rename_i e hu
    split at h <;> try (cases h; done)
    rename_i sz z hsz hz
    split at h <;> try (cases h; done)
    rename_i hc
    obtain ⟨c1, c2, c3⟩ := hc
    split at h <;> try (cases h; done)
    rename_i c hf
    cases h
    cases hi : P.info? e with
    | none => simp [zeroOf, hi] at hz
    | some i =>
      obtain ⟨zv, hzv, rfl⟩ := zeroOf_parts hi hz
      have hzr := aconst_cells (ρ := ρ) (Z := Z) zv
      have hzl := AV.rels_length hzr
      have hzs : zv.cells.size = sz := by simp at hzl; omega
      have hfl := flat_cells zv.cells len sz hzs
      have hp : prels ρ Z (parts.toList.map fun p => (p.1, ev p.2)) (parts.map fun p => (p.1, cv p.2)).toList := by simpa using prels_map he parts.toList
      obtain ⟨oo, h1, h2⟩ := fill_sound (arr := if len * sz = 0 then #[] else (Array.range (len * sz)).map (zv.cells[· % zv.cells.size]!)) hp (by rw [hfl]; exact rels_flatten hzr len) hf
      have hlen := AV.rels_length h2
      have hol : oo.size = len * sz := by
        have hfo : ∀ {place} {ps : List (Nat × AV)} {cells out : List AV}, afill place cells ps = some out → out.length = cells.length := by
          intro place ps
          induction ps with
          | nil => intro cells out h; simp only [afill] at h; cases h; rfl
          | cons p ps ih =>
            intro cells out h
            obtain ⟨i, x⟩ := p
            simp only [afill] at h
            split at h <;> try (cases h; done)
            split at h <;> try (cases h; done)
            rename_i hc
            rw [ih h, splice_length hc.2.1]
        have := hfo hf
        simp [c2] at hlen this
        omega
      refine ⟨.slice (some ⟨w.heap.size, 0, none⟩) len len, .cells oo e, 0, oo.size, ?_, cells_blk hn h2 e, ?_⟩
      · have hzval : (zeroValue e).run P w = .ok zv w := by simp [zeroValue, typeInfo, hi, hzv]
        have h24 : ¬ (len * sz > 2 ^ 24) := by omega
        by_cases h0 : len * sz = 0
        · rw [if_pos h0] at h1
          have e0 : ∀ f : Nat → Value, Array.map f (Array.range 0) = #[] := fun f => by apply Array.ext' ; simp
          simp only [Array.toList_map] at h1
          simp [Instr.buildSlice, run_underlying hu w, run_szOf hsz w, h0, h1, run_newRow, e0]
        · rw [if_neg h0] at h1
          simp only [Instr.buildSlice, Sem.run_bind, run_underlying hu w, Result.andThen_ok, run_szOf hsz w, Sem.run_ite, if_neg h24, Sem.run_pure, if_neg h0, hzval, h1, run_newRow]
      · simp only [AV.rel]
        exact ⟨_, len, 0, Names.put_self _ _ _, rfl, Nat.le_refl _, Nat.le_refl _, by simp, fun _ => ⟨by simp, by simp [hol]⟩⟩
  · rename_i t ho
    rw [ho]
    cases h
    refine ⟨.map (some w.heap.size), .map #[] 0, 0, 0, ?_, ⟨#[], rfl, by simp [mrels]⟩, ?_⟩
    · simp [Instr.makeMap]
    · simp only [AV.rel]; exact ⟨_, Names.put_self _ _ _, rfl⟩
  · rename_i t l c ho
    rw [ho]
    have rl := he l
    have rc := he c
    split at h <;> try (cases h; done)
    rename_i e kl l' kc c' hu e1 e2
    rw [e1] at rl; rw [e2] at rc
    split at h <;> try (cases h; done)
    rename_i i z hi hz
    split at h <;> try (cases h; done)
    rename_i hc
    obtain ⟨c0, c1, c2, c3, c4, c5⟩ := hc
    cases h
    simp only [AV.rel] at rl rc
    obtain ⟨zv, hzv, rfl⟩ := zeroOf_parts hi hz
    have hzr := aconst_cells (ρ := ρ) (Z := Z) zv
    have hzl := AV.rels_length hzr
    have hzs : zv.cells.size = i.size := by simp at hzl; omega
    have hfl := flat_cells zv.cells c'.toNat i.size hzs
    have hrr : AV.rels ρ Z (List.replicate c'.toNat (aconst zv).cells).flatten ((if c'.toNat * i.size = 0 then (#[] : Array Value) else (Array.range (c'.toNat * i.size)).map (zv.cells[· % zv.cells.size]!)).toList) := by
      rw [hfl]; exact rels_flatten hzr _
    have hw1 := wrap_in (l := l') c0 (by omega)
    have hw2 := wrap_in (l := c') (by omega) c2
    have hzval : (zeroValue e).run P w = .ok zv w := by simp [zeroValue, typeInfo, hi, hzv]
    refine ⟨.slice (some ⟨w.heap.size, 0, none⟩) l'.toNat c'.toNat, .cells _ e, 0, _, ?_, cells_blk hn hrr e, ?_⟩
    · have hti : (typeInfo e).run P w = .ok i w := by simp [typeInfo, hi]
      have hsz : (sizeOf e).run P w = .ok i.size w := by simp [sizeOf, typeInfo, hi]
      have hcond : (((decide (c' < 0) || decide ((i.bytes : Int) * c' > 2 ^ 48)) || decide (l' < 0)) || decide (l' > c')) = false := by
        simp; omega
      simp only [rl, rc]
      by_cases h0 : c'.toNat * i.size = 0
      · simp only [Instr.makeSlice, Sem.run_bind, run_underlying hu w, Result.andThen_ok, asInt, asIntOf, Sem.run_pure, hti, hw1, hw2, hcond, Bool.false_eq_true, if_false, Sem.run_ite, run_askRoom, hsz, h0, if_true]
        have e0 : ∀ f : Nat → Value, Array.map f (Array.range 0) = #[] := fun f => by apply Array.ext' ; simp
        rw [e0, run_newRow]
        rfl
      · simp only [Instr.makeSlice, Sem.run_bind, run_underlying hu w, Result.andThen_ok, asInt, asIntOf, Sem.run_pure, hti, hw1, hw2, hcond, Bool.false_eq_true, if_false, Sem.run_ite, run_askRoom, hsz, h0, hzval, run_newRow]
    · simp only [AV.rel]
      refine ⟨_, c'.toNat, 0, Names.put_self _ _ _, rfl, by omega, Nat.le_refl _, by simp, fun _ => ⟨by simp, ?_⟩⟩
      have h1 := AV.rels_length hrr
      simp only [Array.length_toList] at h1
      simp only [Nat.zero_add]
      rw [h1]
      simp [c4]
  · cases h

theorem mk_not_defer {P : Program} {ev : Operand → AV} {o : Oper} {n : Nat} {v : AV × ABlk} (h : amk P ev o n = some v) : ∀ c, o.op ≠ .defer c := by
  intro c e
  simp [amk, e] at h
theorem amk_congr {P : Program} {ev ev' : Operand → AV} {o : Oper} {n : Nat} (h : ∀ x ∈ o.op.operands.toList, ev x = ev' x) : amk P ev o n = amk P ev' o n := by
  unfold amk
  cases ho : o.op with
  | buildSlice t l ps =>
    rw [ho] at h
    simp only [Op.operands] at h
    simp only []
    rw [parts_congr (ev := ev) (ev' := ev') (by simpa using h)]
  | makeMap t r => cases r <;> rfl
  | _ =>
    first
      | rfl
      | (rw [ho] at h
         simp only [Op.operands, List.mem_cons, List.not_mem_nil, or_false, forall_eq_or_imp, forall_eq] at h
         simp only [h])
end mksound
end Go.Am

/- Regions whose order is drawn: the walk over whatever order. -/
namespace Go.Am
open Go.RowKit

variable {σ : Type} [Hp σ]

def lof (l : Array Bool) : Nat → Bool := fun i => l.getD i false
/-- All that must come ahead has come. -/
def Binds (o : Oper) (L : Nat → Bool) : Prop := ∀ e ∈ o.after.toList, Region.binds .any e = true → L e.on = true
def Closed (ops : Array Oper) (L : Nat → Bool) : Prop := ∀ i o, ops[i]? = some o → L i = true → Binds o L

theorem count_set : ∀ (l : List Bool) (i : Nat), l[i]? = some false → (l.set i true).count false + 1 = l.count false
  | [], i, h => by simp at h
  | x :: l, 0, h => by simp at h; subst h; simp
  | x :: l, i + 1, h => by
    simp at h
    have := count_set l i h
    simp only [List.set_cons_succ, List.count_cons]
    omega

theorem lof_set {l : Array Bool} {i : Nat} (hi : i < l.size) : lof (l.setIfInBounds i true) = fun j => if j = i then true else lof l j := by
  funext j
  simp only [lof, Array.getD_eq_getD_getElem?, Array.getElem?_setIfInBounds]
  by_cases h : i = j
  · subst h; simp [hi]
  · simp [h, Ne.symm h]

theorem ready_spec {ops : Array Oper} {listed : Array Bool} (hs : listed.size = ops.size) {i : Nat} (h : i ∈ Region.ready .any ops listed) :
    ∃ o, ops[i]? = some o ∧ lof listed i = false ∧ Binds o (lof listed) ∧ i < ops.size := by
  simp only [Region.ready, List.mem_filter, List.mem_range, Bool.and_eq_true] at h
  obtain ⟨hi, h1, h2⟩ := h
  have ho : ops[i]? = some ops[i] := by simp [hi]
  refine ⟨ops[i], ho, ?_, ?_, hi⟩
  · have hl : i < listed.size := by omega
    simpa [lof, hl] using h1
  · intro e he hb
    simp only [ho, Option.map_some, Option.getD_some, Array.all_eq_true] at h2
    obtain ⟨j, hj, hje⟩ := List.getElem_of_mem he
    have := h2 j (by simpa using hj)
    simp at hje
    rw [hje] at this
    simpa [hb, lof] using this
theorem ready_of {ops : Array Oper} {listed : Array Bool} (hs : listed.size = ops.size) {i : Nat} {o : Oper} (ho : ops[i]? = some o) (hi : i < ops.size) (hl : lof listed i = false) (hb : Binds o (lof listed)) :
    i ∈ Region.ready .any ops listed := by
  simp only [Region.ready, List.mem_filter, List.mem_range, Bool.and_eq_true]
  have hl' : i < listed.size := by omega
  refine ⟨hi, by simpa [lof, hl'] using hl, ?_⟩
  simp only [ho, Option.map_some, Option.getD_some, Array.all_eq_true]
  intro j hj
  have := hb o.after[j] (by simp)
  by_cases hbb : Region.binds .any o.after[j] = true
  · simpa [hbb, lof] using this hbb
  · simp [hbb]

section walk
variable {P : Program} {b : Frame} {k : List Item} {cs : List Frame} {ops : Array Oper}

def EdgesBack (ops : Array Oper) : Prop := ∀ i o, ops[i]? = some o → ∀ e ∈ o.after.toList, Region.binds .any e = true → e.on < i

theorem all_of_none {listed : Array Bool} (hwf : EdgesBack ops) (hs : listed.size = ops.size) (hr : Region.ready .any ops listed = []) : ∀ i, i < ops.size → lof listed i = true := by
  intro i
  induction i using Nat.strongRecOn with
  | ind i ih =>
    intro hi
    cases hl : lof listed i with
    | true => rfl
    | false =>
      have ho : ops[i]? = some ops[i] := by simp [hi]
      have : i ∈ Region.ready .any ops listed := ready_of hs ho hi hl (fun e he hb => by
        have := hwf i _ ho e he hb
        exact ih _ this (by omega))
      rw [hr] at this
      cases this

/-- All orders: each operation when it may come. -/
def Walks (ops : Array Oper) : List Nat → (Nat → Bool) → Prop
  | [], L => ∀ i, i < ops.size → L i = true
  | i :: rest, L => i < ops.size ∧ L i = false ∧ (∀ o, ops[i]? = some o → Binds o L) ∧ Walks ops rest fun j => if j = i then true else L j

theorem linearise_walks (hwf : EdgesBack ops) : ∀ (fuel t : Nat) (listed : Array Bool), listed.size = ops.size → listed.toList.count false ≤ fuel →
    Walks ops (Region.linearise.go .any ops fuel t listed []) (lof listed) := by
  intro fuel
  induction fuel with
  | zero =>
    intro t listed hs hn
    simp only [Region.linearise.go, List.reverse_nil, Walks]
    intro i hi
    have h0 : listed.toList.count false = 0 := by omega
    rw [List.count_eq_zero] at h0
    have hl : i < listed.size := by omega
    simp only [lof, Array.getD_eq_getD_getElem?, Array.getElem?_eq_getElem hl, Option.getD_some]
    cases hv : listed[i] with
    | true => rfl
    | false => exact absurd (hv ▸ (by simp : listed[i] ∈ listed.toList)) h0
  | succ fuel ih =>
    intro t listed hs hn
    simp only [Region.linearise.go]
    change Walks ops (match (Region.ready .any ops listed)[t % (Region.ready .any ops listed).length]? with
      | some i => Region.linearise.go .any ops fuel (t / (Region.ready .any ops listed).length) (listed.setIfInBounds i true) [i]
      | none => [].reverse) _
    cases hi : (Region.ready .any ops listed)[t % (Region.ready .any ops listed).length]? with
    | none =>
      have hnil : Region.ready .any ops listed = [] := by
        cases hr : Region.ready .any ops listed with
        | nil => rfl
        | cons x xs =>
          rw [hr] at hi
          have hlt : t % (x :: xs).length < (x :: xs).length := Nat.mod_lt _ (by simp)
          simp at hi
          simp at hlt
          omega
      simp only [List.reverse_nil, Walks]
      exact all_of_none hwf hs hnil
    | some i =>
      obtain ⟨o, ho, hl, hb, hlt⟩ := ready_spec hs (List.mem_of_getElem? hi)
      have hset := lof_set (l := listed) (i := i) (by omega)
      have hlf : listed.toList[i]? = some false := by
        have hl' : i < listed.size := by omega
        simp [lof, hl'] at hl
        simp [hl', hl]
      have := ih (t / (Region.ready .any ops listed).length) (listed.setIfInBounds i true) (by simpa using hs) (by
        have := count_set _ _ hlf
        simp only [Array.toList_setIfInBounds]
        omega)
      simp only []
      rw [linearise_go_acc, List.reverse_singleton, List.singleton_append]
      simp only [Walks]
      refine ⟨hlt, hl, fun o' ho' => ?_, by rw [← hset]; exact this⟩
      rw [ho] at ho'; cases ho'; exact hb

/-- The same by what must come ahead of what, at once or through others. -/
def WalksD (dep : Nat → Nat → Prop) (n : Nat) : List Nat → (Nat → Bool) → Prop
  | [], L => ∀ i, i < n → L i = true
  | i :: rest, L => i < n ∧ L i = false ∧ (∀ j, dep i j → L j = true) ∧ WalksD dep n rest fun j => if j = i then true else L j
def ClD (dep : Nat → Nat → Prop) (L : Nat → Bool) : Prop := ∀ i j, L i = true → dep i j → L j = true

theorem ClD.more {dep : Nat → Nat → Prop} {L : Nat → Bool} {i : Nat} (h : ClD dep L) (hi : ∀ j, dep i j → L j = true) : ClD dep fun j => if j = i then true else L j := by
  intro x j hx hd
  have : L j = true := by
    by_cases hxi : x = i
    · subst hxi; exact hi j hd
    · simp only [if_neg hxi] at hx; exact h x j hx hd
  simp only [this]
  split <;> rfl

theorem walks_run {dep : Nat → Nat → Prop} (I : (Nat → Bool) → Act → World → Prop)
    (hstep : ∀ L a w i o, ops[i]? = some o → L i = false → (∀ j, dep i j → L j = true) → ClD dep L → I L a w →
      ∀ rest, ∃ a' w', I (fun j => if j = i then true else L j) a' w' ∧ Steps P (lone (b.atR a (.inRegion ops (i :: rest) :: k)) cs w) (lone (b.atR a' (.inRegion ops rest :: k)) cs w')) :
    ∀ (ord : List Nat) (L : Nat → Bool) (a : Act) (w : World), WalksD dep ops.size ord L → ClD dep L → I L a w →
      ∃ L a' w', (∀ i, i < ops.size → L i = true) ∧ I L a' w' ∧ Steps P (lone (b.atR a (.inRegion ops ord :: k)) cs w) (lone (b.atR a' (.inRegion ops [] :: k)) cs w') := by
  intro ord
  induction ord with
  | nil => intro L a w hw hc hI; exact ⟨L, a, w, hw, hI, Steps.refl _ _⟩
  | cons i rest ih =>
    intro L a w hw hc hI
    obtain ⟨h1, h2, h3, h4⟩ := hw
    have ho : ops[i]? = some ops[i] := by simp [h1]
    obtain ⟨a1, w1, hI1, hs⟩ := hstep L a w i _ ho h2 h3 hc hI rest
    obtain ⟨L', a', w', g1, g2, g3⟩ := ih _ a1 w1 h4 (hc.more h3) hI1
    exact ⟨L', a', w', g1, g2, hs.trans g3⟩

/-- What must come ahead of what, as the edges tell it. -/
def DepOf (ops : Array Oper) (dep : Nat → Nat → Prop) : Prop := ∀ (i j : Nat) (o : Oper), dep i j → ops[i]? = some o → ∃ e ∈ o.after.toList, Region.binds .any e = true ∧ (e.on = j ∨ dep e.on j)

theorem dep_listed {dep : Nat → Nat → Prop} (hd : DepOf ops dep) (hwf : EdgesBack ops) {L : Nat → Bool} (hc : Closed ops L) : ∀ (i : Nat) (o : Oper), ops[i]? = some o → Binds o L → ∀ j, dep i j → L j = true := by
  intro i
  induction i using Nat.strongRecOn with
  | ind i ih =>
    intro o ho hb j hj
    obtain ⟨e, he, hbe, hor⟩ := hd i j o hj ho
    rcases hor with rfl | hd
    · exact hb e he hbe
    · have hlt := hwf i o ho e he hbe
      have hi : i < ops.size := by
        rcases Nat.lt_or_ge i ops.size with h | h
        · exact h
        · rw [Array.getElem?_eq_none h] at ho; cases ho
      have ho' : ops[e.on]? = some ops[e.on] := by simp
      exact ih e.on hlt _ ho' (hc e.on _ ho' (hb e he hbe)) j hd

theorem Closed.more {L : Nat → Bool} {i : Nat} (h : Closed ops L) (hb : ∀ o, ops[i]? = some o → Binds o L) : Closed ops fun j => if j = i then true else L j := by
  intro j o' ho' hj e he hbe
  simp only at hj ⊢
  have : L e.on = true := by
    by_cases hji : j = i
    · subst hji; exact hb o' ho' e he hbe
    · rw [if_neg hji] at hj; exact h j o' ho' hj e he hbe
  simp only [this]
  split <;> rfl

theorem Walks.dep {dep : Nat → Nat → Prop} (hd : DepOf ops dep) (hwf : EdgesBack ops) : ∀ {ord : List Nat} {L : Nat → Bool}, Walks ops ord L → Closed ops L → WalksD dep ops.size ord L
  | [], _, h, _ => h
  | i :: rest, L, h, hc => by
    obtain ⟨h1, h2, h3, h4⟩ := h
    have ho : ops[i]? = some ops[i] := by simp [h1]
    exact ⟨h1, h2, fun j hj => dep_listed hd hwf hc i _ ho (h3 _ ho) j hj, Walks.dep hd hwf h4 (hc.more h3)⟩

/-- Of two operations one comes first. -/
theorem WalksD.two {dep : Nat → Nat → Prop} {n x y : Nat} (hxy : x ≠ y) (hx : x < n) (hy : y < n) : ∀ {ord : List Nat} {L : Nat → Bool}, WalksD dep n ord L → L x = false → L y = false →
    WalksD (fun i j => dep i j ∨ (i = y ∧ j = x)) n ord L ∨ WalksD (fun i j => dep i j ∨ (i = x ∧ j = y)) n ord L := by
  have rest : ∀ {x y : Nat} {ord : List Nat} {L : Nat → Bool}, WalksD dep n ord L → L x = true → WalksD (fun i j => dep i j ∨ (i = y ∧ j = x)) n ord L := by
    intro x y ord
    induction ord with
    | nil => intro L h _; exact h
    | cons i rest ih =>
      intro L h hx
      obtain ⟨h1, h2, h3, h4⟩ := h
      refine ⟨h1, h2, fun j hj => ?_, ih h4 (by simp only [hx]; split <;> rfl)⟩
      rcases hj with hj | ⟨rfl, rfl⟩
      · exact h3 j hj
      · exact hx
  intro ord
  induction ord with
  | nil => intro L h hLx hLy; have := h x hx; rw [hLx] at this; cases this
  | cons i r ih =>
    intro L h hLx hLy
    obtain ⟨h1, h2, h3, h4⟩ := h
    by_cases hix : i = x
    · subst hix
      left
      refine ⟨h1, h2, fun j hj => ?_, rest h4 (by simp)⟩
      rcases hj with hj | ⟨rfl, rfl⟩
      · exact h3 j hj
      · exact absurd rfl hxy
    · by_cases hiy : i = y
      · subst hiy
        right
        refine ⟨h1, h2, fun j hj => ?_, rest h4 (by simp)⟩
        rcases hj with hj | ⟨rfl, rfl⟩
        · exact h3 j hj
        · exact absurd rfl hxy
      · have hne1 : x ≠ i := fun e => hix e.symm
        have hne2 : y ≠ i := fun e => hiy e.symm
        rcases ih h4 (by simp [hne1, hLx]) (by simp [hne2, hLy]) with h | h
        · left
          refine ⟨h1, h2, fun j hj => ?_, h⟩
          rcases hj with hj | ⟨rfl, rfl⟩
          · exact h3 j hj
          · exact absurd rfl hiy
        · right
          refine ⟨h1, h2, fun j hj => ?_, h⟩
          rcases hj with hj | ⟨rfl, rfl⟩
          · exact h3 j hj
          · exact absurd rfl hix
end walk

/-- An operation that calls nothing: the machine's step. -/
theorem step_op {P : Program} {b : Frame} {a : Act} {k : List Item} {cs : List Frame} {w w' : World} {ops : Array Oper} {i : Nat} {rest : List Nat} {o : Oper} (ho : ops[i]? = some o) (hw : Region.wanted o (yielded ops a.tmps) = true)
    (hnd : ∀ c, o.op ≠ .defer c) {n : Next} {cv : Value} (g1 : (execOp a.eval o).run P w = .ok n w') (g2 : nval n = some cv) :
    step P (lone (b.atR a (.inRegion ops (i :: rest) :: k)) cs w) = .next (lone (b.atR (a.put o.dst cv) (.inRegion ops rest :: k)) cs w') := by
  have hg := stepGR_op (P := P) (b := b) (k := k) (cs := cs) (w := w) (rest := rest) ho hw
  rw [Oper.semAt_eq _ _ _ hnd] at hg
  refine step_lone_go ?_
  rw [hg, ← finish_put ho]
  cases n <;> simp only [nval, reduceCtorEq] at g2
  · cases g2; simp [stepG.apply, g1]
  · cases g2; simp [stepG.apply, g1]

/-- An operation in the midst of a region, whatever comes behind it. -/
def OpRuns (P : Program) (f : FuncId) (rd : Bool) (ops : Array Oper) (i : Nat) (o : Oper) (tm : List AV) (st : St σ) (v : AV) (st' : St σ) : Prop :=
  ∀ (E : Env) (ρ : Names) (Z : Frozen) (w : World) (a : Act) (b : Frame) (k : List Item) (cs : List Frame) (rest : List Nat), SR E ρ Z st w → (∀ x ∈ o.op.operands.toList, (aev tm x).rel ρ Z (a.eval x)) → ops[i]? = some o →
    Region.wanted o (yielded ops a.tmps) = true → b.fn = f → b.roundOf.isSome = rd →
    ∃ ρ' Z' w' cv, Ext ρ Z ρ' Z' ∧ st.nx ≤ st'.nx ∧ SR E ρ' Z' st' w' ∧ v.rel ρ' Z' cv ∧
      Steps P (lone (b.atR a (.inRegion ops (i :: rest) :: k)) cs w) (lone (b.atR (a.put o.dst cv) (.inRegion ops rest :: k)) cs w')

open Classical in
theorem opRuns_op {P : Program} {f : FuncId} {rd : Bool} {ops : Array Oper} {i : Nat} {o : Oper} {tm : List AV} {st st' : St σ} {v : AV} (h : aop P (aev tm) o st = some (v, st')) : OpRuns P f rd ops i o tm st v st' := by
  intro E ρ Z w a b k cs rest hr he ho hw hf hrd
  let ev' : Operand → AV := fun x => if x ∈ o.op.operands.toList then aev tm x else .junk
  have h' : aop P ev' o st = some (v, st') := by
    rw [← h]
    refine aop_congr (fun x hx => ?_)
    simp only [ev', if_pos hx]
  obtain ⟨n, cv, w', ρ', Z', g1, g2, g3, g4, g5, g6⟩ := op_sound (P := P) (cv := a.eval) hr (fun x => by
    by_cases hx : x ∈ o.op.operands.toList
    · simp only [ev', if_pos hx]; exact he x hx
    · simp only [ev', if_neg hx, AV.rel]) h'
  exact ⟨ρ', Z', w', cv, g3, g4, g5, g6, .one (step_op ho hw (op_not_defer h) g1 g2)⟩

/-- A call of a function value, that comes back. -/
theorem opRuns_call {P : Program} {f : FuncId} {rd : Bool} {ops : Array Oper} {i : Nat} {o : Oper} {tm : List AV} {st st' : St σ} {v : AV} {fx : Operand} {xs : Array Operand} {ts : Array TypeId}
    (hop : o.op = .call { callee := .value fx, args := xs, argTypes := ts }) {g : FuncId} {args : List AV} (ht : atgt (aev tm fx) (xs.toList.map (aev tm)) = some (.enter g args))
    {fn : Func} {c : Code} (hfn : Has P g fn c)
    (h : ACall P g args st fun e st1 => e = .ret v ∧ st1 = st') : OpRuns P f rd ops i o tm st v st' := by
  intro E ρ Z w a b k cs rest hr he ho hw hf hrd
  have hops : ∀ x, x = fx ∨ x ∈ xs.toList → (aev tm x).rel ρ Z (a.eval x) := fun x hx => he x (by
    rw [hop]
    simp only [Op.operands, Call.operands, Array.toList_append, List.mem_append]
    rcases hx with rfl | hx
    · exact Or.inl (by simp)
    · exact Or.inr hx)
  have hv := hops fx (Or.inl rfl)
  unfold atgt at ht
  split at ht <;> try (cases ht; done)
  rename_i g' first cap hfx
  cases ht
  rw [hfx] at hv
  simp only [AV.rel] at hv
  obtain ⟨_, fa, ca, hva, r1, r2⟩ := hv
  have hrun : (execOp a.eval o).run P w = .ok (.enter g (fa ++ xs.map a.eval ++ ca)) w := by
    simp only [execOp, hop, resolve, hva, Deferred.ofValue, invoke, pure_bind]
    exact run_callFunc hfn _ _
  have hxs : ∀ l : List Operand, (∀ x ∈ l, x ∈ xs.toList) → AV.rels ρ Z (l.map (aev tm)) (l.map a.eval) := by
    intro l
    induction l with
    | nil => intro _; simp [AV.rels]
    | cons x l ih => intro hl; exact AV.rels_cons (hops x (Or.inr (hl x (by simp)))) (ih fun y hy => hl y (by simp [hy]))
  have hargs : AV.rels ρ Z (first ++ List.map (aev tm) xs.toList ++ cap) (fa ++ xs.map a.eval ++ ca).toList := by
    simp only [Array.toList_append, Array.toList_map]
    exact AV.rels_append (AV.rels_append r1 (hxs _ fun _ h => h)) r2
  have hg := stepGR_op (P := P) (b := b) (k := k) (cs := cs) (w := w) (rest := rest) ho hw
  rw [Oper.semAt_eq _ _ _ (by intro c e; rw [hop] at e; cases e)] at hg
  have hent : step P (lone (b.atR a (.inRegion ops (i :: rest) :: k)) cs w) = .next (lone (Frame.enter P g (fa ++ xs.map a.eval ++ ca) .normal) (b.atR a (.inRegion ops (i :: rest) :: k) :: cs) w) := by
    refine step_lone_go ?_
    rw [hg]
    simp [stepG.apply, hrun, Frame.atR]
  obtain ⟨e, w', fr, hR, hcomes, _, hleave⟩ := h E ρ Z w _ hr hargs (b.atR a (.inRegion ops (i :: rest) :: k) :: cs)
  obtain ⟨ae, st1, ρ', Z', ⟨rfl, rfl⟩, hx, hnx, hst, hend⟩ := hR
  obtain ⟨cv, rfl, hv'⟩ := hend
  exact ⟨ρ', Z', w', cv, hx, hnx, hst, hv', .head hent (Steps.trans hcomes (.one (by rw [step_leave_returned hleave, finish_put ho])))⟩
end Go.Am

/- Regions whose order is drawn: what a plan's order comes to, every order comes to. -/
namespace Go.Am
open Go.RowKit

variable {σ : Type} [Hp σ]

def Names.below (ρ : Names) (n : Nat) : Names := fun c => if c < n then ρ c else none

theorem Names.below_of_dom {ρ : Names} {n : Nat} (h : ∀ b p, ρ b = some p → b < n) : ρ.below n = ρ := by
  funext c
  simp only [Names.below]
  split
  · rfl
  · cases e : ρ c with
    | none => rfl
    | some p => exact absurd (h c p e) (by assumption)
theorem ext_below {ρ ρ' : Names} {Z Z' : Frozen} {n n' : Nat} (hn : n ≤ n') (h : ∀ b p, b < n → ρ b = some p → ρ' b = some p) (hz : ∀ c o, Z c = some o → Z' c = some o) : Ext (ρ.below n) Z (ρ'.below n') Z' := by
  refine ⟨fun b p e => ?_, hz⟩
  simp only [Names.below] at e ⊢
  by_cases hb : b < n
  · rw [if_pos hb] at e
    rw [if_pos (by omega)]
    exact h b p hb e
  · rw [if_neg hb] at e
    cases e
theorem below_mono {ρ : Names} {Z : Frozen} {n n' : Nat} (hn : n ≤ n') : Ext (ρ.below n) Z (ρ.below n') Z := ext_below hn (fun _ _ _ e => e) fun _ _ e => e

section plan
variable (P : Program) (f : FuncId) (rd : Bool) (ops : Array Oper) (dep : Nat → Nat → Prop) (π : List Nat)

/-- What runs in the plan's order: which places are anchors (what acts), which make a block (which one; is it a literal map?), which put something into a literal map (into the one of which place; key, value); the temporaries, the states, the values. -/
structure Run (σ : Type) where
  anch : Nat → Bool
  made : Nat → Bool
  lit : Nat → Bool
  blk : Nat → ABlk
  tg : Nat → Option Nat
  kx : Nat → AV
  vx : Nat → AV
  cur : Nat → List AV
  st : Nat → St σ
  v : Nat → AV

variable (R : Run σ)

def Run.base (q : Nat) : Prop := q = 0 ∨ ∃ r, q = r + 1 ∧ R.anch r = true
/-- What has been put into a literal map. -/
def Run.kvs (u r : Nat) : List (AV × AV) := ((List.range r).filter (fun x => R.tg x == some u)).map (fun x => (R.kx x, R.vx x))

/-- What an operation does at its place. -/
inductive What (q i : Nat) (o : Oper) : Prop where
  | skip (h : awanted ops (R.cur q) o = some false) (a : R.anch q = false) (m : R.made q = false) (t : R.tg q = none) (s : R.st (q + 1) = R.st q) (v : R.v q = undefA)
  | quiet (h : awanted ops (R.cur q) o = some true) (a : R.anch q = false) (m : R.made q = false) (t : R.tg q = none) (s : R.st (q + 1) = R.st q)
      (v : ∀ q0, q0 ≤ q → R.base q0 → (∀ r j : Nat, q0 ≤ r → r < q → R.anch r = true → π[r]? = some j → ¬ dep i j) → aq P (aev (R.cur q)) o (Hp.get (R.st q0).H) = some (R.v q))
  | make (h : awanted ops (R.cur q) o = some true) (a : R.anch q = false) (m : R.made q = true) (t : R.tg q = none)
      (s : R.st (q + 1) = ⟨Hp.put (R.st q).H (R.st q).nx (some (if R.lit q then .lit [] else R.blk q)), (R.st q).nx + 1⟩) (l : R.lit q = true → R.blk q = .map [] 0)
      (v : amk P (aev (R.cur q)) o (R.st q).nx = some (R.v q, R.blk q))
  | insert (h : awanted ops (R.cur q) o = some true) (a : R.anch q = false) (m : R.made q = false) (u : Nat) (t : R.tg q = some u) (hu : u < q) (hm : R.made u = true) (hl : R.lit u = true)
      (ha : ∀ r, u ≤ r → r < q → R.anch r = false) (hdep : ∀ j : Nat, π[u]? = some j → dep i j)
      (ty kt e : TypeId) (om ok ov : Operand) (hop : o.op = .insert ty om ok ov) (hty : P.underlying ty = some (.map kt e)) (h1 : aev (R.cur q) om = .map (R.st u).nx) (h2 : aev (R.cur q) ok = R.kx q) (h3 : aev (R.cur q) ov = R.vx q)
      (hk : akey P 10000 kt (R.kx q) = true) (hd : ∀ x, x ≠ q → R.tg x = some u → aeq P 10000 kt (R.kx q) (R.kx x) = some false)
      (s : R.st (q + 1) = ⟨Hp.put (R.st q).H (R.st u).nx (some (.lit (R.kvs u (q + 1)))), (R.st q).nx⟩) (v : R.v q = .tuple [])
  | anchor (h : awanted ops (R.cur q) o = some true) (a : R.anch q = true) (m : R.made q = false) (t : R.tg q = none) (v : OpRuns P f rd ops i o (R.cur q) (R.st q) (R.v q) (R.st (q + 1)))

/-- A plan, and what runs in its order. -/
structure Cert (s : FS σ) : Prop where
  nodup : ∀ (q u i : Nat), π[q]? = some i → π[u]? = some i → q = u
  bound : ∀ (q i : Nat), π[q]? = some i → i < ops.size
  full : ∀ i, i < ops.size → ∃ q : Nat, π[q]? = some i
  len : π.length = ops.size
  c0 : R.cur 0 = s.tmps
  s0 : R.st 0 = s.st
  out : ∀ q, π.length ≤ q → R.anch q = false ∧ R.made q = false ∧ R.tg q = none
  dst : ∀ (q u i j : Nat) (o o' : Oper) (d : Tmp), π[q]? = some i → π[u]? = some j → ops[i]? = some o → ops[j]? = some o' → o.dst = some d → o'.dst = some d → q = u
  next : ∀ (q i : Nat) (o : Oper), π[q]? = some i → ops[i]? = some o → R.cur (q + 1) = aput (R.cur q) o.dst (R.v q)
  looks : ∀ (q u i j : Nat) (o o' : Oper) (t : Tmp), π[q]? = some i → π[u]? = some j → ops[i]? = some o → ops[j]? = some o' → t ∈ o.looksAt ops → o'.dst = some t → (u < q → dep i j) ∧ (q < u → dep j i)
  anchors : ∀ (q u i j : Nat), R.anch q = true → u < q → π[q]? = some i → π[u]? = some j → dep i j
  grows : ∀ q, q < π.length → (R.st q).nx ≤ (R.st (q + 1)).nx
  what : ∀ (q i : Nat) (o : Oper), π[q]? = some i → ops[i]? = some o → What P f rd ops dep π R q i o
end plan

section inv
variable {P : Program} {f : FuncId} {rd : Bool} {ops : Array Oper} {dep : Nat → Nat → Prop} {π : List Nat} {R : Run σ} {s : FS σ}

/-- How the map's object looks while it is filled, in whatever order. -/
def Run.stamp (R : Run σ) (xs : List Nat) : List (AV × AV × Nat) := xs.zipIdx.map fun p => (R.kx p.1, R.vx p.1, p.2)

/-- A block that has been made ahead of its time. -/
def BlkIs (R : Run σ) (π : List Nat) (u : Nat) (L : Nat → Bool) (ρ : Names) (Z : Frozen) (pl : Pl) (o : Obj) : Prop :=
  if R.lit u then
    ∃ xs : List Nat, xs.Nodup ∧ (∀ x, x ∈ xs ↔ (R.tg x = some u ∧ ∃ i : Nat, π[x]? = some i ∧ L i = true)) ∧ ∃ ents : Array MapEntry, o = .map ents xs.length ∧ ∀ N, (∀ x ∈ xs, (R.st x).nx ≤ N) → mrels (ρ.below N) Z (R.stamp xs) ents.toList
  else (R.blk u).rel (ρ.below ((R.st u).nx + 1)) Z pl o

structure DInv (P : Program) (ops : Array Oper) (π : List Nat) (R : Run σ) (s : FS σ) (E : Env) (ρ0 : Names) (Z0 : Frozen) (a0 : Act) (E' : Env) (ρ : Names) (Z : Frozen) (q0 : Nat) (L : Nat → Bool) (a : Act) (w : World) : Prop where
  w0 : E'.w0 = E.w0
  keepE : ∀ c o, E.keep c = some o → E'.keep c = some o
  base : R.base q0
  q0n : q0 ≤ π.length
  done : ∀ (q i : Nat), q < q0 → π[q]? = some i → L i = true
  todo : ∀ (r i : Nat), q0 ≤ r → R.anch r = true → π[r]? = some i → L i = false
  sr : SR E' (ρ.below (R.st q0).nx) Z (R.st q0) w
  ext : Ext ρ0 Z0 (ρ.below (R.st q0).nx) Z
  dom : ∀ c p, ρ c = some p → c < (R.st q0).nx ∨ ∃ u i : Nat, q0 ≤ u ∧ π[u]? = some i ∧ L i = true ∧ R.made u = true ∧ c = (R.st u).nx
  mks : ∀ (u i : Nat), q0 ≤ u → π[u]? = some i → L i = true → R.made u = true → ∃ pl o, ρ (R.st u).nx = some pl ∧ E'.keep pl.block = some o ∧ E.keep pl.block = none ∧ BlkIs R π u L ρ Z pl o
  inj : ∀ (u u' i i' : Nat) (pl pl' : Pl), q0 ≤ u → π[u]? = some i → L i = true → R.made u = true → q0 ≤ u' → π[u']? = some i' → L i' = true → R.made u' = true → ρ (R.st u).nx = some pl → ρ (R.st u').nx = some pl' → pl.block = pl'.block → u = u'
  size : a.tmps.size = s.tmps.length
  defs : a.defers = a0.defers
  tset : ∀ (u i : Nat) (o : Oper) (d : Nat), π[u]? = some i → ops[i]? = some o → o.dst = some d → d < s.tmps.length → L i = true → ∃ cv, a.tmps[d]? = some cv ∧ (R.v u).rel (ρ.below (R.st (u + 1)).nx) Z cv
  told : ∀ (d : Nat) (x : AV), s.tmps[d]? = some x → (∀ (u i : Nat) (o : Oper), π[u]? = some i → ops[i]? = some o → o.dst = some d → L i = false) → ∃ cv, a.tmps[d]? = some cv ∧ x.rel (ρ.below (R.st 0).nx) Z cv

/-! ### The plan's order -/

theorem Cert.at (C : Cert P f rd ops dep π R s) {q : Nat} (hq : q < π.length) : ∃ (i : Nat) (o : Oper), π[q]? = some i ∧ ops[i]? = some o := by
  refine ⟨π[q], ops[π[q]]'(C.bound q _ (by simp [hq])), by simp [hq], by simp [C.bound q π[q] (by simp [hq])]⟩

theorem Cert.step_nx (C : Cert P f rd ops dep π R s) {q : Nat} (hq : q < π.length) : (R.st q).nx ≤ (R.st (q + 1)).nx ∨ R.anch q = true := by
  obtain ⟨i, o, hi, ho⟩ := C.at hq
  cases C.what q i o hi ho with
  | skip h a m t s v => left; rw [s]; exact Nat.le_refl _
  | quiet h a m t s v => left; rw [s]; exact Nat.le_refl _
  | make h a m t s l v => left; rw [s]; exact Nat.le_succ _
  | insert h a m u t hu hm hl ha hdep ty kt e om ok ov hop hty h1 h2 h3 hk hd s v => left; rw [s]; exact Nat.le_refl _
  | anchor h a m t v => right; exact a

theorem Cert.cur_at (C : Cert P f rd ops dep π R s) : ∀ q, q ≤ π.length → (R.cur q).length = s.tmps.length ∧ ∀ t,
    (∃ (u i : Nat) (o : Oper), u < q ∧ π[u]? = some i ∧ ops[i]? = some o ∧ o.dst = some t ∧ t < s.tmps.length ∧ (R.cur q)[t]? = some (R.v u)) ∨
    ((∀ (u i : Nat) (o : Oper), u < q → π[u]? = some i → ops[i]? = some o → o.dst ≠ some t ∨ s.tmps.length ≤ t) ∧ (R.cur q)[t]? = s.tmps[t]?) := by
  intro q
  induction q with
  | zero => intro _; rw [C.c0]; exact ⟨rfl, fun t => Or.inr ⟨fun u i o h => by omega, rfl⟩⟩
  | succ q ih =>
    intro hq
    obtain ⟨hl, hc⟩ := ih (by omega)
    obtain ⟨i, o, hi, ho⟩ := C.at (q := q) (by omega)
    have hn := C.next q i o hi ho
    rw [hn]
    cases hd : o.dst with
    | none =>
      refine ⟨by simpa [aput] using hl, fun t => ?_⟩
      rcases hc t with ⟨u, j, o', h1, h2⟩ | ⟨h1, h2⟩
      · exact Or.inl ⟨u, j, o', by omega, h2⟩
      · refine Or.inr ⟨fun u j o' hu hj ho' => ?_, h2⟩
        rcases Nat.lt_or_ge u q with h | h
        · exact h1 u j o' h hj ho'
        · have : u = q := by omega
          subst this
          rw [hi] at hj; cases hj
          rw [ho] at ho'; cases ho'
          left; rw [hd]; simp
    | some d =>
      refine ⟨by simpa [aput] using hl, fun t => ?_⟩
      by_cases htd : t = d
      · subst htd
        by_cases hlt : t < s.tmps.length
        · exact Or.inl ⟨q, i, o, by omega, hi, ho, hd, hlt, by simp [aput, hl, hlt]⟩
        · refine Or.inr ⟨fun u j o' hu hj ho' => Or.inr (Nat.not_lt.1 hlt), ?_⟩
          rw [List.getElem?_eq_none (by simp only [aput, List.length_set, hl]; exact Nat.not_lt.1 hlt), List.getElem?_eq_none (Nat.not_lt.1 hlt)]
      · have he : (aput (R.cur q) (some d) (R.v q))[t]? = (R.cur q)[t]? := by simp [aput, List.getElem?_set, Ne.symm htd]
        rw [he]
        rcases hc t with ⟨u, j, o', h1, h2⟩ | ⟨h1, h2⟩
        · exact Or.inl ⟨u, j, o', by omega, h2⟩
        · refine Or.inr ⟨fun u j o' hu hj ho' => ?_, h2⟩
          rcases Nat.lt_or_ge u q with h | h
          · exact h1 u j o' h hj ho'
          · have : u = q := by omega
            subst this
            rw [hi] at hj; cases hj
            rw [ho] at ho'; cases ho'
            left; rw [hd]; simpa using Ne.symm htd

/-- Names only grow along the plan. -/
def Grows (R : Run σ) (n : Nat) : Prop := ∀ q, q < n → (R.st q).nx ≤ (R.st (q + 1)).nx
theorem Grows.le {n : Nat} (h : Grows R n) {q r : Nat} (hqr : q ≤ r) (hr : r ≤ n) : (R.st q).nx ≤ (R.st r).nx := by
  induction r with
  | zero => have : q = 0 := by omega
            subst this; exact Nat.le_refl _
  | succ r ih =>
    rcases Nat.lt_or_ge q (r + 1) with hq | hq
    · exact Nat.le_trans (ih (by omega) (by omega)) (h r (by omega))
    · have : q = r + 1 := by omega
      subst this; exact Nat.le_refl _

theorem Cert.mk_nx (C : Cert P f rd ops dep π R s) {q : Nat} (hm : R.made q = true) : (R.st (q + 1)).nx = (R.st q).nx + 1 ∧ q < π.length ∧ R.anch q = false := by
  have hq : q < π.length := by
    rcases Nat.lt_or_ge q π.length with h | h
    · exact h
    · have := (C.out q h).2.1; rw [hm] at this; cases this
  obtain ⟨i, o, hi, ho⟩ := C.at hq
  refine ⟨?_, hq, ?_⟩
  · cases C.what q i o hi ho with
    | skip h a m t s v => rw [hm] at m; cases m
    | quiet h a m t s v => rw [hm] at m; cases m
    | make h a m t s l v => rw [s]
    | insert h a m u t hu hm' hl ha hdep ty kt e om ok ov hop hty h1 h2 h3 hk hd s v => rw [hm] at m; cases m
    | anchor h a m t v => rw [hm] at m; cases m
  · cases C.what q i o hi ho with
    | skip h a m t s v => exact a
    | quiet h a m t s v => exact a
    | make h a m t s l v => exact a
    | insert h a m u t hu hm' hl ha hdep ty kt e om ok ov hop hty h1 h2 h3 hk hd s v => exact a
    | anchor h a m t v => rw [hm] at m; cases m

theorem Cert.mk_inj (C : Cert P f rd ops dep π R s) (hg : Grows R π.length) {q u : Nat} (hq : R.made q = true) (hu : R.made u = true) (h : (R.st q).nx = (R.st u).nx) : q = u := by
  obtain ⟨e1, l1, _⟩ := C.mk_nx hq
  obtain ⟨e2, l2, _⟩ := C.mk_nx hu
  rcases Nat.lt_trichotomy q u with hlt | heq | hlt
  · have := hg.le (q := q + 1) (r := u) (by omega) (by omega); omega
  · exact heq
  · have := hg.le (q := u + 1) (r := q) (by omega) (by omega); omega
end inv
end Go.Am

/- Regions whose order is drawn: what has been made is taken in. -/
namespace Go.Am
open Go.RowKit

variable {σ : Type} [Hp σ]

theorem lrels_perm {ρ : Names} {Z : Frozen} {es es' : List (AV × AV)} (h : es.Perm es') : ∀ {l : List MapEntry}, lrels ρ Z es l → ∃ l', l'.Perm l ∧ lrels ρ Z es' l' := by
  induction h with
  | nil => intro l h; exact ⟨l, .refl _, h⟩
  | cons x _ ih =>
    obtain ⟨k, v⟩ := x
    intro l h
    simp only [lrels] at h
    obtain ⟨e, l1, rfl, h1, h2, h3⟩ := h
    obtain ⟨l2, p, h4⟩ := ih h3
    exact ⟨e :: l2, p.cons _, by simp only [lrels]; exact ⟨e, l2, rfl, h1, h2, h4⟩⟩
  | swap x y t =>
    obtain ⟨k, v⟩ := x
    obtain ⟨k', v'⟩ := y
    intro l h
    simp only [lrels] at h
    obtain ⟨e, l1, rfl, h1, h2, e', l2, rfl, h3, h4, h5⟩ := h
    exact ⟨e' :: e :: l2, .swap _ _ _, by simp only [lrels]; exact ⟨e', _, rfl, h3, h4, e, l2, rfl, h1, h2, h5⟩⟩
  | trans _ _ ih1 ih2 =>
    intro l h
    obtain ⟨l1, p1, h1⟩ := ih1 h
    obtain ⟨l2, p2, h2⟩ := ih2 h1
    exact ⟨l2, p2.trans p1, h2⟩

section
variable {P : Program} {f : FuncId} {rd : Bool} {ops : Array Oper} {dep : Nat → Nat → Prop} {π : List Nat} {R : Run σ} {s : FS σ}

theorem Run.kvs_succ (R : Run σ) (u r : Nat) : R.kvs u (r + 1) = R.kvs u r ++ (if R.tg r = some u then [(R.kx r, R.vx r)] else []) := by
  simp only [Run.kvs, List.range_succ, List.filter_append, List.map_append]
  congr 1
  by_cases h : R.tg r = some u <;> simp [h]

theorem Cert.tg_lt (C : Cert P f rd ops dep π R s) {x u : Nat} (h : R.tg x = some u) : u < x ∧ x < π.length ∧ R.made u = true ∧ R.lit u = true ∧ R.anch x = false ∧ R.made x = false ∧ ∀ r, u ≤ r → r < x → R.anch r = false := by
  have hx : x < π.length := by
    rcases Nat.lt_or_ge x π.length with h' | h'
    · exact h'
    · have := (C.out x h').2.2; rw [h] at this; cases this
  obtain ⟨i, o, hi, ho⟩ := C.at hx
  cases C.what x i o hi ho with
  | skip _ a m t s v => rw [h] at t; cases t
  | quiet _ a m t s v => rw [h] at t; cases t
  | make _ a m t s l v => rw [h] at t; cases t
  | insert _ a m u' t hu hm hl ha hdep ty kt e om ok ov hop hty h1 h2 h3 hk hd s v => rw [h] at t; cases t; exact ⟨hu, hx, hm, hl, a, m, ha⟩
  | anchor _ a m t v => rw [h] at t; cases t

/-- What lies in the heap of the plan's order, between two anchors. -/
theorem Cert.seg (C : Cert P f rd ops dep π R s) {q0 : Nat} (hb0 : R.base q0) (hdom : ∀ b k, Hp.get (R.st q0).H b = some k → b < (R.st q0).nx) :
    ∀ r, q0 ≤ r → r ≤ π.length → (∀ x, q0 ≤ x → x < r → R.anch x = false) → ∀ b k, Hp.get (R.st r).H b = some k →
      (b < (R.st q0).nx ∧ Hp.get (R.st q0).H b = some k) ∨ ∃ u, q0 ≤ u ∧ u < r ∧ R.made u = true ∧ b = (R.st u).nx ∧ k = if R.lit u then .lit (R.kvs u r) else R.blk u := by
  intro r
  induction r with
  | zero =>
    intro h0 _ _ b k hk
    have : q0 = 0 := by omega
    subst this
    exact Or.inl ⟨hdom _ _ hk, hk⟩
  | succ r ih =>
    intro h0 hr hna b k hk
    rcases Nat.lt_or_ge r q0 with hlt | hge
    · have : q0 = r + 1 := by omega
      subst this
      exact Or.inl ⟨hdom _ _ hk, hk⟩
    · have hprev := ih hge (by omega) (fun x h1 h2 => hna x h1 (by omega))
      obtain ⟨i, o, hi, ho⟩ := C.at (q := r) (by omega)
      have lift : R.tg r = none → ∀ b k, ((b < (R.st q0).nx ∧ Hp.get (R.st q0).H b = some k) ∨ ∃ u, q0 ≤ u ∧ u < r ∧ R.made u = true ∧ b = (R.st u).nx ∧ k = if R.lit u then .lit (R.kvs u r) else R.blk u) →
          (b < (R.st q0).nx ∧ Hp.get (R.st q0).H b = some k) ∨ ∃ u, q0 ≤ u ∧ u < r + 1 ∧ R.made u = true ∧ b = (R.st u).nx ∧ k = if R.lit u then .lit (R.kvs u (r + 1)) else R.blk u := by
        intro ht b k h
        rcases h with h | ⟨u, h1, h2, h3, h4, h5⟩
        · exact Or.inl h
        · refine Or.inr ⟨u, h1, by omega, h3, h4, ?_⟩
          rw [h5, Run.kvs_succ, ht]
          simp
      cases C.what r i o hi ho with
      | skip _ a m t s v => rw [s] at hk; exact lift t _ _ (hprev _ _ hk)
      | quiet _ a m t s v => rw [s] at hk; exact lift t _ _ (hprev _ _ hk)
      | make _ a m t s l v =>
        rw [s] at hk
        simp only [Hp.get_put] at hk
        by_cases hb : b = (R.st r).nx
        · subst hb
          simp at hk
          refine Or.inr ⟨r, hge, by omega, m, rfl, ?_⟩
          rw [← hk]
          have hnil : R.kvs r (r + 1) = [] := by
            simp only [Run.kvs, List.map_eq_nil_iff, List.filter_eq_nil_iff, List.mem_range]
            intro x hx
            simp only [beq_iff_eq]
            intro hx2
            have := (C.tg_lt hx2).1
            omega
          rw [hnil]
        · rw [Heap.put_other _ _ hb] at hk
          exact lift t _ _ (hprev _ _ hk)
      | insert _ a m u0 t hu hm hl ha hdep ty kt e om ok ov hop hty h1 h2 h3 hkk hd s v =>
        rw [s] at hk
        simp only [Hp.get_put] at hk
        have hu0 : q0 ≤ u0 := by
          rcases hb0 with rfl | ⟨y, rfl, hy⟩
          · omega
          · rcases Nat.lt_or_ge u0 (y + 1) with h | h
            · have := ha y (by omega) (by omega)
              rw [hy] at this; cases this
            · exact h
        by_cases hb : b = (R.st u0).nx
        · subst hb
          simp at hk
          exact Or.inr ⟨u0, hu0, by omega, hm, rfl, by rw [← hk, hl]; rfl⟩
        · rw [Heap.put_other _ _ hb] at hk
          rcases hprev _ _ hk with h | ⟨u, g1, g2, g3, g4, g5⟩
          · exact Or.inl h
          · refine Or.inr ⟨u, g1, by omega, g3, g4, ?_⟩
            have hne : u0 ≠ u := by intro e; subst e; exact hb g4
            rw [g5, Run.kvs_succ, t]
            simp [hne]
      | anchor _ a m t v => have := hna r hge (by omega); rw [a] at this; cases this

variable {E : Env} {ρ0 : Names} {Z0 : Frozen} {a0 : Act} {E' : Env} {ρ : Names} {Z : Frozen} {q0 : Nat} {L : Nat → Bool} {a : Act} {w : World}

theorem lrels_of_mrels {ρ : Names} {Z : Frozen} : ∀ {es : List (AV × AV × Nat)} {l : List MapEntry}, mrels ρ Z es l → lrels ρ Z (es.map fun p => (p.1, p.2.1)) l
  | [], _, h => by simpa [mrels, lrels] using h
  | (k, v, n) :: es, _, h => by
    simp only [mrels] at h
    obtain ⟨e, l', rfl, h1, h2, h3, h4⟩ := h
    simp only [List.map_cons, lrels]
    exact ⟨e, l', rfl, h1, h2, lrels_of_mrels h4⟩

theorem stamp_map (R : Run σ) (xs : List Nat) : (R.stamp xs).map (fun p => (p.1, p.2.1)) = xs.map fun x => (R.kx x, R.vx x) := by
  simp only [Run.stamp, List.map_map]
  have : ∀ (n : Nat) (xs : List Nat), (xs.zipIdx n).map ((fun p : AV × AV × Nat => (p.1, p.2.1)) ∘ fun p : Nat × Nat => (R.kx p.1, R.vx p.1, p.2)) = xs.map fun x => (R.kx x, R.vx x) := by
    intro n xs
    induction xs generalizing n with
    | nil => rfl
    | cons x xs ih => simp only [List.zipIdx_cons, List.map_cons, ih]; rfl
  exact this 0 xs

/-- What has been made is taken in. -/
theorem DInv.absorb (C : Cert P f rd ops dep π R s) (I : DInv P ops π R s E ρ0 Z0 a0 E' ρ Z q0 L a w) {r : Nat} (h1 : q0 ≤ r) (h2 : r ≤ π.length) (hna : ∀ x, q0 ≤ x → x < r → R.anch x = false)
    (hall : ∀ x i : Nat, q0 ≤ x → x < r → π[x]? = some i → L i = true) (hend : r = π.length ∨ R.anch r = true) {E2 : Env} (hw0 : E2.w0 = E.w0) (hk : ∀ c o, E2.keep c = some o → E'.keep c = some o)
    (hk2 : ∀ u pl, q0 ≤ u → u < r → R.made u = true → ρ (R.st u).nx = some pl → E2.keep pl.block = none) : SR E2 (ρ.below (R.st r).nx) Z (R.st r) w := by
  have hg : Grows R π.length := C.grows
  have hle : (R.st q0).nx ≤ (R.st r).nx := hg.le h1 h2
  have sr := I.sr
  have hdom : ∀ b k, Hp.get (R.st q0).H b = some k → b < (R.st q0).nx := fun b k hb => by
    obtain ⟨p, o, e, _⟩ := sr.live b k hb
    exact sr.dom b p e
  have seg := C.seg I.base hdom r h1 h2 hna
  have below_of : ∀ {n b p}, (ρ.below n) b = some p → b < n ∧ ρ b = some p := by
    intro n b p e
    simp only [Names.below] at e
    by_cases hb : b < n
    · rw [if_pos hb] at e; exact ⟨hb, e⟩
    · rw [if_neg hb] at e; cases e
  have to_below : ∀ {n b p}, b < n → ρ b = some p → (ρ.below n) b = some p := by
    intro n b p hb e
    simp only [Names.below, if_pos hb, e]
  -- what is known of a block that has been made
  have made : ∀ u, q0 ≤ u → u < r → R.made u = true → ∃ pl o i, π[u]? = some i ∧ L i = true ∧ ρ (R.st u).nx = some pl ∧ E'.keep pl.block = some o ∧ BlkIs R π u L ρ Z pl o ∧ (R.st u).nx < (R.st r).nx := by
    intro u g1 g2 g3
    obtain ⟨i, o, hi, ho⟩ := C.at (q := u) (by omega)
    have hL := hall u i g1 g2 hi
    obtain ⟨pl, ob, e1, e2, e3, e4⟩ := I.mks u i g1 hi hL g3
    have := (C.mk_nx g3).1
    have := hg.le (q := u + 1) (r := r) (by omega) h2
    exact ⟨pl, ob, i, hi, hL, e1, e2, e4, by omega⟩
  refine ⟨fun b k hb => ?_, fun b b' k k' p p' hb hb' hp hp' hbb => ?_, fun b p e => (below_of e).1, sr.frozen, fun c o e => sr.keep c o (hk c o e), ?_, fun c o e => sr.disj c o (hk c o e)⟩
  · rcases seg b k hb with ⟨g1, g2⟩ | ⟨u, g1, g2, g3, rfl, rfl⟩
    · obtain ⟨p, o, e1, e2, e3, e4, e5⟩ := sr.live b k g2
      refine ⟨p, o, to_below (by omega) (below_of e1).2, e2, ABlk.rel_mono (below_mono hle) e3, ?_, e5⟩
      cases e : E2.keep p.block with
      | none => rfl
      | some o' => rw [hk _ _ e] at e4; cases e4
    · obtain ⟨pl, o, i, e1, e2, e3, e4, e5, e6⟩ := made u g1 g2 g3
      refine ⟨pl, o, to_below e6 e3, sr.keep _ _ e4, ?_, hk2 u pl g1 g2 g3 e3, sr.disj _ _ e4⟩
      unfold BlkIs at e5
      by_cases hl : R.lit u = true
      · rw [if_pos hl] at e5 ⊢
        obtain ⟨xs, x1, x2, ents, rfl, x3⟩ := e5
        have hxr : ∀ x ∈ xs, x < r := by
          intro x hx
          obtain ⟨t, _⟩ := (x2 x).1 hx
          obtain ⟨c1, c2, c3, c4, c5, c6, c7⟩ := C.tg_lt t
          rcases hend with rfl | ha
          · exact c2
          · rcases Nat.lt_trichotomy x r with h | h | h
            · exact h
            · subst h; rw [ha] at c5; cases c5
            · have := c7 r (by omega) h
              rw [ha] at this; cases this
        have hm := lrels_of_mrels (x3 (R.st r).nx fun x hx => hg.le (Nat.le_of_lt (hxr x hx)) h2)
        rw [stamp_map] at hm
        have hp : xs.Perm ((List.range r).filter (fun x => R.tg x == some u)) := by
          rw [List.perm_ext_iff_of_nodup x1 (List.nodup_range.filter _)]
          intro x
          rw [x2 x, List.mem_filter, List.mem_range, beq_iff_eq]
          constructor
          · rintro ⟨t, i', hi', hL'⟩
            exact ⟨hxr x ((x2 x).2 ⟨t, i', hi', hL'⟩), t⟩
          · rintro ⟨hx, t⟩
            obtain ⟨c1, c2, _⟩ := C.tg_lt t
            obtain ⟨i', o', hi', ho'⟩ := C.at c2
            exact ⟨t, i', hi', hall x i' (by omega) hx hi'⟩
        obtain ⟨l', p1, p2⟩ := lrels_perm (hp.map fun x => (R.kx x, R.vx x)) hm
        exact ⟨ents, xs.length, l', rfl, p1, p2⟩
      · rw [if_neg hl] at e5 ⊢
        have := (C.mk_nx g3).1
        have := hg.le (q := u + 1) (r := r) (by omega) h2
        exact ABlk.rel_mono (below_mono (by omega)) e5
  · obtain ⟨_, hp⟩ := below_of hp
    obtain ⟨_, hp'⟩ := below_of hp'
    rcases seg b k hb with ⟨g1, g2⟩ | ⟨u, g1, g2, g3, rfl, rfl⟩ <;> rcases seg b' k' hb' with ⟨g1', g2'⟩ | ⟨u', g1', g2', g3', rfl, rfl⟩
    · exact sr.inj b b' _ _ p p' g2 g2' (to_below g1 hp) (to_below g1' hp') hbb
    · obtain ⟨pl, o, i, e1, e2, e3, e4, e5, e6⟩ := made u' g1' g2' g3'
      rw [hp'] at e3; cases e3
      obtain ⟨p1, o1, f1, f2, f3, f4, f5⟩ := sr.live b _ g2
      have := (below_of f1).2
      rw [hp] at this; cases this
      rw [hbb, e4] at f4; cases f4
    · obtain ⟨pl, o, i, e1, e2, e3, e4, e5, e6⟩ := made u g1 g2 g3
      rw [hp] at e3; cases e3
      obtain ⟨p1, o1, f1, f2, f3, f4, f5⟩ := sr.live b' _ g2'
      have := (below_of f1).2
      rw [hp'] at this; cases this
      rw [← hbb, e4] at f4; cases f4
    · obtain ⟨pl, o, i, e1, e2, e3, e4, e5, e6⟩ := made u g1 g2 g3
      obtain ⟨pl', o', i', e1', e2', e3', e4', e5', e6'⟩ := made u' g1' g2' g3'
      have := I.inj u u' i i' p p' g1 e1 e2 g3 g1' e1' e2' g3' hp hp' hbb
      rw [this]
  · rw [hw0, ← I.w0]; exact sr.bel

/-- What an operation looks at stands so. -/
theorem DInv.view (C : Cert P f rd ops dep π R s) (I : DInv P ops π R s E ρ0 Z0 a0 E' ρ Z q0 L a w) (hc : ClD dep L) {q i : Nat} {o : Oper} (hi : π[q]? = some i) (ho : ops[i]? = some o) (hb : ∀ j, dep i j → L j = true) (hl : L i = false)
    {t : Nat} (ht : t ∈ o.looksAt ops) {x : AV} (hx : (R.cur q)[t]? = some x) : ∃ cv, a.tmps[t]? = some cv ∧ x.rel (ρ.below (R.st q).nx) Z cv := by
  have hg : Grows R π.length := C.grows
  have hq : q < π.length := by
    rcases Nat.lt_or_ge q π.length with h | h
    · exact h
    · rw [List.getElem?_eq_none h] at hi; cases hi
  rcases (C.cur_at q (by omega)).2 t with ⟨u, j, o', h1, h2, h3, h4, h5, h6⟩ | ⟨h1, h2⟩
  · rw [hx] at h6; cases h6
    have hd := (C.looks q u i j o o' t hi h2 ho h3 ht h4).1 h1
    have hL := hb j hd
    obtain ⟨cv, e1, e2⟩ := I.tset u j o' t h2 h3 h4 h5 hL
    exact ⟨cv, e1, AV.rel_mono (below_mono (hg.le (by omega) (by omega))) _ _ e2⟩
  · rw [hx] at h2
    have hlen : t < s.tmps.length := by
      rcases Nat.lt_or_ge t s.tmps.length with h | h
      · exact h
      · rw [List.getElem?_eq_none h] at h2; cases h2
    obtain ⟨cv, e1, e2⟩ := I.told t x h2.symm (fun u j o' hj ho' hd => by
      cases hLj : L j with
      | false => rfl
      | true =>
        exfalso
        rcases Nat.lt_trichotomy u q with h | h | h
        · rcases h1 u j o' h hj ho' with h | h
          · exact h hd
          · omega
        · subst h; rw [hi] at hj; cases hj; rw [hl] at hLj; cases hLj
        · have hdp := (C.looks q u i j o o' t hi hj ho ho' ht hd).2 h
          have := hc j i hLj hdp
          rw [hl] at this; cases this)
    exact ⟨cv, e1, AV.rel_mono (below_mono (hg.le (by omega) (by omega))) _ _ e2⟩

theorem DInv.evals (C : Cert P f rd ops dep π R s) (I : DInv P ops π R s E ρ0 Z0 a0 E' ρ Z q0 L a w) (hc : ClD dep L) {q i : Nat} {o : Oper} (hi : π[q]? = some i) (ho : ops[i]? = some o) (hb : ∀ j, dep i j → L j = true) (hl : L i = false)
    (x : Operand) (hx : x ∈ o.op.operands.toList) : (aev (R.cur q) x).rel (ρ.below (R.st q).nx) Z (a.eval x) := by
  cases x with
  | tmp t =>
    simp only [aev, Act.eval]
    cases ht : (R.cur q)[t]? with
    | none => simp [ht, AV.rel]
    | some v =>
      obtain ⟨cv, h1, h2⟩ := I.view C hc hi ho hb hl (t := t) (by
        simp only [Oper.looksAt, List.mem_append, List.mem_filterMap]
        exact Or.inl ⟨.tmp t, hx, rfl⟩) ht
      simpa [ht, h1] using h2
  | const v => exact aconst_rel v
  | global g => simp [aev, AV.rel]
  | func f => simp only [aev, Act.eval, AV.rel]; exact ⟨by simp, _, _, rfl, by simp [AV.rels], by simp [AV.rels]⟩

theorem DInv.wanted (C : Cert P f rd ops dep π R s) (I : DInv P ops π R s E ρ0 Z0 a0 E' ρ Z q0 L a w) (hc : ClD dep L) {q i : Nat} {o : Oper} (hi : π[q]? = some i) (ho : ops[i]? = some o) (hb : ∀ j, dep i j → L j = true) (hl : L i = false)
    {t : Bool} (hw : awanted ops (R.cur q) o = some t) : Region.wanted o (yielded ops a.tmps) = t := by
  unfold awanted at hw
  unfold Region.wanted
  cases hg : o.guard with
  | none => simp [hg] at hw; simp [hw]
  | some jw =>
    obtain ⟨j, want⟩ := jw
    simp only [hg] at hw ⊢
    unfold yielded
    cases hd : (ops[j]?).bind (·.dst) with
    | none => simp [hd] at hw; simp [hw]
    | some d =>
      simp only [hd] at hw
      simp only [Option.bind_some]
      have hlook : d ∈ o.looksAt ops := by
        simp only [Oper.looksAt, List.mem_append, hg, hd]
        exact Or.inr (by simp)
      split at hw <;> try (cases hw; done)
      · rename_i b ht
        obtain ⟨u, hu, hr⟩ := I.view C hc hi ho hb hl hlook ht
        simp only [AV.rel] at hr
        subst hr
        simp at hw
        simp [hu, ← hw]
      · rename_i ht
        obtain ⟨u, hu, hr⟩ := I.view C hc hi ho hb hl hlook ht
        simp only [AV.rel] at hr
        obtain ⟨qq, rfl, _⟩ := hr
        simp at hw
        simp [hu, ← hw]
end
end Go.Am

/- Regions whose order is drawn: each operation at whatever time. -/
namespace Go.Am
open Go.RowKit

variable {σ : Type} [Hp σ]

section
variable {P : Program} {f : FuncId} {rd : Bool} {ops : Array Oper} {dep : Nat → Nat → Prop} {π : List Nat} {R : Run σ} {s : FS σ}
variable {E : Env} {ρ0 : Names} {Z0 : Frozen} {a0 : Act} {E' : Env} {ρ : Names} {Z : Frozen} {q0 : Nat} {L : Nat → Bool} {a : Act} {w : World}

/-- One more is listed. -/
def more (L : Nat → Bool) (i : Nat) : Nat → Bool := fun j => if j = i then true else L j

theorem more_self (L : Nat → Bool) (i : Nat) : more L i i = true := by simp [more]
theorem more_of (L : Nat → Bool) {i j : Nat} (h : L j = true) : more L i j = true := by simp only [more]; split <;> simp_all
theorem more_ne (L : Nat → Bool) {i j : Nat} (h : j ≠ i) : more L i j = L j := by simp [more, h]

theorem below_some {ρ : Names} {n b : Nat} {p : Pl} : (ρ.below n) b = some p ↔ b < n ∧ ρ b = some p := by
  simp only [Names.below]
  by_cases hb : b < n <;> simp [hb]

theorem put_tmps_self {a : Act} {d : Tmp} {cv : Value} (h : d < a.tmps.size) : (a.put (some d) cv).tmps[d]? = some cv := by
  simp [Act.put, h]
theorem put_tmps_ne {a : Act} {dst : Option Tmp} {d : Nat} {cv : Value} (h : dst ≠ some d) : (a.put dst cv).tmps[d]? = a.tmps[d]? := by
  cases dst with
  | none => rfl
  | some e =>
    have : e ≠ d := fun h' => h (by rw [h'])
    simp [Act.put, Array.getElem?_setIfInBounds, this]
theorem put_tmps_size {a : Act} {dst : Option Tmp} {cv : Value} : (a.put dst cv).tmps.size = a.tmps.size := by
  cases dst <;> simp [Act.put]

/-- An operation has run: the temporaries. -/
theorem DInv.next (C : Cert P f rd ops dep π R s) (I : DInv P ops π R s E ρ0 Z0 a0 E' ρ Z q0 L a w) {q i : Nat} {o : Oper} (hi : π[q]? = some i) (ho : ops[i]? = some o) (hl : L i = false)
    {E1 : Env} {ρ1 : Names} {Z1 : Frozen} {w1 : World} {cv : Value} {q1 : Nat} (hext : ∀ c p, ρ c = some p → ρ1 c = some p) (hz : ∀ c o, Z c = some o → Z1 c = some o)
    (hw0 : E1.w0 = E.w0) (hkE : ∀ c o, E.keep c = some o → E1.keep c = some o) (base : R.base q1) (q1n : q1 ≤ π.length)
    (done : ∀ (q' i' : Nat), q' < q1 → π[q']? = some i' → more L i i' = true) (todo : ∀ (r i' : Nat), q1 ≤ r → R.anch r = true → π[r]? = some i' → more L i i' = false)
    (sr : SR E1 (ρ1.below (R.st q1).nx) Z1 (R.st q1) w1) (ext : Ext ρ0 Z0 (ρ1.below (R.st q1).nx) Z1)
    (dom : ∀ c p, ρ1 c = some p → c < (R.st q1).nx ∨ ∃ u i' : Nat, q1 ≤ u ∧ π[u]? = some i' ∧ more L i i' = true ∧ R.made u = true ∧ c = (R.st u).nx)
    (mks : ∀ (u i' : Nat), q1 ≤ u → π[u]? = some i' → more L i i' = true → R.made u = true → ∃ pl ob, ρ1 (R.st u).nx = some pl ∧ E1.keep pl.block = some ob ∧ E.keep pl.block = none ∧ BlkIs R π u (more L i) ρ1 Z1 pl ob)
    (inj : ∀ (u u' i' i'' : Nat) (pl pl' : Pl), q1 ≤ u → π[u]? = some i' → more L i i' = true → R.made u = true → q1 ≤ u' → π[u']? = some i'' → more L i i'' = true → R.made u' = true →
      ρ1 (R.st u).nx = some pl → ρ1 (R.st u').nx = some pl' → pl.block = pl'.block → u = u')
    (hv : (R.v q).rel (ρ1.below (R.st (q + 1)).nx) Z1 cv) :
    DInv P ops π R s E ρ0 Z0 a0 E1 ρ1 Z1 q1 (more L i) (a.put o.dst cv) w1 := by
  have hx : ∀ n, Ext (ρ.below n) Z (ρ1.below n) Z1 := fun n => ext_below (Nat.le_refl _) (fun b p _ e => hext b p e) hz
  refine ⟨hw0, hkE, base, q1n, done, todo, sr, ext, dom, mks, inj, by rw [put_tmps_size]; exact I.size, by rw [put_defers]; exact I.defs, ?_, ?_⟩
  · intro u j o' d hj ho' hd hlt hL
    by_cases hji : j = i
    · subst hji
      have := C.nodup _ _ _ hi hj
      subst this
      rw [ho] at ho'; cases ho'
      rw [hd]
      exact ⟨cv, put_tmps_self (by rw [I.size]; exact hlt), hv⟩
    · rw [more_ne L hji] at hL
      obtain ⟨c, e1, e2⟩ := I.tset u j o' d hj ho' hd hlt hL
      refine ⟨c, ?_, AV.rel_mono (hx _) _ _ e2⟩
      rw [put_tmps_ne, e1]
      intro hd'
      have := C.dst q u i j o o' d hi hj ho ho' hd' hd
      subst this
      rw [hi] at hj; cases hj
      exact hji rfl
  · intro d x hdx hnone
    obtain ⟨c, e1, e2⟩ := I.told d x hdx (fun u j o' hj ho' hd => by
      have := hnone u j o' hj ho' hd
      by_cases hji : j = i
      · subst hji; exact hl
      · rwa [more_ne L hji] at this)
    refine ⟨c, ?_, AV.rel_mono (hx _) _ _ e2⟩
    rw [put_tmps_ne, e1]
    intro hd'
    have := hnone q i o hi ho hd'
    rw [more_self] at this; cases this

/-- What is made already looks as before if nothing is put into it. -/
theorem BlkIs.same (C : Cert P f rd ops dep π R s) {q i u : Nat} (hi : π[q]? = some i) (ht : R.tg q ≠ some u) {ρ1 : Names} {Z1 : Frozen} (hext : ∀ c p, ρ c = some p → ρ1 c = some p) (hz : ∀ c o, Z c = some o → Z1 c = some o)
    {pl : Pl} {ob : Obj} (h : BlkIs R π u L ρ Z pl ob) : BlkIs R π u (more L i) ρ1 Z1 pl ob := by
  have hx : ∀ n, Ext (ρ.below n) Z (ρ1.below n) Z1 := fun n => ext_below (Nat.le_refl _) (fun b p _ e => hext b p e) hz
  unfold BlkIs at h ⊢
  by_cases hl : R.lit u = true
  · rw [if_pos hl] at h ⊢
    obtain ⟨xs, x1, x2, ents, x3, x4⟩ := h
    refine ⟨xs, x1, fun x => ?_, ents, x3, fun N hN => mrels_mono (hx N) (x4 N hN)⟩
    rw [x2 x]
    constructor
    · rintro ⟨t, j, hj, hL⟩; exact ⟨t, j, hj, more_of L hL⟩
    · rintro ⟨t, j, hj, hL⟩
      refine ⟨t, j, hj, ?_⟩
      by_cases hji : j = i
      · subst hji
        have := C.nodup _ _ _ hi hj
        subst this
        exact absurd t ht
      · rwa [more_ne L hji] at hL
  · rw [if_neg hl] at h ⊢
    exact ABlk.rel_mono (hx _) h

/-- Where an operation that has not run yet stands. -/
theorem DInv.behind (I : DInv P ops π R s E ρ0 Z0 a0 E' ρ Z q0 L a w) {q i : Nat} (hi : π[q]? = some i) (hl : L i = false) : q0 ≤ q := by
  rcases Nat.lt_or_ge q q0 with h | h
  · have := I.done q i h hi; rw [hl] at this; cases this
  · exact h

/-- One more is listed and no block of those made ahead is touched. -/
theorem DInv.float (C : Cert P f rd ops dep π R s) (I : DInv P ops π R s E ρ0 Z0 a0 E' ρ Z q0 L a w) {q i : Nat} {o : Oper} (hi : π[q]? = some i) (ho : ops[i]? = some o) (hl : L i = false)
    (ha : R.anch q = false) (hm : R.made q = false) (ht : R.tg q = none) {cv : Value} (hv : (R.v q).rel (ρ.below (R.st (q + 1)).nx) Z cv) :
    DInv P ops π R s E ρ0 Z0 a0 E' ρ Z q0 (more L i) (a.put o.dst cv) w := by
  have old : ∀ {u j : Nat}, π[u]? = some j → more L i j = true → R.made u = true → L j = true := by
    intro u j hj hL hmu
    by_cases hji : j = i
    · subst hji
      have := C.nodup _ _ _ hi hj
      subst this
      rw [hm] at hmu; cases hmu
    · rwa [more_ne L hji] at hL
  refine I.next C hi ho hl (fun _ _ e => e) (fun _ _ e => e) I.w0 I.keepE I.base I.q0n (fun q' i' h1 h2 => more_of L (I.done q' i' h1 h2)) ?_ I.sr I.ext ?_ ?_ ?_ hv
  · intro r j h1 h2 hj
    have := I.todo r j h1 h2 hj
    by_cases hji : j = i
    · subst hji
      have := C.nodup _ _ _ hi hj
      subst this
      rw [ha] at h2; cases h2
    · rwa [more_ne L hji]
  · intro c p e
    rcases I.dom c p e with h | ⟨u, j, h1, h2, h3, h4⟩
    · exact Or.inl h
    · exact Or.inr ⟨u, j, h1, h2, more_of L h3, h4⟩
  · intro u j h1 hj hL hmu
    obtain ⟨pl, ob, e1, e2, e3, e4⟩ := I.mks u j h1 hj (old hj hL hmu) hmu
    exact ⟨pl, ob, e1, e2, e3, e4.same C hi (by rw [ht]; simp) (fun _ _ e => e) (fun _ _ e => e)⟩
  · intro u u' j j' pl pl' h1 hj hL hmu h1' hj' hL' hmu'
    exact I.inj u u' j j' pl pl' h1 hj (old hj hL hmu) hmu h1' hj' (old hj' hL' hmu') hmu'

/-- Names below a bound, the block names behind are not counted. -/
theorem DInv.srAt (I : DInv P ops π R s E ρ0 Z0 a0 E' ρ Z q0 L a w) {n : Nat} (hn : (R.st q0).nx ≤ n) : SR E' (ρ.below n) Z (⟨(R.st q0).H, n⟩ : St σ) w := by
  have sr := I.sr
  refine ⟨fun b k hb => ?_, fun b b' k k' p p' hb hb' hp hp' => ?_, fun b p e => (below_some.1 e).1, sr.frozen, sr.keep, sr.bel, sr.disj⟩
  · obtain ⟨p, o, e1, e2, e3, e4⟩ := sr.live b k hb
    obtain ⟨e5, e6⟩ := below_some.1 e1
    exact ⟨p, o, below_some.2 ⟨by omega, e6⟩, e2, ABlk.rel_mono (below_mono hn) e3, e4⟩
  · obtain ⟨q1, o, e1, _⟩ := sr.live b k hb
    obtain ⟨q2, o', e1', _⟩ := sr.live b' k' hb'
    have h1 := (below_some.1 e1).2
    have h2 := (below_some.1 hp).2
    rw [h1] at h2; cases h2
    have h1' := (below_some.1 e1').2
    have h2' := (below_some.1 hp').2
    rw [h1'] at h2'; cases h2'
    exact sr.inj b b' k k' _ _ hb hb' e1 e1'

open Classical in
/-- What an operation sees: only what it looks at. -/
noncomputable def seen (o : Oper) (ev : Operand → AV) : Operand → AV := fun x => if x ∈ o.op.operands.toList then ev x else .junk
theorem seen_eq {o : Oper} {ev : Operand → AV} {x : Operand} (h : x ∈ o.op.operands.toList) : ev x = seen o ev x := by simp only [seen, if_pos h]
theorem seen_rel {o : Oper} {ev : Operand → AV} {cv : Operand → Value} {ρ : Names} {Z : Frozen} (h : ∀ x ∈ o.op.operands.toList, (ev x).rel ρ Z (cv x)) (x : Operand) : (seen o ev x).rel ρ Z (cv x) := by
  unfold seen
  split
  · exact h x (by assumption)
  · simp [AV.rel]

theorem below_put {ρ : Names} {n : Nat} {pl : Pl} : (Names.put ρ n pl).below (n + 1) = (ρ.below n).put n pl := by
  funext c
  simp only [Names.below, Names.put]
  by_cases h1 : c = n
  · subst h1; simp
  · by_cases h2 : c < n
    · simp [h1, h2, Nat.lt_succ_of_lt h2]
    · have : ¬ c < n + 1 := by omega
      simp [h1, h2, this]
theorem below_put_le {ρ : Names} {n m : Nat} {pl : Pl} (h : m ≤ n) : (Names.put ρ n pl).below m = ρ.below m := by
  funext c
  simp only [Names.below, Names.put]
  by_cases h1 : c < m
  · have : c ≠ n := by omega
    simp [h1, this]
  · simp [h1]

/-- A block is made. -/
theorem DInv.make (C : Cert P f rd ops dep π R s) (I : DInv P ops π R s E ρ0 Z0 a0 E' ρ Z q0 L a w) (hc : ClD dep L) {q i : Nat} {o : Oper} (hi : π[q]? = some i) (ho : ops[i]? = some o) (hb : ∀ j, dep i j → L j = true) (hl : L i = false)
    (ha : R.anch q = false) (hm : R.made q = true) (ht : R.tg q = none) (hlit : R.lit q = true → R.blk q = .map [] 0) (hs : (R.st (q + 1)).nx = (R.st q).nx + 1)
    (hv : amk P (aev (R.cur q)) o (R.st q).nx = some (R.v q, R.blk q)) :
    ∃ n cv ob E1 ρ1, (execOp a.eval o).run P w = .ok n (w.alloc ob) ∧ nval n = some cv ∧ DInv P ops π R s E ρ0 Z0 a0 E1 ρ1 Z q0 (more L i) (a.put o.dst cv) (w.alloc ob) := by
  have hg : Grows R π.length := C.grows
  have hq0 := I.behind hi hl
  have hqn := (C.mk_nx hm).2.1
  have hle : (R.st q0).nx ≤ (R.st q).nx := hg.le hq0 (by omega)
  have he := I.evals C hc hi ho hb hl
  have hn : (ρ.below (R.st q).nx) (R.st q).nx = none := by simp [Names.below]
  rw [amk_congr fun x hx => seen_eq hx] at hv
  obtain ⟨cv, ob, base, top, g1, g2, g3⟩ := mk_sound (w := w) (Z := Z) hn (seen_rel he) hv
  rw [← below_put] at g2 g3
  -- the name was free
  have hfree : ∀ p, ρ (R.st q).nx ≠ some p := by
    intro p e
    rcases I.dom _ _ e with h | ⟨u, j, h1, h2, h3, h4, h5⟩
    · omega
    · have := C.mk_inj hg hm h4 h5
      subst this
      rw [hi] at h2; cases h2
      rw [hl] at h3; cases h3
  have hext : ∀ c p, ρ c = some p → (Names.put ρ (R.st q).nx ⟨w.heap.size, base, top⟩) c = some p := by
    intro c p e
    have : c ≠ (R.st q).nx := by intro h; subst h; exact hfree p e
    simp [Names.put, this, e]
  have old : ∀ {u j : Nat}, π[u]? = some j → more L i j = true → u ≠ q → L j = true := by
    intro u j hj hL hne
    by_cases hji : j = i
    · subst hji
      exact absurd (C.nodup _ _ _ hi hj).symm hne
    · rwa [more_ne L hji] at hL
  have hkeeplt : ∀ c o', E'.keep c = some o' → c < w.heap.size := fun c o' e => heap_lt (I.sr.keep c o' e)
  have nameOld : ∀ u, R.made u = true → u ≠ q → (Names.put ρ (R.st q).nx ⟨w.heap.size, base, top⟩) (R.st u).nx = ρ (R.st u).nx := by
    intro u hmu hne
    have : (R.st u).nx ≠ (R.st q).nx := fun h => hne (C.mk_inj hg hmu hm h)
    simp [Names.put, this]
  refine ⟨.value cv, cv, ob, ⟨fun c => if c = w.heap.size then some ob else E'.keep c, E'.w0⟩, Names.put ρ (R.st q).nx ⟨w.heap.size, base, top⟩, g1, rfl, ?_⟩
  refine I.next C hi ho hl hext (fun _ _ e => e) I.w0 ?_ I.base I.q0n (fun q' i' h1 h2 => more_of L (I.done q' i' h1 h2)) ?_ ?_ ?_ ?_ ?_ ?_ ?_
  · intro c o' e
    have := hkeeplt _ _ (I.keepE _ _ e)
    show (if c = w.heap.size then some ob else E'.keep c) = some o'
    rw [if_neg (by omega)]
    exact I.keepE _ _ e
  · intro r j h1 h2 hj
    have := I.todo r j h1 h2 hj
    by_cases hji : j = i
    · subst hji
      have := C.nodup _ _ _ hi hj
      subst this
      rw [ha] at h2; cases h2
    · rwa [more_ne L hji]
  · rw [below_put_le hle]
    have sr := I.sr
    refine ⟨fun b k e => ?_, sr.inj, sr.dom, fun c o' e => heap_alloc_old (sr.frozen c o' e), fun c o' e => ?_, sr.bel.trans ((Below.refl 0 w).alloc (Nat.zero_le _) ob), fun c o' e => ?_⟩
    · obtain ⟨p, o', e1, e2, e3, e4, e5⟩ := sr.live b k e
      refine ⟨p, o', e1, heap_alloc_old e2, e3, ?_, e5⟩
      have := heap_lt e2
      show (if p.block = w.heap.size then some ob else E'.keep p.block) = none
      rw [if_neg (by omega)]
      exact e4
    · have e : (if c = w.heap.size then some ob else E'.keep c) = some o' := e
      by_cases hcs : c = w.heap.size
      · rw [if_pos hcs] at e; cases e
        rw [hcs]; exact heap_alloc_new
      · rw [if_neg hcs] at e
        exact heap_alloc_old (sr.keep c o' e)
    · have e : (if c = w.heap.size then some ob else E'.keep c) = some o' := e
      by_cases hcs : c = w.heap.size
      · cases ez : Z c with
        | none => rfl
        | some oz => have := heap_lt (sr.frozen _ _ ez); omega
      · rw [if_neg hcs] at e
        exact sr.disj c o' e
  · rw [below_put_le hle]; exact I.ext
  · intro c p e
    by_cases hcn : c = (R.st q).nx
    · exact Or.inr ⟨q, i, hq0, hi, more_self L i, hm, hcn⟩
    · have e' : ρ c = some p := by simpa [Names.put, hcn] using e
      rcases I.dom c p e' with h | ⟨u, j, h1, h2, h3, h4⟩
      · exact Or.inl h
      · exact Or.inr ⟨u, j, h1, h2, more_of L h3, h4⟩
  · intro u j h1 hj hL hmu
    by_cases huq : u = q
    · subst huq
      rw [hi] at hj; cases hj
      refine ⟨⟨w.heap.size, base, top⟩, ob, by simp [Names.put], by simp, ?_, ?_⟩
      · cases e : E.keep w.heap.size with
        | none => rfl
        | some o' => have := hkeeplt _ _ (I.keepE _ _ e); omega
      · unfold BlkIs
        by_cases hlq : R.lit u = true
        · rw [if_pos hlq]
          refine ⟨[], List.nodup_nil, fun x => ⟨fun h => absurd h (List.not_mem_nil), ?_⟩, ?_⟩
          · rintro ⟨t, j, hj, hLj⟩
            exfalso
            obtain ⟨c1, c2, c3, c4, c5, c6, c7⟩ := C.tg_lt t
            obtain ⟨j', o', hj', ho'⟩ := C.at c2
            rw [hj] at hj'; cases hj'
            have hL' := old hj hLj (by omega)
            cases C.what x j o' hj ho' with
            | skip _ a m t' s v => rw [t] at t'; cases t'
            | quiet _ a m t' s v => rw [t] at t'; cases t'
            | make _ a m t' s l v => rw [t] at t'; cases t'
            | insert _ a m u' t' hu hm' hl' ha' hdep ty kt e om ok ov hop hty h1 h2 h3 hk hd s v =>
              rw [t] at t'; cases t'
              have := hc j _ hL' (hdep _ hi)
              rw [hl] at this; cases this
            | anchor _ a m t' v => rw [t] at t'; cases t'
          · rw [hlit hlq] at g2
            obtain ⟨ents, e1, e2⟩ := g2
            simp only [mrels] at e2
            refine ⟨ents, by simpa using e1, fun N _ => ?_⟩
            rw [e2]
            simp [Run.stamp, mrels]
        · rw [if_neg hlq]
          exact g2
    · obtain ⟨pl, ob', e1, e2, e3, e4⟩ := I.mks u j h1 hj (old hj hL huq) hmu
      have := hkeeplt _ _ e2
      refine ⟨pl, ob', by rw [nameOld u hmu huq]; exact e1, ?_, e3, e4.same C hi (by rw [ht]; simp) hext (fun _ _ e => e)⟩
      show (if pl.block = w.heap.size then some ob else E'.keep pl.block) = some ob'
      rw [if_neg (by omega)]
      exact e2
  · intro u u' j j' pl pl' h1 hj hL hmu h1' hj' hL' hmu' hp hp' hbb
    by_cases huq : u = q <;> by_cases huq' : u' = q
    · rw [huq, huq']
    · exfalso
      subst huq
      simp [Names.put] at hp
      rw [nameOld u' hmu' huq'] at hp'
      obtain ⟨pl2, ob', e1, e2, e3, e4⟩ := I.mks u' j' h1' hj' (old hj' hL' huq') hmu'
      rw [hp'] at e1; cases e1
      have := hkeeplt _ _ e2
      rw [← hbb, ← hp] at this
      simp at this
    · exfalso
      subst huq'
      simp [Names.put] at hp'
      rw [nameOld u hmu huq] at hp
      obtain ⟨pl2, ob', e1, e2, e3, e4⟩ := I.mks u j h1 hj (old hj hL huq) hmu
      rw [hp] at e1; cases e1
      have := hkeeplt _ _ e2
      rw [hbb, ← hp'] at this
      simp at this
    · rw [nameOld u hmu huq] at hp
      rw [nameOld u' hmu' huq'] at hp'
      exact I.inj u u' j j' pl pl' h1 hj (old hj hL huq) hmu h1' hj' (old hj' hL' huq') hmu' hp hp' hbb
  · rw [hs]; exact g3
end
end Go.Am

/- Regions whose order is drawn: inserts, anchors, the theorem. -/
namespace Go.Am
open Go.RowKit

variable {σ : Type} [Hp σ]

theorem afind_none {P : Program} {kt : TypeId} {k : AV} : ∀ {es : List (AV × AV × Nat)}, (∀ p ∈ es, aeq P 10000 kt k p.1 = some false) → afind P kt k es = some none
  | [], _ => rfl
  | (k', v, n) :: es, h => by
    simp only [afind, h (k', v, n) (by simp), afind_none (es := es) fun p hp => h p (by simp [hp])]
    rfl

theorem stamp_append (R : Run σ) (xs : List Nat) (q : Nat) : R.stamp (xs ++ [q]) = R.stamp xs ++ [(R.kx q, R.vx q, xs.length)] := by
  simp [Run.stamp, List.zipIdx_append]
theorem stamp_keys {R : Run σ} {xs : List Nat} {p : AV × AV × Nat} (h : p ∈ R.stamp xs) : ∃ x ∈ xs, p.1 = R.kx x := by
  simp only [Run.stamp, List.mem_map] at h
  obtain ⟨⟨x, n⟩, hx, rfl⟩ := h
  exact ⟨x, (List.mem_zipIdx hx).2.2 ▸ by simp, rfl⟩

section
variable {P : Program} {f : FuncId} {rd : Bool} {ops : Array Oper} {dep : Nat → Nat → Prop} {π : List Nat} {R : Run σ} {s : FS σ}
variable {E : Env} {ρ0 : Names} {Z0 : Frozen} {a0 : Act} {E' : Env} {ρ : Names} {Z : Frozen} {q0 : Nat} {L : Nat → Bool} {a : Act} {w : World}

/-- Something is put into a literal map. -/
theorem DInv.insert (C : Cert P f rd ops dep π R s) (I : DInv P ops π R s E ρ0 Z0 a0 E' ρ Z q0 L a w) (hc : ClD dep L) {q i : Nat} {o : Oper} (hi : π[q]? = some i) (ho : ops[i]? = some o) (hb : ∀ j, dep i j → L j = true) (hl : L i = false)
    (ha : R.anch q = false) (hm : R.made q = false) {u : Nat} (ht : R.tg q = some u) {ty kt e : TypeId} {om ok ov : Operand} (hop : o.op = .insert ty om ok ov) (hty : P.underlying ty = some (.map kt e))
    (h1 : aev (R.cur q) om = .map (R.st u).nx) (h2 : aev (R.cur q) ok = R.kx q) (h3 : aev (R.cur q) ov = R.vx q) (hdep : ∀ j : Nat, π[u]? = some j → dep i j)
    (hk : akey P 10000 kt (R.kx q) = true) (hd : ∀ x, x ≠ q → R.tg x = some u → aeq P 10000 kt (R.kx q) (R.kx x) = some false) (hv : R.v q = .tuple []) :
    ∃ n w1 E1, (execOp a.eval o).run P w = .ok n w1 ∧ nval n = some undef ∧ DInv P ops π R s E ρ0 Z0 a0 E1 ρ Z q0 (more L i) (a.put o.dst undef) w1 := by
  have hg : Grows R π.length := C.grows
  have hq0 := I.behind hi hl
  obtain ⟨c1, c2, c3, c4, c5, c6, c7⟩ := C.tg_lt ht
  obtain ⟨ju, ou, hju, hou⟩ := C.at (q := u) (by omega)
  have hLu : L ju = true := hb ju (hdep ju hju)
  have hu0 : q0 ≤ u := by
    rcases I.base with rfl | ⟨y, rfl, hy⟩
    · omega
    · rcases Nat.lt_or_ge u (y + 1) with h | h
      · have := c7 y (by omega) (by omega)
        rw [hy] at this; cases this
      · exact h
  obtain ⟨pl, ob, e1, e2, e3, e4⟩ := I.mks u ju hu0 hju hLu c3
  have e4' := e4
  unfold BlkIs at e4
  rw [if_pos c4] at e4
  obtain ⟨xs, x1, x2, ents, rfl, x4⟩ := e4
  have hqx : q ∉ xs := by
    intro h
    obtain ⟨_, j, hj, hLj⟩ := (x2 q).1 h
    rw [hi] at hj; cases hj
    rw [hl] at hLj; cases hLj
  have hnu : (R.st u).nx < (R.st q).nx := by
    have := (C.mk_nx c3).1
    have := hg.le (q := u + 1) (r := q) (by omega) (by omega)
    omega
  have he := I.evals C hc hi ho hb hl
  have hrm := he om (by rw [hop]; simp [Op.operands])
  have hrk := he ok (by rw [hop]; simp [Op.operands])
  have hrv := he ov (by rw [hop]; simp [Op.operands])
  rw [h1] at hrm; rw [h2] at hrk; rw [h3] at hrv
  have hxle : ∀ n, (R.st q).nx ≤ n → ∀ x ∈ xs, (R.st x).nx ≤ (R.st π.length).nx := fun n _ x hx => hg.le (Nat.le_of_lt (C.tg_lt ((x2 x).1 hx).1).2.1) (Nat.le_refl _)
  let N := max (R.st q).nx (R.st π.length).nx
  have hNq : (R.st q).nx ≤ N := Nat.le_max_left _ _
  have hNx : ∀ x ∈ xs, (R.st x).nx ≤ N := fun x hx => Nat.le_trans (hxle _ (Nat.le_refl _) x hx) (Nat.le_max_right _ _)
  -- a world in which only the map counts
  let E2 : Env := ⟨fun c => match Z c with | none => if c = pl.block then none else w.heap[c]? | some _ => none, w⟩
  have hZ : Z pl.block = none := I.sr.disj _ _ e2
  have hwpl : w.heap[pl.block]? = some (.map ents xs.length) := I.sr.keep _ _ e2
  have hE2 : ∀ c o', E2.keep c = some o' → Z c = none ∧ c ≠ pl.block ∧ w.heap[c]? = some o' := by
    intro c o' h
    simp only [E2] at h
    split at h <;> try (cases h; done)
    rename_i hz
    split at h <;> try (cases h; done)
    rename_i hne
    exact ⟨hz, hne, h⟩
  have hsr : SR E2 (ρ.below N) Z (⟨Heap.put (fun _ => none) (R.st u).nx (some (.map (R.stamp xs) xs.length)), N⟩ : St Heap) w := by
    have get : ∀ b k, Heap.put (fun _ => none) (R.st u).nx (some (.map (R.stamp xs) xs.length)) b = some k → b = (R.st u).nx ∧ k = .map (R.stamp xs) xs.length := by
      intro b k h
      by_cases hbu : b = (R.st u).nx
      · subst hbu; simp at h; exact ⟨rfl, h.symm⟩
      · rw [Heap.put_other _ _ hbu] at h; cases h
    refine ⟨fun b k h => ?_, fun b b' k k' p p' h h' _ _ _ => ?_, fun b p h => (below_some.1 h).1, I.sr.frozen, fun c o' h => (hE2 c o' h).2.2, Below.refl 0 w, fun c o' h => (hE2 c o' h).1⟩
    · obtain ⟨rfl, rfl⟩ := get b k h
      refine ⟨pl, _, below_some.2 ⟨by omega, e1⟩, hwpl, ⟨ents, rfl, x4 N hNx⟩, ?_, hZ⟩
      simp [E2, hZ]
    · rw [(get b k h).1, (get b' k' h').1]
  have hNn : Ext (ρ.below (R.st q).nx) Z (ρ.below N) Z := below_mono hNq
  have hup : amapUpdate P (⟨Heap.put (fun _ => none) (R.st u).nx (some (.map (R.stamp xs) xs.length)), N⟩ : St Heap) ty (.map (R.st u).nx) (R.kx q) (R.vx q) =
      some ⟨Heap.put (Heap.put (fun _ => none) (R.st u).nx (some (.map (R.stamp xs) xs.length))) (R.st u).nx (some (.map (R.stamp xs ++ [(R.kx q, R.vx q, xs.length)]) (xs.length + 1))), N⟩ := by
    have hf : afind P kt (R.kx q) (R.stamp xs) = some none := afind_none fun p hp => by
      obtain ⟨x, hx, hpx⟩ := stamp_keys hp
      rw [hpx]
      exact hd x (by intro h; subst h; exact hqx hx) ((x2 x).1 hx).1
    unfold amapUpdate
    have hget : Hp.get (Heap.put (fun _ => none) (R.st u).nx (some (.map (R.stamp xs) xs.length))) (R.st u).nx = some (ABlk.map (R.stamp xs) xs.length) := by simp [Hp.get]
    simp only [hty, hget, hk, if_true, hf]
    rfl
  obtain ⟨w1, g1, g2, _⟩ := mapUpdate_sound (P := P) hsr (AV.rel_mono hNn _ _ hrm) (AV.rel_mono hNn _ _ hrk) (AV.rel_mono hNn _ _ hrv) hup
  -- what the map is now
  obtain ⟨p', ob', l1, l2, l3, l4, l5⟩ := g2.live (R.st u).nx (.map (R.stamp xs ++ [(R.kx q, R.vx q, xs.length)]) (xs.length + 1)) (by simp [Hp.get])
  have hp' : p' = pl := by
    have := (below_some.1 l1).2
    rw [e1] at this; cases this; rfl
  subst hp'
  obtain ⟨ents', rfl, l6⟩ := l3
  have hother : ∀ (c : Nat) (o' : Obj), c ≠ p'.block → w.heap[c]? = some o' → w1.heap[c]? = some o' := by
    intro c o' hne h
    cases hz : Z c with
    | none => exact g2.keep c o' (by simp [E2, hz, hne, h])
    | some oz =>
      have h4 := I.sr.frozen c oz hz
      rw [h] at h4; cases h4
      exact g2.frozen c _ hz
  have old : ∀ {u' j : Nat}, π[u']? = some j → more L i j = true → R.made u' = true → L j = true := by
    intro u' j hj hL hmu
    by_cases hji : j = i
    · subst hji
      have := C.nodup _ _ _ hi hj
      subst this
      rw [hm] at hmu; cases hmu
    · rwa [more_ne L hji] at hL
  refine ⟨.skip, w1, ⟨fun c => if c = p'.block then some (.map ents' (xs.length + 1)) else E'.keep c, E'.w0⟩, ?_, rfl, ?_⟩
  · simp [execOp, hop, g1]
  refine I.next C hi ho hl (fun _ _ e => e) (fun _ _ e => e) I.w0 ?_ I.base I.q0n (fun q' i' h1 h2 => more_of L (I.done q' i' h1 h2)) ?_ ?_ I.ext ?_ ?_ ?_ ?_
  · intro c o' h
    show (if c = p'.block then some _ else E'.keep c) = some o'
    rw [if_neg (by intro hcp; subst hcp; rw [e3] at h; cases h)]
    exact I.keepE _ _ h
  · intro r j h1 h2 hj
    have := I.todo r j h1 h2 hj
    by_cases hji : j = i
    · subst hji
      have := C.nodup _ _ _ hi hj
      subst this
      rw [ha] at h2; cases h2
    · rwa [more_ne L hji]
  · have sr := I.sr
    refine ⟨fun b k h => ?_, sr.inj, sr.dom, fun c o' h => ?_, fun c o' h => ?_, sr.bel.trans g2.bel, fun c o' h => ?_⟩
    · obtain ⟨p, o', a1, a2, a3, a4, a5⟩ := sr.live b k h
      have hne : p.block ≠ p'.block := by intro hh; rw [hh, e2] at a4; cases a4
      refine ⟨p, o', a1, hother _ _ hne a2, a3, ?_, a5⟩
      show (if p.block = p'.block then some _ else E'.keep p.block) = none
      rw [if_neg hne]; exact a4
    · exact hother c o' (by intro hh; subst hh; rw [hZ] at h; cases h) (sr.frozen c o' h)
    · have h : (if c = p'.block then some (.map ents' (xs.length + 1)) else E'.keep c) = some o' := h
      by_cases hcp : c = p'.block
      · rw [if_pos hcp] at h; cases h
        rw [hcp]; exact l2
      · rw [if_neg hcp] at h
        exact hother c o' hcp (sr.keep c o' h)
    · have h : (if c = p'.block then some (.map ents' (xs.length + 1)) else E'.keep c) = some o' := h
      by_cases hcp : c = p'.block
      · rw [hcp]; exact hZ
      · rw [if_neg hcp] at h; exact sr.disj c o' h
  · intro c p h
    rcases I.dom c p h with h | ⟨u', j, b1, b2, b3, b4⟩
    · exact Or.inl h
    · exact Or.inr ⟨u', j, b1, b2, more_of L b3, b4⟩
  · intro u' j hu' hj hL hmu
    have hLj := old hj hL hmu
    by_cases huu : u' = u
    · subst huu
      refine ⟨p', .map ents' (xs.length + 1), e1, by simp, e3, ?_⟩
      unfold BlkIs
      rw [if_pos c4]
      refine ⟨xs ++ [q], ?_, fun x => ?_, ents', by simp, fun N' hN' => ?_⟩
      · rw [List.nodup_append]
        exact ⟨x1, by simp, fun x hx y hy => by simp at hy; subst hy; intro h; subst h; exact hqx hx⟩
      · rw [List.mem_append, x2 x, List.mem_singleton]
        constructor
        · rintro (⟨t, j', hj', hL'⟩ | rfl)
          · exact ⟨t, j', hj', more_of L hL'⟩
          · exact ⟨ht, i, hi, more_self L i⟩
        · rintro ⟨t, j', hj', hL'⟩
          by_cases hji : j' = i
          · subst hji
            exact Or.inr (C.nodup _ _ _ hj' hi)
          · rw [more_ne L hji] at hL'
            exact Or.inl ⟨t, j', hj', hL'⟩
      · -- for whatever bound
        have b1 : mrels (ρ.below N') Z (R.stamp xs) ents.toList := x4 N' fun x hx => hN' x (by simp [hx])
        have hNq' : (R.st q).nx ≤ N' := hN' q (by simp)
        have hsr' : SR E2 (ρ.below N') Z (⟨Heap.put (fun _ => none) (R.st u').nx (some (.map (R.stamp xs) xs.length)), N'⟩ : St Heap) w := by
          have get : ∀ b k, Heap.put (fun _ => none) (R.st u').nx (some (.map (R.stamp xs) xs.length)) b = some k → b = (R.st u').nx ∧ k = .map (R.stamp xs) xs.length := by
            intro b k h
            by_cases hbu : b = (R.st u').nx
            · subst hbu; simp at h; exact ⟨rfl, h.symm⟩
            · rw [Heap.put_other _ _ hbu] at h; cases h
          refine ⟨fun b k h => ?_, fun b b' k k' p p2 h h' _ _ _ => ?_, fun b p h => (below_some.1 h).1, I.sr.frozen, fun c o' h => (hE2 c o' h).2.2, Below.refl 0 w, fun c o' h => (hE2 c o' h).1⟩
          · obtain ⟨rfl, rfl⟩ := get b k h
            refine ⟨p', _, below_some.2 ⟨by omega, e1⟩, hwpl, ⟨ents, rfl, b1⟩, ?_, hZ⟩
            simp [E2, hZ]
          · rw [(get b k h).1, (get b' k' h').1]
        have hNn' : Ext (ρ.below (R.st q).nx) Z (ρ.below N') Z := below_mono hNq'
        have hup' : amapUpdate P (⟨Heap.put (fun _ => none) (R.st u').nx (some (.map (R.stamp xs) xs.length)), N'⟩ : St Heap) ty (.map (R.st u').nx) (R.kx q) (R.vx q) =
            some ⟨Heap.put (Heap.put (fun _ => none) (R.st u').nx (some (.map (R.stamp xs) xs.length))) (R.st u').nx (some (.map (R.stamp xs ++ [(R.kx q, R.vx q, xs.length)]) (xs.length + 1))), N'⟩ := by
          unfold amapUpdate at hup ⊢
          have hget : ∀ H : Heap, Hp.get (Heap.put H (R.st u').nx (some (.map (R.stamp xs) xs.length))) (R.st u').nx = some (ABlk.map (R.stamp xs) xs.length) := by simp [Hp.get]
          have hf : afind P kt (R.kx q) (R.stamp xs) = some none := afind_none fun p hp => by
            obtain ⟨x, hx, hpx⟩ := stamp_keys hp
            rw [hpx]
            exact hd x (by intro h; subst h; exact hqx hx) ((x2 x).1 hx).1
          simp only [hty, hget, hk, if_true, hf]
          rfl
        obtain ⟨w2, g1', g2', _⟩ := mapUpdate_sound (P := P) hsr' (AV.rel_mono hNn' _ _ hrm) (AV.rel_mono hNn' _ _ hrk) (AV.rel_mono hNn' _ _ hrv) hup'
        rw [g1] at g1'; cases g1'
        obtain ⟨p2, ob2, k1, k2, k3, _⟩ := g2'.live (R.st u').nx (.map (R.stamp xs ++ [(R.kx q, R.vx q, xs.length)]) (xs.length + 1)) (by simp [Hp.get])
        have : p2 = p' := by
          have := (below_some.1 k1).2
          rw [e1] at this; cases this; rfl
        subst this
        rw [l2] at k2; cases k2
        obtain ⟨ents2, k4, k5⟩ := k3
        cases k4
        rw [stamp_append]
        exact k5
    · obtain ⟨pl2, ob2, a1, a2, a3, a4⟩ := I.mks u' j hu' hj hLj hmu
      refine ⟨pl2, ob2, a1, ?_, a3, a4.same C hi (by rw [ht]; simp; exact fun h => huu h.symm) (fun _ _ e => e) (fun _ _ e => e)⟩
      show (if pl2.block = p'.block then some _ else E'.keep pl2.block) = some ob2
      rw [if_neg (fun hh => huu (I.inj u' u j ju pl2 p' hu' hj hLj hmu hu0 hju hLu c3 a1 e1 hh))]
      exact a2
  · intro u1 u2 j1 j2 pl1 pl2 b1 hj1 hL1 hm1 b2 hj2 hL2 hm2
    exact I.inj u1 u2 j1 j2 pl1 pl2 b1 hj1 (old hj1 hL1 hm1) hm1 b2 hj2 (old hj2 hL2 hm2) hm2
  · rw [hv]; simp only [AV.rel, undef]; exact ⟨_, rfl, by simp [AV.rels]⟩

open Classical in
/-- An anchor runs. -/
theorem DInv.anchor (C : Cert P f rd ops dep π R s) (I : DInv P ops π R s E ρ0 Z0 a0 E' ρ Z q0 L a w) (hc : ClD dep L) {q i : Nat} {o : Oper} (hi : π[q]? = some i) (ho : ops[i]? = some o) (hb : ∀ j, dep i j → L j = true) (hl : L i = false)
    (hw : awanted ops (R.cur q) o = some true) (ha : R.anch q = true) (hm : R.made q = false) (ht : R.tg q = none) (hv : OpRuns P f rd ops i o (R.cur q) (R.st q) (R.v q) (R.st (q + 1)))
    {b : Frame} {k : List Item} {cs : List Frame} (hf : b.fn = f) (hrd : b.roundOf.isSome = rd) (rest : List Nat) :
    ∃ cv w1 E1 ρ1 Z1, DInv P ops π R s E ρ0 Z0 a0 E1 ρ1 Z1 (q + 1) (more L i) (a.put o.dst cv) w1 ∧
      Steps P (lone (b.atR a (.inRegion ops (i :: rest) :: k)) cs w) (lone (b.atR (a.put o.dst cv) (.inRegion ops rest :: k)) cs w1) := by
  have hg : Grows R π.length := C.grows
  have hq0 := I.behind hi hl
  have hqn : q < π.length := by
    rcases Nat.lt_or_ge q π.length with h | h
    · exact h
    · rw [List.getElem?_eq_none h] at hi; cases hi
  have hle : (R.st q0).nx ≤ (R.st q).nx := hg.le hq0 (by omega)
  have hahead : ∀ x j : Nat, x < q → π[x]? = some j → L j = true := fun x j hx hj => hb j (C.anchors q x i j ha hx hi hj)
  have hna : ∀ x, q0 ≤ x → x < q → R.anch x = false := by
    intro x h1 h2
    cases e : R.anch x with
    | false => rfl
    | true =>
      obtain ⟨j, o', hj, ho'⟩ := C.at (q := x) (by omega)
      have := I.todo x j h1 e hj
      rw [hahead x j h2 hj] at this; cases this
  let gone : Nat → Prop := fun c => ∃ u pl, q0 ≤ u ∧ u < q ∧ R.made u = true ∧ ρ (R.st u).nx = some pl ∧ pl.block = c
  let E2 : Env := ⟨fun c => if gone c then none else E'.keep c, E.w0⟩
  have hE2 : ∀ c o', E2.keep c = some o' → E'.keep c = some o' := by
    intro c o' h
    simp only [E2] at h
    split at h
    · cases h
    · exact h
  have hsr : SR E2 (ρ.below (R.st q).nx) Z (R.st q) w := I.absorb C hq0 (by omega) hna (fun x j h1 h2 hj => hahead x j h2 hj) (Or.inr ha) rfl hE2 (by
    intro u pl h1 h2 h3 h4
    simp only [E2]
    rw [if_pos ⟨u, pl, h1, h2, h3, h4, rfl⟩])
  obtain ⟨ρ1, Z1, w1, cv, g1, g2, g3, g4, g5⟩ := hv E2 (ρ.below (R.st q).nx) Z w a b k cs rest hsr (I.evals C hc hi ho hb hl) ho (I.wanted C hc hi ho hb hl hw) hf hrd
  let ρ' : Names := fun c => if c < (R.st (q + 1)).nx then ρ1 c else ρ c
  have hbel : ρ'.below (R.st (q + 1)).nx = ρ1 := by
    funext c
    simp only [ρ', Names.below]
    by_cases h : c < (R.st (q + 1)).nx
    · simp [h]
    · simp only [h, if_false]
      cases e : ρ1 c with
      | none => rfl
      | some p => exact absurd (g3.dom _ _ e) h
  have madeLt : ∀ u, R.made u = true → u < q → (R.st u).nx < (R.st q).nx := by
    intro u hmu hu
    have := (C.mk_nx hmu).1
    have := hg.le (q := u + 1) (r := q) (by omega) (by omega)
    omega
  have madeGe : ∀ u, R.made u = true → q + 1 ≤ u → (R.st (q + 1)).nx ≤ (R.st u).nx := by
    intro u hmu hu
    have := (C.mk_nx hmu).2.1
    exact hg.le hu (by omega)
  have hext : ∀ c p, ρ c = some p → ρ' c = some p := by
    intro c p e
    simp only [ρ']
    by_cases h : c < (R.st (q + 1)).nx
    · rw [if_pos h]
      refine g1.names c p (below_some.2 ⟨?_, e⟩)
      rcases I.dom c p e with h' | ⟨u, j, h1, h2, h3, h4, h5⟩
      · omega
      · rcases Nat.lt_trichotomy u q with hu | hu | hu
        · have := madeLt u h4 hu; omega
        · subst hu; rw [hm] at h4; cases h4
        · have := madeGe u h4 hu; omega
    · rw [if_neg h]; exact e
  have old : ∀ {u j : Nat}, π[u]? = some j → more L i j = true → q + 1 ≤ u → L j = true := by
    intro u j hj hL hu
    by_cases hji : j = i
    · subst hji
      have := C.nodup _ _ _ hi hj
      omega
    · rwa [more_ne L hji] at hL
  have nameOld : ∀ u, R.made u = true → q + 1 ≤ u → ρ' (R.st u).nx = ρ (R.st u).nx := by
    intro u hmu hu
    have := madeGe u hmu hu
    simp only [ρ']
    rw [if_neg (by omega)]
  have notGone : ∀ (u j : Nat) (pl : Pl), q + 1 ≤ u → π[u]? = some j → L j = true → R.made u = true → ρ (R.st u).nx = some pl → ¬ gone pl.block := by
    rintro u j pl hu hj hL hmu hp ⟨u', pl', h1, h2, h3, h4, h5⟩
    obtain ⟨j', o', hj', ho'⟩ := C.at (q := u') (by omega)
    have := I.inj u' u j' j pl' pl h1 hj' (hahead u' j' h2 hj') h3 (by omega) hj hL hmu h4 hp h5
    omega
  refine ⟨cv, w1, E2, ρ', Z1, ?_, g5⟩
  refine I.next C hi ho hl hext g1.frozen rfl ?_ (Or.inr ⟨q, rfl, ha⟩) (by omega) ?_ ?_ (by rw [hbel]; exact g3) (by rw [hbel]; exact (I.ext.trans (below_mono hle)).trans g1) ?_ ?_ ?_ (by rw [hbel]; exact g4)
  · intro c o' h
    simp only [E2]
    rw [if_neg]
    · exact I.keepE _ _ h
    · rintro ⟨u, pl, h1, h2, h3, h4, rfl⟩
      obtain ⟨j, o2, hj, ho2⟩ := C.at (q := u) (by omega)
      obtain ⟨pl2, ob, e1, e2, e3, e4⟩ := I.mks u j h1 hj (hahead u j h2 hj) h3
      rw [h4] at e1; cases e1
      rw [e3] at h; cases h
  · intro q' i' h1 h2
    rcases Nat.lt_or_ge q' q with h | h
    · exact more_of L (hahead q' i' h h2)
    · have : q' = q := by omega
      subst this
      rw [hi] at h2; cases h2
      exact more_self L i
  · intro r j h1 h2 hj
    have := I.todo r j (by omega) h2 hj
    by_cases hji : j = i
    · subst hji
      have := C.nodup _ _ _ hi hj
      omega
    · rwa [more_ne L hji]
  · intro c p e
    by_cases h : c < (R.st (q + 1)).nx
    · exact Or.inl h
    · have e' : ρ c = some p := by simpa only [ρ', if_neg h] using e
      have hgq := hg q hqn
      rcases I.dom c p e' with h' | ⟨u, j, h1, h2, h3, h4, h5⟩
      · omega
      · rcases Nat.lt_trichotomy u q with hu | hu | hu
        · have := madeLt u h4 hu; omega
        · subst hu; rw [hm] at h4; cases h4
        · exact Or.inr ⟨u, j, hu, h2, more_of L h3, h4, h5⟩
  · intro u j hu hj hL hmu
    obtain ⟨pl, ob, e1, e2, e3, e4⟩ := I.mks u j (by omega) hj (old hj hL hu) hmu
    refine ⟨pl, ob, by rw [nameOld u hmu hu]; exact e1, ?_, e3, e4.same C hi (by rw [ht]; simp) hext g1.frozen⟩
    simp only [E2]
    rw [if_neg (notGone u j pl hu hj (old hj hL hu) hmu e1)]
    exact e2
  · intro u u' j j' pl pl' h1 hj hL hmu h1' hj' hL' hmu' hp hp' hbb
    rw [nameOld u hmu h1] at hp
    rw [nameOld u' hmu' h1'] at hp'
    exact I.inj u u' j j' pl pl' (by omega) hj (old hj hL h1) hmu (by omega) hj' (old hj' hL' h1') hmu' hp hp' hbb

/-- Every operation, whenever it comes. -/
theorem DInv.step (C : Cert P f rd ops dep π R s) (I : DInv P ops π R s E ρ0 Z0 a0 E' ρ Z q0 L a w) (hc : ClD dep L) {i : Nat} {o : Oper} (ho : ops[i]? = some o) (hb : ∀ j, dep i j → L j = true) (hl : L i = false)
    {b : Frame} {k : List Item} {cs : List Frame} (hf : b.fn = f) (hrd : b.roundOf.isSome = rd) (rest : List Nat) :
    ∃ a1 w1 E1 ρ1 Z1 q1, DInv P ops π R s E ρ0 Z0 a0 E1 ρ1 Z1 q1 (more L i) a1 w1 ∧
      Steps P (lone (b.atR a (.inRegion ops (i :: rest) :: k)) cs w) (lone (b.atR a1 (.inRegion ops rest :: k)) cs w1) := by
  have hg : Grows R π.length := C.grows
  have hio : i < ops.size := by
    rcases Nat.lt_or_ge i ops.size with h | h
    · exact h
    · rw [Array.getElem?_eq_none h] at ho; cases ho
  obtain ⟨q, hi⟩ := C.full i hio
  have hqn : q < π.length := by
    rcases Nat.lt_or_ge q π.length with h | h
    · exact h
    · rw [List.getElem?_eq_none h] at hi; cases hi
  have hq0 := I.behind hi hl
  cases C.what q i o hi ho with
  | skip h aa m t s v =>
    have hw := I.wanted C hc hi ho hb hl h
    refine ⟨_, w, E', ρ, Z, q0, I.float C hi ho hl aa m t (cv := undef) (by rw [v]; exact undef_rel), .one ?_⟩
    have hs := stepR_op_skip (P := P) (b := b) (a := a) (k := k) (cs := cs) (w := w) (ops := ops) (i := i) (rest := rest) (by simp [ho, hw])
    rw [ho, Option.bind_some] at hs
    exact hs
  | quiet h aa m t s v =>
    have hw := I.wanted C hc hi ho hb hl h
    have he := I.evals C hc hi ho hb hl
    have hv := v q0 hq0 I.base (fun r j h1 h2 h3 hj hd => by
      have := I.todo r j h1 h3 hj
      rw [hb j hd] at this; cases this)
    rw [aq_congr fun x hx => seen_eq hx] at hv
    have hle : (R.st q0).nx ≤ (R.st q).nx := hg.le hq0 (by omega)
    obtain ⟨n, cv, g1, g2, g3⟩ := q_sound (P := P) (I.srAt hle) (seen_rel he) hv
    exact ⟨_, w, E', ρ, Z, q0, I.float C hi ho hl aa m t (cv := cv) (by rw [s]; exact g3), .one (step_op ho hw (q_not_defer hv) g1 g2)⟩
  | make h aa m t s l v =>
    have hw := I.wanted C hc hi ho hb hl h
    obtain ⟨n, cv, ob, E1, ρ1, g1, g2, g3⟩ := I.make C hc hi ho hb hl aa m t l (by rw [s]) v
    exact ⟨_, _, E1, ρ1, Z, q0, g3, .one (step_op ho hw (mk_not_defer v) g1 g2)⟩
  | insert h aa m u t hu hm hlu ha hdep ty kt e om ok ov hop hty h1 h2 h3 hk hd s v =>
    have hw := I.wanted C hc hi ho hb hl h
    obtain ⟨n, w1, E1, g1, g2, g3⟩ := I.insert C hc hi ho hb hl aa m t hop hty h1 h2 h3 hdep hk hd v
    exact ⟨_, _, E1, ρ, Z, q0, g3, .one (step_op ho hw (by intro c e; rw [hop] at e; cases e) g1 g2)⟩
  | anchor h aa m t v =>
    obtain ⟨cv, w1, E1, ρ1, Z1, g1, g2⟩ := I.anchor C hc hi ho hb hl h aa m t v hf hrd rest (k := k) (cs := cs)
    exact ⟨_, _, E1, ρ1, Z1, q + 1, g1, g2⟩

/-- Whatever order keeps to what must come ahead of what: it comes to what the plan's order comes to. -/
theorem Cert.walk (C : Cert P f rd ops dep π R s) {ord : List Nat} (hord : WalksD dep ops.size ord (lof (Array.replicate ops.size false))) {E : Env} {ρ : Names} {Z : Frozen} {w : World} {a : Act} {b : Frame} {k : List Item} {cs : List Frame}
    (hr : FRel E ρ Z s b cs a w) (hf : b.fn = f) (hrd : b.roundOf.isSome = rd) :
    ∃ ρ' Z' w' a', Ext ρ Z ρ' Z' ∧ s.st.nx ≤ (R.st π.length).nx ∧ FRel E ρ' Z' { s with tmps := R.cur π.length, st := R.st π.length } b cs a' w' ∧
      Steps P (lone (b.atR a (.inRegion ops ord :: k)) cs w) (lone (b.atR a' (.inRegion ops [] :: k)) cs w') := by
  have hg : Grows R π.length := C.grows
  have hst := hr.st
  have hρ : ρ.below (R.st 0).nx = ρ := by rw [C.s0]; exact Names.below_of_dom hr.st.dom
  have hlen := AV.rels_length hr.tmps
  simp only [Array.length_toList] at hlen
  have hinit : DInv P ops π R s E ρ Z a E ρ Z 0 (lof (Array.replicate ops.size false)) a w := by
    have hlof : ∀ i, lof (Array.replicate ops.size false) i = false := by
      intro i
      simp only [lof, Array.getD_eq_getD_getElem?, Array.getElem?_replicate]
      split <;> rfl
    have hno : ∀ {i : Nat} {p : Prop}, lof (Array.replicate ops.size false) i = true → p := fun {i} {p} h => by
      rw [hlof] at h
      cases h
    refine ⟨rfl, fun _ _ h => h, Or.inl rfl, Nat.zero_le _, fun q i h => absurd h (Nat.not_lt_zero _), fun r i _ _ _ => hlof i, by rw [hρ, C.s0]; exact hst, by rw [hρ]; exact Ext.refl _ _, fun c p e => Or.inl (by rw [C.s0]; exact hr.st.dom c p e), fun u i _ _ h => hno h,
      fun u u' i i' pl pl' _ _ h => hno h, hlen, rfl, fun u i o d _ _ _ _ h => hno h, fun d x hx _ => ?_⟩
    obtain ⟨cv, e1, e2⟩ := AV.rels_getElem? d hr.tmps hx
    exact ⟨cv, by simpa using e1, by rw [hρ]; exact e2⟩
  obtain ⟨L, a', w', hall, ⟨E1, ρ1, Z1, q1, I⟩, hsteps⟩ := walks_run (P := P) (b := b) (k := k) (cs := cs) (ops := ops) (dep := dep)
    (fun L a' w' => ∃ E1 ρ1 Z1 q1, DInv P ops π R s E ρ Z a E1 ρ1 Z1 q1 L a' w')
    (fun L a1 w1 i o ho hl hb hc ⟨E1, ρ1, Z1, q1, I⟩ rest => by
      obtain ⟨a2, w2, E2, ρ2, Z2, q2, g1, g2⟩ := I.step C hc ho hb hl hf hrd rest (k := k) (cs := cs)
      exact ⟨a2, w2, ⟨E2, ρ2, Z2, q2, g1⟩, g2⟩)
    ord _ a w hord (by
      intro i j hl
      simp only [lof, Array.getD_eq_getD_getElem?, Array.getElem?_replicate] at hl
      split at hl <;> simp at hl) ⟨E, ρ, Z, 0, hinit⟩
  have hall' : ∀ x i : Nat, π[x]? = some i → L i = true := fun x i hx => hall i (C.bound x i hx)
  have hsr : SR E (ρ1.below (R.st π.length).nx) Z1 (R.st π.length) w' := I.absorb C I.q0n (Nat.le_refl _) (fun x h1 h2 => by
      cases e : R.anch x with
      | false => rfl
      | true =>
        obtain ⟨j, o', hj, ho'⟩ := C.at h2
        have := I.todo x j h1 e hj
        rw [hall' x j hj] at this; cases this) (fun x i _ _ hx => hall' x i hx) (Or.inl rfl) rfl I.keepE (by
      intro u pl h1 h2 h3 h4
      obtain ⟨j, o', hj, ho'⟩ := C.at h2
      obtain ⟨pl2, ob, e1, e2, e3, e4⟩ := I.mks u j h1 hj (hall' u j hj) h3
      rw [h4] at e1; cases e1
      exact e3)
  have hx : Ext ρ Z (ρ1.below (R.st π.length).nx) Z1 := I.ext.trans (below_mono (hg.le I.q0n (Nat.le_refl _)))
  have hcur := C.cur_at π.length (Nat.le_refl _)
  have rels_of : ∀ (xs : List AV) (l : List Value), l.length = xs.length → (∀ (t : Nat) (x : AV), xs[t]? = some x → ∃ cv, l[t]? = some cv ∧ x.rel (ρ1.below (R.st π.length).nx) Z1 cv) → AV.rels (ρ1.below (R.st π.length).nx) Z1 xs l := by
    intro xs
    induction xs with
    | nil => intro l hl _; simp at hl; subst hl; simp [AV.rels]
    | cons x xs ih =>
      intro l hl h
      cases l with
      | nil => simp at hl
      | cons y ys =>
        obtain ⟨cv, e1, e2⟩ := h 0 x (by simp)
        simp at e1; subst e1
        exact AV.rels_cons e2 (ih ys (by simpa using hl) fun t x' hx' => by
          obtain ⟨cv', e3, e4⟩ := h (t + 1) x' (by simpa using hx')
          exact ⟨cv', by simpa using e3, e4⟩)
  have htm : AV.rels (ρ1.below (R.st π.length).nx) Z1 (R.cur π.length) a'.tmps.toList := by
    refine rels_of _ _ (by rw [hcur.1]; simpa using I.size) fun t x hx => ?_
    rcases hcur.2 t with ⟨u, j, o', h1, h2, h3, h4, h5, h6⟩ | ⟨h1, h2⟩
    · rw [hx] at h6; cases h6
      obtain ⟨cv, e1, e2⟩ := I.tset u j o' t h2 h3 h4 h5 (hall' u j h2)
      exact ⟨cv, by simpa using e1, AV.rel_mono (below_mono (hg.le (by omega) (by omega))) _ _ e2⟩
    · rw [hx] at h2
      have hlt : t < s.tmps.length := by
        rcases Nat.lt_or_ge t s.tmps.length with h | h
        · exact h
        · rw [List.getElem?_eq_none h] at h2; cases h2
      obtain ⟨cv, e1, e2⟩ := I.told t x h2.symm (fun u j o' hj ho' hd => by
        exfalso
        have hu : u < π.length := by
          rcases Nat.lt_or_ge u π.length with h | h
          · exact h
          · rw [List.getElem?_eq_none h] at hj; cases hj
        rcases h1 u j o' hu hj ho' with h | h
        · exact h hd
        · omega)
      exact ⟨cv, by simpa using e1, AV.rel_mono (below_mono (hg.le (by omega) (by omega))) _ _ e2⟩
  have hfr : FRel E (ρ1.below (R.st π.length).nx) Z1 { s with tmps := R.cur π.length, st := R.st π.length } b cs a' w' :=
    ⟨hsr, htm, by rw [I.defs]; exact drels_mono hx hr.defers, hr.caller.mono hx⟩
  have hnx : s.st.nx ≤ (R.st π.length).nx := by
    have := hg.le (Nat.zero_le π.length) (Nat.le_refl _)
    rwa [C.s0] at this
  exact ⟨_, Z1, w', a', hx, hnx, hfr, hsteps⟩
end

section
variable {P : Program} {f : FuncId} {rd : Bool} {ops : Array Oper} {s : FS σ}

/-- The same heap by its reading. -/
theorem FRel.same {E : Env} {ρ : Names} {Z : Frozen} {b : Frame} {cs : List Frame} {a : Act} {w : World} {s s' : FS σ} (h : FRel E ρ Z s b cs a w) (h1 : s'.tmps = s.tmps) (h2 : s'.defers = s.defers) (h3 : s'.cm = s.cm) (h4 : s'.st.nx = s.st.nx)
    (h5 : Hp.get s'.st.H = Hp.get s.st.H) : FRel E ρ Z s' b cs a w := by
  refine ⟨?_, by rw [h1]; exact h.tmps, by rw [h2]; exact h.defers, by rw [h3]; exact h.caller⟩
  have := h.st
  unfold SR at this ⊢
  rw [h4, h5]
  exact this

/-- A region whose order is drawn comes to what the plan's order comes to, if for each order there is a plan that comes to the same. -/
theorem exec_drawn (hmx : P.follows .mixedOrders = true) (hwf : EdgesBack ops) {id : Nat} {s' : FS σ} {Q : AExit → FS σ → Prop}
    (h : ∀ ord, Walks ops ord (lof (Array.replicate ops.size false)) → ∃ (dep : Nat → Nat → Prop) (π : List Nat) (R : Run σ), Cert P f rd ops dep π R s ∧ WalksD dep ops.size ord (lof (Array.replicate ops.size false)) ∧
      R.cur π.length = s'.tmps ∧ (R.st π.length).nx = s'.st.nx ∧ Hp.get (R.st π.length).H = Hp.get s'.st.H)
    (hd : s'.defers = s.defers) (hcm : s'.cm = s.cm) (hQ : Q .normal s') : Exec P f rd (.region id ops true) s Q := by
  intro E ρ Z w a b k cs hr hf hrd
  have hsch : Region.schedule (P.follows .mixedOrders) ops (w.tape w.drawn (.order b.fn id)) = Region.linearise.go .any ops ops.size (w.tape w.drawn (.order b.fn id)) (Array.replicate ops.size false) [] := by
    simp only [Region.schedule, hmx, Bool.true_or, if_true]
    rfl
  have h1 := stepR_region_draw (P := P) (b := b) (a := a) (k := k) (cs := cs) (w := w) (ops := ops) (id := id)
  rw [hsch] at h1
  have hwalk := linearise_walks hwf ops.size (w.tape w.drawn (.order b.fn id)) (Array.replicate ops.size false) (by simp) (by simp [List.count_replicate])
  obtain ⟨dep, π, R, C, hord, e1, e2, e3⟩ := h _ hwalk
  have hr' : FRel E ρ Z s b cs a w.drew := ⟨hr.st.drew, hr.tmps, hr.defers, hr.caller⟩
  obtain ⟨ρ', Z', w', a', hx, hnx, hfr, hst⟩ := C.walk hord hr' hf hrd (k := k)
  have hfr' : FRel E ρ' Z' s' b cs a' w' := hfr.same e1.symm hd hcm e2.symm e3.symm
  exact ⟨.normal, s', ρ', Z', w', a', cs, hQ, hx, by rw [← e2]; exact hnx, by rw [hcm], hfr', CStep.refl hfr'.caller |> fun hh => by rw [hcm] at hh; exact hh, Steps.head h1 (Steps.trans hst (.one stepR_region_end))⟩
end
end Go.Am

/- Regions in the order of their text, by what each operation comes to; what a call leads to. -/
namespace Go.Am
open Go.RowKit

variable {σ : Type} [Hp σ] {P : Program} {f : FuncId} {rd : Bool} {s : FS σ} {Q : AExit → FS σ → Prop} {ops : Array Oper}

theorem ops_runs {i : Nat} {rest : List Nat} {o : Oper} (ho : ops[i]? = some o) (hw : awanted ops s.tmps o = some true) {v : AV} {st' : St σ} (hop : OpRuns P f rd ops i o s.tmps s.st v st')
    (h : ExecI P f rd (.inRegion ops rest) { s with tmps := aput s.tmps o.dst v, st := st' } Q) : ExecI P f rd (.inRegion ops (i :: rest)) s Q := by
  intro E ρ Z w a b k cs hr hf hrd
  have hw' := wanted_sound hr.tmps hw
  obtain ⟨ρ', Z', w', cv, g3, g4, g5, g6, hs⟩ := hop E ρ Z w a b k cs rest hr.st (fun x _ => eval_rel hr.tmps x) ho hw' hf hrd
  have hfr : FRel E ρ' Z' { s with tmps := aput s.tmps o.dst v, st := st' } b cs (a.put o.dst cv) w' :=
    ⟨g5, put_rel (AV.rels_mono g3 _ _ hr.tmps) g6, by rw [put_defers]; exact drels_mono g3 hr.defers, hr.caller.mono g3⟩
  obtain ⟨e, s2, ρ2, Z2, w2, a2, cs2, q1, q2, q3, q4, q5, q6, q7⟩ := h E ρ' Z' w' (a.put o.dst cv) b k cs hfr hf hrd
  exact ⟨e, s2, ρ2, Z2, w2, a2, cs2, q1, g3.trans q2, Nat.le_trans g4 q3, q4, q5, q6, q7.of_steps hs⟩

theorem exec_region {id : Nat} (h : ExecI P f rd (.inRegion ops (List.range ops.size)) s Q) : Exec P f rd (.region id ops false) s Q := by
  intro E ρ Z w a b k cs hr hf hrd
  refine (h E ρ Z w a b k cs hr hf hrd).of_steps (.one ?_)
  exact step_lone_go (by simp [stepG, stepG.exec, Frame.atR])

section calls
variable (P)

/-- The method of a value that lies in an interface; of types of pointers alone. -/
def amethod (t : TypeId) (x : AV) (name : String) : Option (FuncId × AV × Bool × TypeId) :=
  match P.info? t with
  | some i => match i.methods.find? (·.name == name) with
    | some m => if m.path.size = 0 then match m.func with
        | some (g, pr) => match P.underlying t with
          | some (.pointer el) => some (g, x, pr, el)
          | _ => none
        | none => none
      else none
    | none => none
  | none => none

/-- The function and the arguments that an invocation leads to. -/
def ainvoke (H : Heap) (rcv : AV) (name : String) (xs : List AV) : Option ATgt :=
  match rcv with
  | .iface t x => match amethod P t x name with
    | some (g, x, true, _) => some (.enter g (x :: xs))
    | some (g, .ptr b o, false, el) => match cellsAt H (.ptr b o) with
      | some cs => match aload P el cs with
        | some v => some (.enter g (v :: xs))
        | none => none
      | none => none
    | _ => none
  | _ => none

def acallee (ev : Operand → AV) (H : Heap) (c : Call) : Option ATgt :=
  match c.callee with
  | .value fx => atgt (ev fx) (c.args.toList.map ev)
  | .invoke r name => ainvoke P H (ev r) name (c.args.toList.map ev)
  | .builtin _ => none
end calls

theorem wrapNil {ts : Array TypeId} {t : TypeId} {a : Addr} {x y : ByteArray} {w : World} : (Builtin.ssaWrapNilChk_ ts t #[.pointer (some a), .string x, .string y]).run P w = .ok (.pointer (some a)) w := by
  unfold Builtin.ssaWrapNilChk_
  rfl

variable {E : Env} {ρ : Names} {Z : Frozen} {w : World}

theorem method_sound {st : St σ} (hr : SR E ρ Z st w) {t : TypeId} {x : AV} {xv : Value} (hx : x.rel ρ Z xv) {name : String} {n : Nat} {xs : List AV} {tg : ATgt} (h : ainvoke P (Hp.get st.H) (.iface t x) name xs = some tg) :
    ∃ g v cv, tg = .enter g (v :: xs) ∧ (method (n + 1) t xv name).run P w = .ok (g, cv) w ∧ v.rel ρ Z cv := by
  simp only [ainvoke] at h
  unfold amethod at h
  cases hi : P.info? t with
  | none => simp [hi] at h
  | some i =>
    simp only [hi] at h
    cases hm : i.methods.find? (·.name == name) with
    | none => simp [hm] at h
    | some m =>
      simp only [hm] at h
      by_cases hp : m.path.size = 0
      · simp only [hp, if_true] at h
        cases hf : m.func with
        | none => simp [hf] at h
        | some gp =>
          obtain ⟨g, pr⟩ := gp
          simp only [hf] at h
          cases hu : P.underlying t with
          | none => simp [hu] at h
          | some d =>
            cases d <;> simp only [hu, reduceCtorEq] at h
            rename_i el
            have hpath : m.path = #[] := Array.eq_empty_of_size_eq_zero hp
            have hinfo : (typeInfo t).run P w = .ok i w := by simp [typeInfo, hi]
            have hund := run_underlying hu w
            cases pr with
            | true =>
              simp only [Option.some.injEq] at h
              refine ⟨g, x, xv, h.symm, ?_, hx⟩
              simp only [method, Sem.run_bind, hinfo, Result.andThen_ok, hm, hpath, hf, follow, Sem.run_pure, receiverAt, hund, Place.get]
            | false =>
              cases x <;> simp only [reduceCtorEq] at h
              rename_i b o
              cases hc : cellsAt (Hp.get st.H) (.ptr b o) with
              | none => simp [hc] at h
              | some cs =>
                simp only [hc] at h
                cases hl : aload P el cs with
                | none => simp [hl] at h
                | some v =>
                  simp only [hl, Option.some.injEq] at h
                  obtain ⟨bb, oo, arr, e2, fr, rfl, hb, hrr⟩ := cellsAt_sound hr hx hc
                  obtain ⟨cv, h1, h2⟩ := loadVar_sound (P := P) hb hrr hl
                  refine ⟨g, v, cv, h.symm, ?_, h2⟩
                  have hw := fun x y => wrapNil (P := P) (ts := #[t]) (t := t) (a := ⟨bb, oo, none⟩) (x := x) (y := y) (w := w)
                  simp only [method, Sem.run_bind, hinfo, Result.andThen_ok, hm, hpath, hf, follow, Sem.run_pure, receiverAt, hund, Place.get, Array.isEmpty, List.size_toArray, List.length_nil, beq_self_eq_true, decide_true, if_true, strVal, hw, asAddr, h1]
      · simp [hp] at h

theorem args_rel {ev : Operand → AV} {cv : Operand → Value} : ∀ {l : List Operand}, (∀ x ∈ l, (ev x).rel ρ Z (cv x)) → AV.rels ρ Z (l.map ev) (l.map cv)
  | [], _ => by simp [AV.rels]
  | x :: l, h => AV.rels_cons (h x (by simp)) (args_rel fun y hy => h y (by simp [hy]))

/-- What the model's own steps make of a call. -/
def tgtNext (cargs : Array Value) : ATgt → Next → Prop
  | .enter g _, n => n = .enter g cargs
  | .round _ _, _ => False

theorem enter_call {st : St σ} {tm : List AV} {a : Act} {o : Oper} {c : Call} (hop : o.op = .call c) (hr : SR E ρ Z st w) (he : ∀ x ∈ o.op.operands.toList, (aev tm x).rel ρ Z (a.eval x))
    {g : FuncId} {args : List AV} (ht : acallee P (aev tm) (Hp.get st.H) c = some (.enter g args)) {fn : Func} {cd : Code} (hfn : Has P g fn cd) :
    ∃ cargs, (execOp a.eval o).run P w = .ok (.enter g cargs) w ∧ AV.rels ρ Z args cargs.toList := by
  rw [hop] at he
  obtain ⟨cal, xs, ts⟩ := c
  have hxs : ∀ x ∈ xs.toList, (aev tm x).rel ρ Z (a.eval x) := fun x hx => he x (by
    simp only [Op.operands, Call.operands, Array.toList_append, List.mem_append]
    exact Or.inr hx)
  cases cal with
  | builtin b => simp [acallee] at ht
  | value fx =>
    have hv := he fx (by simp [Op.operands, Call.operands])
    simp only [acallee] at ht
    unfold atgt at ht
    split at ht <;> try (cases ht; done)
    rename_i g' first cap hfx
    cases ht
    rw [hfx] at hv
    simp only [AV.rel] at hv
    obtain ⟨_, fa, ca, hva, r1, r2⟩ := hv
    refine ⟨fa ++ xs.map a.eval ++ ca, ?_, ?_⟩
    · simp only [execOp, hop, resolve, hva, Deferred.ofValue, invoke, pure_bind]
      exact run_callFunc hfn _ _
    · simp only [Array.toList_append, Array.toList_map]
      exact AV.rels_append (AV.rels_append r1 (args_rel hxs)) r2
  | invoke r name =>
    have hv := he r (by simp [Op.operands, Call.operands])
    simp only [acallee] at ht
    cases hrx : aev tm r <;> simp only [hrx, ainvoke, reduceCtorEq] at ht
    rename_i t x
    rw [hrx] at hv
    simp only [AV.rel] at hv
    obtain ⟨y, hy, hxy⟩ := hv
    obtain ⟨g', v, cv, h1, h2, h3⟩ := method_sound (P := P) (n := P.types.size + Made.depth - 1) hr hxy (show ainvoke P (Hp.get st.H) (.iface t x) name (xs.toList.map (aev tm)) = some (.enter g args) by simpa only [ainvoke] using ht)
    cases h1
    have hn : P.types.size + Made.depth - 1 + 1 = P.types.size + Made.depth := by
      have : 0 < Made.depth := by decide
      omega
    rw [hn] at h2
    refine ⟨#[cv] ++ xs.map a.eval, ?_, ?_⟩
    · have hex : (#[Value.iface t y] ++ xs.map a.eval).extract 1 (#[Value.iface t y] ++ xs.map a.eval).size = xs.map a.eval := by
        apply Array.ext'
        simp
        try exact List.take_of_length_le (by simp)
      have h0 : (#[Value.iface t y] ++ xs.map a.eval)[0]? = some (.iface t y) := by
        rw [← Array.getElem?_toList, Array.toList_append]
        rfl
      simp only [execOp, hop, resolve, invoke, pure_bind, hy]
      rw [h0]
      simp only [hex, callMethod, Sem.run_bind, run_program, Result.andThen_ok, h2]
      exact run_callFunc hfn _ _
    · simp only [Array.toList_append, Array.toList_map]
      exact AV.rels_cons h3 (args_rel hxs)

/-- A call that comes back. -/
theorem opRuns_callee {i : Nat} {o : Oper} {tm : List AV} {st st' : St σ} {v : AV} {c : Call} (hop : o.op = .call c) {g : FuncId} {args : List AV} (ht : acallee P (aev tm) (Hp.get st.H) c = some (.enter g args))
    {fn : Func} {cd : Code} (hfn : Has P g fn cd) (h : ACall P g args st fun e st1 => e = .ret v ∧ st1 = st') : OpRuns P f rd ops i o tm st v st' := by
  intro E ρ Z w a b k cs rest hr he ho hw hf hrd
  obtain ⟨cargs, hrun, hargs⟩ := enter_call hop hr he ht hfn
  have hg := stepGR_op (P := P) (b := b) (k := k) (cs := cs) (w := w) (rest := rest) ho hw
  rw [Oper.semAt_eq _ _ _ (by intro c e; rw [hop] at e; cases e)] at hg
  have hent : step P (lone (b.atR a (.inRegion ops (i :: rest) :: k)) cs w) = .next (lone (Frame.enter P g cargs .normal) (b.atR a (.inRegion ops (i :: rest) :: k) :: cs) w) := by
    refine step_lone_go ?_
    rw [hg]
    simp [stepG.apply, hrun, Frame.atR]
  obtain ⟨e, w', fr, hR, hcomes, _, hleave⟩ := h E ρ Z w _ hr hargs (b.atR a (.inRegion ops (i :: rest) :: k) :: cs)
  obtain ⟨ae, st1, ρ', Z', ⟨rfl, rfl⟩, hx, hnx, hst, hend⟩ := hR
  obtain ⟨cv, rfl, hv'⟩ := hend
  exact ⟨ρ', Z', w', cv, hx, hnx, hst, hv', .head hent (Steps.trans hcomes (.one (by rw [step_leave_returned hleave, finish_put ho])))⟩
end Go.Am

/- Loops over functions, and their rounds. -/
namespace Go.Am
open Go.RowKit

variable {σ : Type} [Hp σ] {P : Program} {f : FuncId} {rd : Bool} {s : FS σ} {Q : AExit → FS σ → Prop} {ops : Array Oper}

/-- The object at a place of the heap is another. -/
def putO (w : World) (r : Nat) (o : Obj) : World := { w with heap := w.heap.setIfInBounds r o }

section records
variable {w : World} {l : Nat} {r : Loop}
theorem rec_get (h : w.heap[l]? = some (.loop r)) : (Instr.getLoop l).run P w = .ok r w := by
  have e : (getObj l).run P w = .ok (.loop r) w := by simp [getObj, Sem.run, h]
  simp [Instr.getLoop, Sem.run_bind, e]
theorem rec_set (o : Obj) (h : w.heap[l]? = some (.loop r)) : (setObj l o).run P w = .ok () (putO w l o) := by simp [setObj, Sem.run, h, putO]
theorem rec_yield {args : Array Value} (h : w.heap[l]? = some (.loop r)) (hs : args.size = r.params.size) :
    (Instr.yield l args).run P w = .ok (.round l r.fn ((r.params.zip args).foldl (fun tmps (t, a) => tmps.setIfInBounds t a) r.tmps) r.assign r.body) w := by
  simp [Instr.yield, Sem.run_bind, rec_get h, hs]
theorem rec_begin (h : w.heap[l]? = some (.loop r)) (hr : r.state = .ready) : (Instr.beginRound l).run P w = .ok () (putO w l (.loop { r with state := .busy })) := by
  simp [Instr.beginRound, Sem.run_bind, rec_get h, rec_set _ h, hr]
theorem rec_end (h : w.heap[l]? = some (.loop r)) : (Instr.endRound l none).run P w = .ok (.bool true) (putO w l (.loop { r with state := .ready, pending := none })) := by
  simp [Instr.endRound, Sem.run_bind, rec_get h, rec_set _ h]
theorem rec_out (h : w.heap[l]? = some (.loop r)) (hb : r.state ≠ .busy) : (Instr.endLoop l).run P w = .ok r.pending (putO w l (.loop { r with state := .exhausted })) := by
  simp [Instr.endLoop, Sem.run_bind, rec_get h, rec_set _ h, hb]
theorem rec_enter (fn : FuncId) (tmps : Array Value) (ps : Array Tmp) (assign body : Code) :
    (Instr.enterLoop fn tmps ps assign body none).run P w =
      .ok (w.heap.size + 1, [{ target := .collected w.heap.size, args := #[] }])
        ((w.alloc (.deferred (some []))).alloc (.loop { state := .ready, pending := none, fn, tmps, params := ps, assign, body, defers := w.heap.size })) := by
  unfold Instr.enterLoop
  simp only [Sem.run_bind, run_newObj, Result.andThen_ok, Sem.run_pure, World.alloc, Array.size_push]
end records

/-- The jump that a round leaves pending that is left so. -/
def jumpOf : AExit → Option (Option Code)
  | .normal => some none
  | .exit i => some (some (.exit i))
  | .goto l => some (some (.goto l))
  | .ret => some (some .ret)
  | .panic _ => none
/-- The record's state behind a round. -/
def stOf : Option Code → LoopState
  | none => .ready
  | some _ => .done
theorem rec_endJ {P : Program} {w : World} {l : Nat} {r : Loop} (j : Option Code) (h : w.heap[l]? = some (.loop r)) : (Instr.endRound l j).run P w = .ok (.bool j.isNone) (putO w l (.loop { r with state := stOf j, pending := j })) := by
  cases j <;> simp [Instr.endRound, Sem.run_bind, rec_get h, rec_set _ h, stOf]

def setParams (tmps : List AV) : List Tmp → List AV → List AV
  | t :: ts, a :: as => setParams (tmps.set t a) ts as
  | _, _ => tmps

/-- A round of a loop; j: the jump that it leaves pending. -/
def RoundRuns (P : Program) (b : Nat) (args : List AV) (st st' : St σ) (j : Option Code) : Prop :=
  ∃ fn tmps params assign body d, Hp.get st.H b = some (.loop .ready none fn tmps params assign body d) ∧ args.length = params.length ∧
    Exec P fn true assign ⟨setParams tmps params args, [], none, st⟩ fun e s1 => e = .normal ∧ s1.defers = [] ∧ ∃ f1 t1 p1 a1 b1 d1, Hp.get s1.st.H b = some (.loop .ready none f1 t1 p1 a1 b1 d1) ∧
      Exec P fn true body ⟨s1.tmps, [], none, ⟨Hp.put s1.st.H b (some (.loop .busy none f1 t1 p1 a1 b1 d1)), s1.st.nx⟩⟩ fun e s2 =>
        jumpOf e = some j ∧ ∃ x2 j2 f2 t2 p2 a2 b2 d2, Hp.get s2.st.H b = some (.loop x2 j2 f2 t2 p2 a2 b2 d2) ∧ st' = ⟨Hp.put s2.st.H b (some (.loop (stOf j) j f2 t2 p2 a2 b2 d2)), s2.st.nx⟩

section
variable {E : Env} {ρ : Names} {Z : Frozen} {w : World}

theorem setParams_rel : ∀ {ps : List Tmp} {args : List AV} {cargs : List Value} {tmps : List AV} {ts : Array Value}, AV.rels ρ Z tmps ts.toList → AV.rels ρ Z args cargs →
    AV.rels ρ Z (setParams tmps ps args) ((ps.zip cargs).foldl (fun (tmps : Array Value) (x : Tmp × Value) => tmps.setIfInBounds x.1 x.2) ts).toList
  | [], args, cargs, tmps, ts, h, k => by simpa [setParams] using h
  | t :: ps, [], cargs, tmps, ts, h, k => by
    simp only [AV.rels] at k
    subst k
    simpa [setParams] using h
  | t :: ps, a :: args, cargs, tmps, ts, h, k => by
    simp only [AV.rels] at k
    obtain ⟨c, cs, rfl, h1, h2⟩ := k
    simp only [setParams, List.zip_cons_cons, List.foldl_cons]
    exact setParams_rel (by simpa using AV.rels_set t h h1) h2

/-- The loop's record, from an abstract one. -/
theorem loop_at {st : St σ} (hh : SR E ρ Z st w) {b : Nat} {stt : LoopState} {j : Option Code} {fn : FuncId} {tmps : List AV} {ps : List Tmp} {asg body : Code} {d : Nat}
    (hb : Hp.get st.H b = some (.loop stt j fn tmps ps asg body d)) {p : Pl} (hp : ρ b = some p) :
    ∃ ts q, ρ d = some q ∧ AV.rels ρ Z tmps ts.toList ∧ w.heap[p.block]? = some (.loop { state := stt, pending := j, fn, tmps := ts, params := ps.toArray, assign := asg, body, defers := q.block }) := by
  obtain ⟨p', o, h1, h2, h3, _⟩ := hh.live _ _ hb
  rw [hp] at h1; cases h1
  obtain ⟨ts, q, hq, rfl, hts⟩ := h3
  exact ⟨ts, q, hq, hts, h2⟩

/-- The loop's record turns. -/
theorem loop_put (P : Program) {st : St σ} (hh : SR E ρ Z st w) {b : Nat} {stt stt' : LoopState} {j j' : Option Code} {fn : FuncId} {tmps : List AV} {ps : List Tmp} {asg body : Code} {d : Nat}
    (hb : Hp.get st.H b = some (.loop stt j fn tmps ps asg body d)) {p : Pl} (hp : ρ b = some p) {ts : Array Value} {q : Pl} (hq : ρ d = some q) (hts : AV.rels ρ Z tmps ts.toList)
    (hw : w.heap[p.block]? = some (.loop { state := stt, pending := j, fn, tmps := ts, params := ps.toArray, assign := asg, body, defers := q.block })) :
    SR E ρ Z (⟨Hp.put st.H b (some (.loop stt' j' fn tmps ps asg body d)), st.nx⟩ : St σ) (putO w p.block (.loop { state := stt', pending := j', fn, tmps := ts, params := ps.toArray, assign := asg, body, defers := q.block })) := by
  obtain ⟨w', h1, h2⟩ := setObj_sound (P := P) (k' := .loop stt' j' fn tmps ps asg body d) hh hb hp (o' := .loop { state := stt', pending := j', fn, tmps := ts, params := ps.toArray, assign := asg, body, defers := q.block })
    ⟨ts, q, hq, rfl, hts⟩ (by intro o ho; obtain ⟨_, _, _, rfl, _⟩ := ho; simp)
  rw [rec_set _ hw] at h1
  cases h1
  exact h2

theorem round_leaves {j : Option Code} {b c : Frame} {a : Act} {cs : List Frame} {w w' : World} {l : Nat} {v : Value} {m : Machine} : ∀ {e : AExit}, jumpOf e = some j → b.roundOf = some l → b.kind = .normal → (Instr.endRound l j).run P w = .ok v w' →
    Arr P ρ Z m b [] (c :: cs) e a w → Steps P m (lone (c.finish v) cs w')
  | .normal, he, h1, h2, h3, h => by
    cases he
    exact Steps.trans h (.one (stepR_round_end h1 h2 h3))
  | .exit i, he, h1, h2, h3, h => by
    cases he
    obtain ⟨k0, hk, h⟩ := h
    exact Steps.trans h (.one (stepR_round_exit h1 h2 hk h3))
  | .goto l, he, h1, h2, h3, h => by
    cases he
    obtain ⟨k0, hk, h⟩ := h
    exact Steps.trans h (.one (stepR_round_goto h1 h2 hk h3))
  | .ret, he, h1, h2, h3, h => by
    cases he
    obtain ⟨k0, h⟩ := h
    exact Steps.trans h (.one (stepR_round_ret h1 h2 h3))
  | .panic _, he, _, _, _, _ => by cases he

/-- A call of a loop's body. -/
theorem opRuns_round {i : Nat} {o : Oper} {tm : List AV} {st st' : St σ} {j : Option Code} {c : Call} (hop : o.op = .call c) {l : Nat} {args : List AV} (ht : acallee P (aev tm) (Hp.get st.H) c = some (.round l args))
    (h : RoundRuns P l args st st' j) : OpRuns P f rd ops i o tm st (.bool j.isNone) st' := by
  intro E ρ Z w a b k cs rest hr he ho hw hf hrd
  obtain ⟨fn, tmps, params, assign, body, d, hl, hlen, h⟩ := h
  rw [hop] at he
  obtain ⟨cal, xs, tys⟩ := c
  have hxs : ∀ x ∈ xs.toList, (aev tm x).rel ρ Z (a.eval x) := fun x hx => he x (by
    simp only [Op.operands, Call.operands, Array.toList_append, List.mem_append]
    exact Or.inr hx)
  cases cal with
  | builtin b => simp [acallee] at ht
  | invoke r name =>
    simp only [acallee, ainvoke] at ht
    split at ht <;> try (cases ht; done)
    split at ht <;> try (cases ht; done)
    split at ht <;> try (cases ht; done)
    split at ht <;> cases ht
  | value fx =>
    have hv := he fx (by simp [Op.operands, Call.operands])
    simp only [acallee] at ht
    unfold atgt at ht
    split at ht <;> try (cases ht; done)
    rename_i l' hfx
    cases ht
    rw [hfx] at hv
    simp only [AV.rel] at hv
    obtain ⟨p, hp, hva⟩ := hv
    obtain ⟨ts, q, hq, hts, hwl⟩ := loop_at hr hl hp
    have hargs : AV.rels ρ Z (xs.toList.map (aev tm)) (xs.map a.eval).toList := by
      simp only [Array.toList_map]
      exact args_rel hxs
    have hsz : (xs.map a.eval).size = params.toArray.size := by
      have := AV.rels_length hargs
      simp at this hlen ⊢
      omega
    have hrun : (execOp a.eval o).run P w = .ok (.round p.block fn ((params.toArray.zip (xs.map a.eval)).foldl (fun tmps (t, a) => tmps.setIfInBounds t a) ts) assign body) w := by
      simp only [execOp, hop, resolve, hva, Deferred.ofValue, invoke, pure_bind, Array.empty_append]
      exact rec_yield hwl hsz
    have hg := stepGR_op (P := P) (b := b) (k := k) (cs := cs) (w := w) (rest := rest) ho hw
    rw [Oper.semAt_eq _ _ _ (by intro c e; rw [hop] at e; cases e)] at hg
    let ts1 := (params.toArray.zip (xs.map a.eval)).foldl (fun (tmps : Array Value) (x : Tmp × Value) => tmps.setIfInBounds x.1 x.2) ts
    let B : Frame := { (default : Frame) with fn := fn, kind := .normal, roundOf := some p.block }
    have hent : step P (lone (b.atR a (.inRegion ops (i :: rest) :: k)) cs w) = .next (lone (B.atR { tmps := ts1, defers := [] } [.code assign, .beginRound, .code body]) (b.atR a (.inRegion ops (i :: rest) :: k) :: cs) w) := by
      refine step_lone_go ?_
      rw [hg]
      simp only [stepG.apply, Sem.runT_eq, hrun, GStep.bare_after]
      rfl
    have hts1 : AV.rels ρ Z (setParams tmps params (xs.toList.map (aev tm))) ts1.toList := by
      have := setParams_rel (ps := params) hts hargs
      have e : ts1 = (params.zip (xs.map a.eval).toList).foldl (fun (tmps : Array Value) (x : Tmp × Value) => tmps.setIfInBounds x.1 x.2) ts := by
        simp only [ts1]
        rw [← Array.foldl_toList, Array.toList_zip]
      rw [e]
      exact this
    have g := h E ρ Z w { tmps := ts1, defers := [] } B [.beginRound, .code body] (b.atR a (.inRegion ops (i :: rest) :: k) :: cs) ⟨hr, hts1, rfl, rfl⟩ rfl rfl
    obtain ⟨e, s1, ρ1, Z1, w1, a1, cs1, ⟨rfl, hd1, f1, t1, p1, as1, b1, d1, hl1, g1⟩, g2, g3, g4, g5, g6, g7⟩ := g
    have hcs1 : cs1 = _ := g6
    subst hcs1
    have hp1 := g2.names _ _ hp
    obtain ⟨ts', q', hq', hts', hwl'⟩ := loop_at g5.st hl1 hp1
    have hbusy := loop_put P (stt' := .busy) (j' := none) g5.st hl1 hp1 hq' hts' hwl'
    have hbr := rec_begin (P := P) hwl' rfl
    have hs2 := stepR_beginRound (P := P) (b := B) (a := a1) (k := [.code body]) (cs := b.atR a (.inRegion ops (i :: rest) :: k) :: cs) (l := p.block) rfl hbr
    have gd : drels ρ1 Z1 [] a1.defers := by have := g5.defers; rw [hd1] at this; exact this
    have g' := g1 E ρ1 Z1 _ a1 B [] (b.atR a (.inRegion ops (i :: rest) :: k) :: cs) ⟨hbusy, g5.tmps, gd, rfl⟩ rfl rfl
    obtain ⟨e, s2, ρ2, Z2, w2, a2, cs2, ⟨hje, x2, j2, f2, t2, p2, as2, b2, d2, hl2, rfl⟩, k2, k3, k4, k5, k6, k7⟩ := g'
    have hcs2 : cs2 = _ := k6
    subst hcs2
    have hp2 := k2.names _ _ hp1
    obtain ⟨ts3, q3, hq3, hts3, hwl3⟩ := loop_at k5.st hl2 hp2
    have hready := loop_put P (stt' := stOf j) (j' := j) k5.st hl2 hp2 hq3 hts3 hwl3
    have her := rec_endJ (P := P) j hwl3
    have hs3 := round_leaves (b := B) (c := b.atR a (.inRegion ops (i :: rest) :: k)) (cs := cs) (l := p.block) hje rfl rfl her k7
    refine ⟨ρ2, Z2, _, .bool j.isNone, g2.trans k2, Nat.le_trans g3 k3, hready, by simp [AV.rel], ?_⟩
    have e1 : (b.atR a (.inRegion ops (i :: rest) :: k)).finish (.bool j.isNone) = b.atR (a.put o.dst (.bool j.isNone)) (.inRegion ops rest :: k) := finish_put ho _
    rw [← e1]
    exact .head hent (Steps.trans g7 (.head hs2 hs3))

/-- A loop over a function. -/
theorem exec_rangeFunc {fx : Operand} {params : Array Tmp} {assign body : Code} {g : FuncId} {args : List AV} (hrd0 : rd = false)
    (ht : atgt (aev s.tmps fx) [.yld (s.st.nx + 1)] = some (.enter g args)) {fn : Func} {c : Code} (hfn : Has P g fn c)
    (h : ACall P g args ⟨Hp.put (Hp.put s.st.H s.st.nx (some (.deferred true))) (s.st.nx + 1) (some (.loop .ready none f s.tmps params.toList assign body s.st.nx)), s.st.nx + 2⟩ fun e st2 =>
      (∃ v, e = .ret v) ∧ ∃ x1 j e1 f1 t1 p1 a1 b1 d1, x1 ≠ .busy ∧ jumpOf e1 = some j ∧ Hp.get st2.H (s.st.nx + 1) = some (.loop x1 j f1 t1 p1 a1 b1 d1) ∧
      Q e1 { s with defers := .mark s.st.nx :: s.defers, st := ⟨Hp.put st2.H (s.st.nx + 1) (some (.loop .exhausted j f1 t1 p1 a1 b1 d1)), st2.nx⟩ }) :
    Exec P f rd (.rangeFunc fx params assign body) s Q := by
  intro E ρ Z w a b k cs hr hf hrd
  have hro : b.roundOf = none := by
    cases hb : b.roundOf with
    | none => rfl
    | some _ => rw [hb] at hrd; simp [hrd0] at hrd
  -- the two new blocks
  have h1 : SR E (ρ.put s.st.nx ⟨w.heap.size, 0, 0⟩) Z (⟨Hp.put s.st.H s.st.nx (some (.deferred true)), s.st.nx + 1⟩ : St σ) (w.alloc (.deferred (some []))) := by
    show SRel E _ Z (Hp.get (Hp.put _ _ _)) _ _
    rw [Hp.get_put]
    exact hr.st.newBlk rfl
  have x1 : Ext ρ Z (ρ.put s.st.nx ⟨w.heap.size, 0, 0⟩) Z := ext_put hr.st.noName _
  have hsz : (w.alloc (.deferred (some []))).heap.size = w.heap.size + 1 := by show (w.heap.push _).size = _; simp
  have x2 : Ext (ρ.put s.st.nx ⟨w.heap.size, 0, 0⟩) Z ((ρ.put s.st.nx ⟨w.heap.size, 0, 0⟩).put (s.st.nx + 1) ⟨w.heap.size + 1, 0, 0⟩) Z := ext_put h1.noName _
  have h2 : SR E ((ρ.put s.st.nx ⟨w.heap.size, 0, 0⟩).put (s.st.nx + 1) ⟨w.heap.size + 1, 0, 0⟩) Z
      (⟨Hp.put (Hp.put s.st.H s.st.nx (some (.deferred true))) (s.st.nx + 1) (some (.loop .ready none f s.tmps params.toList assign body s.st.nx)), s.st.nx + 2⟩ : St σ)
      ((w.alloc (.deferred (some []))).alloc (.loop { state := .ready, pending := none, fn := b.fn, tmps := a.tmps, params, assign, body, defers := w.heap.size })) := by
    show SRel E _ Z (Hp.get (Hp.put _ _ _)) _ _
    rw [Hp.get_put]
    have := SRel.newBlk (base := 0) (top := 0) (k := .loop .ready none f s.tmps params.toList assign body s.st.nx) (o := .loop { state := .ready, pending := none, fn := b.fn, tmps := a.tmps, params, assign, body, defers := w.heap.size }) h1 (by
      rw [hsz]
      refine ⟨a.tmps, ⟨w.heap.size, 0, 0⟩, x2.names _ _ (by simp [Names.put]), by rw [hf], ?_⟩
      exact AV.rels_mono (x1.trans x2) _ _ hr.tmps)
    rw [hsz] at this
    exact this
  have x12 := x1.trans x2
  generalize hρ2 : (ρ.put s.st.nx ⟨w.heap.size, 0, 0⟩).put (s.st.nx + 1) ⟨w.heap.size + 1, 0, 0⟩ = ρ2 at *
  have hpd : ρ2 s.st.nx = some ⟨w.heap.size, 0, 0⟩ := by rw [← hρ2]; simp [Names.put]
  have hpl : ρ2 (s.st.nx + 1) = some ⟨w.heap.size + 1, 0, 0⟩ := by rw [← hρ2]; simp [Names.put]
  -- the call
  have hv := eval_rel hr.tmps fx
  unfold atgt at ht
  split at ht <;> try (cases ht; done)
  rename_i g' first cap hfx
  cases ht
  rw [hfx] at hv
  simp only [AV.rel] at hv
  obtain ⟨_, fa, ca, hva, r1, r2⟩ := hv
  let mk : Deferred := { target := .collected w.heap.size, args := #[] }
  let a1 : Act := { a with defers := mk :: a.defers }
  let w2 := (w.alloc (.deferred (some []))).alloc (.loop { state := .ready, pending := none, fn := b.fn, tmps := a.tmps, params, assign, body, defers := w.heap.size })
  let cargs : Array Value := fa ++ #[.func (.yield (w.heap.size + 1)) #[] #[]] ++ ca
  have hent : step P (lone (b.atR a (.code (.rangeFunc fx params assign body) :: k)) cs w) = .next (lone (Frame.enter P g cargs .normal) (b.atR a1 (.inRangeFunc (w.heap.size + 1) :: k) :: cs) w2) := by
    refine step_lone_go ?_
    have hel := rec_enter (P := P) (w := w) b.fn a.tmps params assign body
    have hev : (b.atR a1 (.inRangeFunc (w.heap.size + 1) :: k)).eval fx = a.eval fx := by
      rw [Frame.eval_atR]
      cases fx <;> rfl
    have hcall : (do let d ← resolve (b.atR a1 (.inRangeFunc (w.heap.size + 1) :: k)).eval { callee := .value fx, args := #[.const (.func (.yield (w.heap.size + 1)) #[] #[])], argTypes := #[] } 0; invoke d.target d.args : Sem Next).run P w2 = .ok (.enter g cargs) w2 := by
      simp only [resolve, List.map_toArray, List.map_cons, List.map_nil, hev, hva, Deferred.ofValue, pure_bind]
      simp only [Frame.eval, invoke]
      exact run_callFunc hfn _ _
    have hcall' : (do let d ← resolve ({ fn := b.fn, tmps := a.tmps, todo := .inRangeFunc (w.heap.size + 1) :: k, defers := [mk] ++ a.defers, mode := .run, kind := b.kind, roundOf := none } : Frame).eval { callee := .value fx, args := #[.const (.func (.yield (w.heap.size + 1)) #[] #[])], argTypes := #[] } 0; invoke d.target d.args : Sem Next).run P w2 = .ok (.enter g cargs) w2 := by
      have e : ({ fn := b.fn, tmps := a.tmps, todo := .inRangeFunc (w.heap.size + 1) :: k, defers := [mk] ++ a.defers, mode := .run, kind := b.kind, roundOf := none } : Frame) = b.atR a1 (.inRangeFunc (w.heap.size + 1) :: k) := by
        simp [Frame.atR, a1, hro]
      rw [e]; exact hcall
    simp only [stepG, stepG.exec, Frame.atR, hro, Sem.runT_eq, hel, GStep.bare_after, stepG.apply]
    have this := hcall'
    simp only [mk, w2] at this
    rw [this]
    simp [a1, mk, w2, hro]
  have hargs : AV.rels ρ2 Z (first ++ [.yld (s.st.nx + 1)] ++ cap) cargs.toList := by
    simp only [cargs, Array.toList_append]
    refine AV.rels_append (AV.rels_append (AV.rels_mono x12 _ _ r1) (AV.rels_cons ?_ (by simp [AV.rels]))) (AV.rels_mono x12 _ _ r2)
    simp only [AV.rel]
    exact ⟨_, hpl, rfl⟩
  obtain ⟨e, w', fr, hR, hcomes, _, hleave⟩ := h E ρ2 Z w2 cargs h2 hargs (b.atR a1 (.inRangeFunc (w.heap.size + 1) :: k) :: cs)
  obtain ⟨ae, st', ρ', Z', ⟨⟨v, rfl⟩, x1, j, e1, f1, t1, p1, as1, b1, d1, hxb, hje, hl, hq⟩, hx, hnx, hst, hend⟩ := hR
  obtain ⟨cv, rfl, hv'⟩ := hend
  have hfin : (b.atR a1 (.inRangeFunc (w.heap.size + 1) :: k)).finish cv = b.atR a1 (.endRangeFunc (w.heap.size + 1) :: k) := rfl
  have hs2 := step_leave_returned (P := P) (c := b.atR a1 (.inRangeFunc (w.heap.size + 1) :: k)) (cs := cs) hleave
  rw [hfin] at hs2
  have hp' := hx.names _ _ hpl
  obtain ⟨ts, q, hq', hts, hwl⟩ := loop_at hst hl hp'
  have hend := rec_out (P := P) hwl (by simpa using hxb)
  have hput := loop_put P (stt' := .exhausted) (j' := j) hst hl hp' hq' hts hwl
  have hs3 := stepR_endRangeFunc (b := b) (a := a1) (k := k) (cs := cs) hend
  have harr : Arr P ρ' Z' (lone (b.atR a (.code (.rangeFunc fx params assign body) :: k)) cs w) b k cs e1 a1 (putO w' (w.heap.size + 1) (.loop { state := .exhausted, pending := j, fn := f1, tmps := ts, params := p1.toArray, assign := as1, body := b1, defers := q.block })) := by
    have hgo := Steps.head hent (Steps.trans hcomes (.head hs2 (.one hs3)))
    cases e1 with
    | normal => cases hje; exact hgo
    | exit i => cases hje; exact ⟨k, rfl, hgo⟩
    | goto l => cases hje; exact ⟨k, rfl, hgo⟩
    | ret => cases hje; exact ⟨k, hgo⟩
    | panic ch => cases hje
  refine ⟨e1, _, ρ', Z', _, a1, cs, hq, x12.trans hx, ?_, rfl, ⟨hput, AV.rels_mono (x12.trans hx) _ _ hr.tmps, ?_, hr.caller.mono (x12.trans hx)⟩, CStep.refl hr.caller, harr⟩
  · show s.st.nx ≤ st'.nx
    have : s.st.nx + 2 ≤ st'.nx := hnx
    omega
  · exact ⟨mk, a.defers, rfl, ⟨_, hx.names _ _ hpd, rfl⟩, drels_mono (x12.trans hx) hr.defers⟩
end
end Go.Am
