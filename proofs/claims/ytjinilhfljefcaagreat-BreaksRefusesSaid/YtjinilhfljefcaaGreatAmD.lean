/- Proved here: the evaluator is sound; summaries. No conditions. -/
import Derived.Test.YtjinilhfljefcaaGreatAmC
set_option linter.unusedSimpArgs false
set_option linter.unusedVariables false
set_option linter.unusedSectionVars false
/- The evaluator is sound: calls, rounds, regions in the order of their text. -/
namespace Go.Am
open Go.RowKit

noncomputable def FSof (dfr : Bool) (s : ES) : FS TH := ⟨toL s.n s.T, s.ds, if dfr then some .ret else none, ⟨s.H, s.nx⟩⟩
def SaysO (dfr : Bool) : EO → AExit → FS TH → Prop
  | .normal s, e, t => e = .normal ∧ t = FSof dfr s ∧ s.n ≤ 256
  | .exit i s, e, t => e = .exit i ∧ t = FSof dfr s ∧ s.n ≤ 256
  | .goto l s, e, t => e = .goto l ∧ t = FSof dfr s ∧ s.n ≤ 256
  | .ret s, e, t => e = .ret ∧ t = FSof dfr s ∧ s.n ≤ 256
def Says (dfr : Bool) : ER → AExit → FS TH → Prop
  | .stuck, _, _ => False
  | .normal s, e, t => e = .normal ∧ t = FSof dfr s ∧ s.n ≤ 256
  | .exit i s, e, t => e = .exit i ∧ t = FSof dfr s ∧ s.n ≤ 256
  | .goto l s, e, t => e = .goto l ∧ t = FSof dfr s ∧ s.n ≤ 256
  | .ret s, e, t => e = .ret ∧ t = FSof dfr s ∧ s.n ≤ 256
  | .many l, e, t => ∃ o ∈ l, SaysO dfr o e t
theorem says_toER {dfr : Bool} {o : EO} {e : AExit} {t : FS TH} : Says dfr o.toER e t ↔ SaysO dfr o e t := by cases o <;> exact Iff.rfl
theorem says_ways {dfr : Bool} {r : ER} {e : AExit} {t : FS TH} : Says dfr r e t ↔ ∃ ws, r.ways = some ws ∧ ∃ o ∈ ws, SaysO dfr o e t := by
  cases r <;> simp [Says, ER.ways, SaysO]
theorem toER_ne (o : EO) : o.toER ≠ .stuck := by cases o <;> simp [EO.toER]
theorem ways_ne {r : ER} (h : r ≠ .stuck) : ∃ ws, r.ways = some ws := by cases r <;> simp_all [ER.ways]
theorem flatE_sound {α : Type} {f : α → ER} : ∀ {l : List α}, flatE l f ≠ .stuck → ∀ o ∈ l, f o ≠ .stuck ∧ ∀ dfr e t, Says dfr (f o) e t → Says dfr (flatE l f) e t
  | [], h, o, ho => by simp at ho
  | a :: l, h, o, ho => by
    have e0 : flatE (a :: l) f = ER.join (f a) (flatE l f) := rfl
    rw [e0] at h
    have hj : ∃ x y, (f a).ways = some x ∧ (flatE l f).ways = some y ∧ ER.join (f a) (flatE l f) = .many (x ++ y) := by
      unfold ER.join at h ⊢
      cases hx : (f a).ways with
      | none => rw [hx] at h; exact absurd rfl h
      | some x =>
        rw [hx] at h
        cases hy : (flatE l f).ways with
        | none => rw [hy] at h; exact absurd rfl h
        | some y => exact ⟨x, y, rfl, rfl, rfl⟩
    obtain ⟨x, y, hx, hy, hxy⟩ := hj
    have hl : flatE l f ≠ .stuck := by intro e; rw [e] at hy; cases hy
    rcases List.mem_cons.1 ho with rfl | ho
    · refine ⟨(by intro e; rw [e] at hx; cases hx), fun dfr e t hs => ?_⟩
      rw [e0, hxy]
      obtain ⟨ws, h1, o', h2, h3⟩ := says_ways.1 hs
      rw [hx] at h1; cases h1
      exact ⟨o', List.mem_append_left _ h2, h3⟩
    · obtain ⟨h1, h2⟩ := flatE_sound hl o ho
      refine ⟨h1, fun dfr e t hs => ?_⟩
      rw [e0, hxy]
      obtain ⟨ws, k1, o', k2, k3⟩ := says_ways.1 (h2 dfr e t hs)
      rw [hy] at k1; cases k1
      exact ⟨o', List.mem_append_right _ k2, k3⟩

/-- A call has come to one of the ways. -/
def InO (o : CO) (e : AEnd) (st : St TH) : Prop := e = .ret o.v ∧ st = ⟨o.H, o.nx⟩
def InC : CR → AEnd → St TH → Prop
  | .stuck, _, _ => False
  | .ok v H nx, e, st => e = .ret v ∧ st = ⟨H, nx⟩
  | .many l, e, st => ∃ o ∈ l, InO o e st
theorem inC_ways {r : CR} {e : AEnd} {st : St TH} : InC r e st ↔ ∃ ws, r.ways = some ws ∧ ∃ o ∈ ws, InO o e st := by
  cases r <;> simp [InC, CR.ways, InO]
theorem flatC_sound {α : Type} {f : α → CR} : ∀ {l : List α}, flatC l f ≠ .stuck → ∀ o ∈ l, f o ≠ .stuck ∧ ∀ e st, InC (f o) e st → InC (flatC l f) e st
  | [], h, o, ho => by simp at ho
  | a :: l, h, o, ho => by
    have e0 : flatC (a :: l) f = CR.join (f a) (flatC l f) := rfl
    rw [e0] at h
    have hj : ∃ x y, (f a).ways = some x ∧ (flatC l f).ways = some y ∧ CR.join (f a) (flatC l f) = .many (x ++ y) := by
      unfold CR.join at h ⊢
      cases hx : (f a).ways with
      | none => rw [hx] at h; exact absurd rfl h
      | some x =>
        rw [hx] at h
        cases hy : (flatC l f).ways with
        | none => rw [hy] at h; exact absurd rfl h
        | some y => exact ⟨x, y, rfl, rfl, rfl⟩
    obtain ⟨x, y, hx, hy, hxy⟩ := hj
    have hl : flatC l f ≠ .stuck := by intro e; rw [e] at hy; cases hy
    rcases List.mem_cons.1 ho with rfl | ho
    · refine ⟨(by intro e; rw [e] at hx; cases hx), fun e st hs => ?_⟩
      rw [e0, hxy]
      obtain ⟨ws, h1, o', h2, h3⟩ := inC_ways.1 hs
      rw [hx] at h1; cases h1
      exact ⟨o', List.mem_append_left _ h2, h3⟩
    · obtain ⟨h1, h2⟩ := flatC_sound hl o ho
      refine ⟨h1, fun e st hs => ?_⟩
      rw [e0, hxy]
      obtain ⟨ws, k1, o', k2, k3⟩ := inC_ways.1 (h2 e st hs)
      rw [hy] at k1; cases k1
      exact ⟨o', List.mem_append_right _ k2, k3⟩

variable {P : Program} {M : Memo} {K : Knot}

def CallsTo (P : Program) (g : FuncId) (args : List AV) (H : TH) (nx : Nat) (v : AV) (H' : TH) (nx' : Nat) : Prop :=
  (∃ fn c, Has P g fn c) ∧ ACall P g args (⟨H, nx⟩ : St TH) fun e st => e = .ret v ∧ st = ⟨H', nx'⟩
def MemoOK (P : Program) (M : Memo) : Prop := ∀ g args H nx v H' nx', M g args H nx = .ok v H' nx' → CallsTo P g args H nx v H' nx'
def KOK (P : Program) (K : Knot) : Prop := ∀ f rd dfr c s, s.n ≤ 256 → (rd = true → dfr = false) → K f rd dfr c s ≠ .stuck →
  Exec P f rd c (FSof dfr s) (Says dfr (K f rd dfr c s)) ∧ ∀ b, c = .loop b → ExecI P f rd (.inLoop b) (FSof dfr s) (Says dfr (K f rd dfr c s))

theorem memo_none : MemoOK P fun _ _ _ _ => .stuck := by
  intro g args H nx v H' nx' h; cases h

theorem KOK.exec (hK : KOK P K) {f : FuncId} {rd dfr : Bool} {c : Code} {s : ES} (hs : s.n ≤ 256) (hd : rd = true → dfr = false) {Q : AExit → FS TH → Prop} (h : ∀ e t, Says dfr (K f rd dfr c s) e t → Q e t) (hn : K f rd dfr c s ≠ .stuck) : Exec P f rd c (FSof dfr s) Q :=
  (hK f rd dfr c s hs hd hn).1.mono h

theorem hp_get (H : TH) (b : Nat) : Hp.get H b = H.get b := rfl

/-! ### Calls -/
def DOK (P : Program) (call : FuncId → List AV → TH → Nat → CR) : Prop := ∀ g args H nx v H' nx', call g args H nx = .ok v H' nx' →
  (∃ fn c, Has P g fn c) ∧ ACallD P g args (⟨H, nx⟩ : St TH) .ret fun e m st => e = .ret v ∧ m = .ret ∧ st = ⟨H', nx'⟩

theorem ACallD.mono {g : FuncId} {args : List AV} {st : St TH} {m : AMode} {Q Q' : AEnd → AMode → St TH → Prop} (h : ACallD P g args st m Q) (hq : ∀ e m st, Q e m st → Q' e m st) : ACallD P g args st m Q' :=
  fun E ρ Z w cargs u hr ha hm c0 cs hu => by
    obtain ⟨e, m', w', fr, ⟨ae, am, st', ρ', Z', h1, h2⟩, h3⟩ := h E ρ Z w cargs u hr ha hm c0 cs hu
    exact ⟨e, m', w', fr, ⟨ae, am, st', ρ', Z', hq _ _ _ h1, h2⟩, h3⟩

theorem Unw.mono {fn : Func} {tmps : List AV} {Q Q' : AEnd → St TH → Prop} (hq : ∀ e st, Q e st → Q' e st) : ∀ {ds : List ADef} {m : AMode} {st : St TH}, Unw P fn tmps Q ds m st → Unw P fn tmps Q' ds m st
  | [], .ret, st, h => by obtain ⟨v, h1, h2⟩ := h; exact ⟨v, h1, hq _ _ h2⟩
  | [], .pan ch, st, h => hq _ _ h
  | .mark b :: ds, m, st, h => ⟨h.1, Unw.mono hq h.2⟩
  | .call f cap xs :: ds, m, st, h => by
    obtain ⟨g, fn2, c, h1, h2, h3⟩ := h
    refine ⟨g, fn2, c, h1, h2, h3.mono fun e m' st' h => ?_⟩
    cases e with
    | ret v => exact Unw.mono hq h
    | pan ch => exact Unw.mono hq h

theorem unw_sound {call : FuncId → List AV → TH → Nat → CR} (hc : DOK P call) {fn : Func} {n : Nat} {T : TT} : ∀ (ds : List ADef) (H : TH) (nx : Nat), unw P fn n T call ds H nx ≠ .stuck →
    Unw P fn (toL n T) (fun e st => InC (unw P fn n T call ds H nx) e st) ds .ret (⟨H, nx⟩ : St TH)
  | [], H, nx, h => by
    have e0 : unw P fn n T call [] H nx = (match aresT P (Hp.get H) fn n T with | some v => CR.ok v H nx | none => .stuck) := rfl
    rw [e0] at h ⊢
    rw [aresT_eq] at h ⊢
    cases hr : ares P (Hp.get H) fn (toL n T) with
    | none => rw [hr] at h; exact absurd rfl h
    | some u => exact ⟨_, hr, rfl, rfl⟩
  | .mark b :: ds, H, nx, h => by
    have e0 : unw P fn n T call (.mark b :: ds) H nx = (match H.get b with | some (.deferred true) => TH.strict (Hp.put H b (some (.deferred false))) fun H => unw P fn n T call ds H nx | _ => CR.stuck) := rfl
    rw [e0] at h ⊢
    split at h <;> try (exact absurd rfl h)
    rename_i hb
    simp only [TH.strict_eq] at h ⊢
    exact ⟨hb, unw_sound hc ds _ _ h⟩
  | .call f cap xs :: ds, H, nx, h => by
    cases f with
    | func g =>
      have e0 : unw P fn n T call (.call (.func g) cap xs :: ds) H nx = ((call g (xs ++ cap) H nx).strict CR.stuck fun _ H nx => unw P fn n T call ds H nx) := rfl
      rw [e0] at h ⊢
      cases hcall : call g (xs ++ cap) H nx with
      | stuck => rw [hcall] at h; exact absurd rfl h
      | many l => rw [hcall] at h; exact absurd rfl h
      | ok v1 H1 nx1 =>
        rw [hcall, CR.strict_ok] at h
        rw [CR.strict_ok]
        obtain ⟨⟨fn2, c, hfn⟩, h2⟩ := hc _ _ _ _ _ _ _ hcall
        refine ⟨g, fn2, c, rfl, hfn, h2.mono fun e m st he => ?_⟩
        obtain ⟨rfl, rfl, rfl⟩ := he
        exact unw_sound hc ds _ _ h
    | _ => exact absurd rfl h

def CallsR (P : Program) (g : FuncId) (args : List AV) (H : TH) (nx : Nat) (r : CR) : Prop :=
  (∃ fn c, Has P g fn c) ∧ ACall P g args (⟨H, nx⟩ : St TH) fun e st => InC r e st

/-- What a body's end makes of a call. -/
noncomputable def endOf (P : Program) (fn : Func) (call : FuncId → List AV → TH → Nat → CR) (r : ER) : CR := match r with
  | .normal s => unw P fn s.n s.T call s.ds s.H s.nx
  | .ret s => unw P fn s.n s.T call s.ds s.H s.nx
  | .many l => flatC l fun o => (match o with
    | .normal s => unw P fn s.n s.T call s.ds s.H s.nx
    | .ret s => unw P fn s.n s.T call s.ds s.H s.nx
    | _ => .stuck)
  | _ => .stuck

theorem bare_has {dfr : Bool} {call : FuncId → List AV → TH → Nat → CR} {g : FuncId} {args : List AV} {H : TH} {nx : Nat} (h : bareBody P K dfr call g args H nx ≠ .stuck) :
    ∃ fn c, Has P g fn c ∧ args.length ≤ fn.ntmps ∧ fn.ntmps ≤ 256 ∧ bareBody P K dfr call g args H nx = endOf P fn call (K g false dfr c ⟨fn.ntmps, mkT args, [], H, nx⟩) := by
  unfold bareBody at h ⊢
  split at h
  · exact absurd rfl h
  · rename_i fn hfn
    split at h
    · exact absurd rfl h
    · rename_i c hc
      simp only [hc]
      cases hn : (fn.name == "runtime.NumGoroutine") with
      | true => rw [hn] at h; exact absurd rfl h
      | false =>
        rw [hn, cond_false] at h
        cases hl : Nat.ble args.length fn.ntmps with
        | false => rw [hl] at h; exact absurd rfl h
        | true =>
          cases hl2 : Nat.ble fn.ntmps 256 with
          | false => rw [hl, cond_true, hl2] at h; exact absurd rfl h
          | true =>
            refine ⟨fn, c, ⟨hfn, hc, hn⟩, Nat.le_of_ble_eq_true hl, Nat.le_of_ble_eq_true hl2, ?_⟩
            simp only [cond_false, cond_true, bodyOf, TT.strict_eq, fnat_eq]
            unfold endOf
            cases K g false dfr c ⟨fn.ntmps, mkT args, [], H, nx⟩ <;> rfl

theorem body_end {dfr : Bool} {call : FuncId → List AV → TH → Nat → CR} (hK : KOK P K) (hc : DOK P call) {g : FuncId} {args : List AV} {H : TH} {nx : Nat} {fn : Func} {c : Code} (hl : args.length ≤ fn.ntmps) (hl2 : fn.ntmps ≤ 256)
    (h : endOf P fn call (K g false dfr c ⟨fn.ntmps, mkT args, [], H, nx⟩) ≠ .stuck) :
    Exec P g false c ⟨atmps fn args, [], if dfr then some .ret else none, (⟨H, nx⟩ : St TH)⟩ (bodyEnd P fn fun e cm st => cm = (if dfr then some .ret else none) ∧ InC (endOf P fn call (K g false dfr c ⟨fn.ntmps, mkT args, [], H, nx⟩)) e st) := by
  have hs : (⟨atmps fn args, [], if dfr then some .ret else none, (⟨H, nx⟩ : St TH)⟩ : FS TH) = FSof dfr ⟨fn.ntmps, mkT args, [], H, nx⟩ := by
    simp only [FSof, toL_mkT hl2 hl, atmps]
  rw [hs]
  refine hK.exec hl2 (by simp) ?_ (by intro e; rw [e] at h; exact h rfl)
  intro e t ht
  cases hk : K g false dfr c ⟨fn.ntmps, mkT args, [], H, nx⟩ with
  | stuck => rw [hk] at ht; exact ht.elim
  | exit i s => rw [hk] at h; exact absurd rfl h
  | goto l s => rw [hk] at h; exact absurd rfl h
  | normal s =>
    rw [hk] at ht h
    obtain ⟨rfl, rfl, _⟩ := ht
    exact (unw_sound hc _ _ _ h).mono fun e st he => ⟨rfl, he⟩
  | ret s =>
    rw [hk] at ht h
    obtain ⟨rfl, rfl, _⟩ := ht
    exact (unw_sound hc _ _ _ h).mono fun e st he => ⟨rfl, he⟩
  | many l =>
    rw [hk] at ht h
    obtain ⟨o, ho, hs⟩ := ht
    obtain ⟨h1, h2⟩ := flatC_sound h o ho
    cases o with
    | exit i s => exact absurd rfl h1
    | goto l s => exact absurd rfl h1
    | normal s => obtain ⟨rfl, rfl, _⟩ := hs; exact (unw_sound hc _ _ _ h1).mono fun e st he => ⟨rfl, h2 _ _ he⟩
    | ret s => obtain ⟨rfl, rfl, _⟩ := hs; exact (unw_sound hc _ _ _ h1).mono fun e st he => ⟨rfl, h2 _ _ he⟩

theorem dok_none : DOK P fun _ _ _ _ => .stuck := by intro g args H nx v H' nx' h; cases h

theorem dBody_sound (hK : KOK P K) : DOK P (dBody P K) := by
  intro g args H nx v H' nx' h
  have hne : bareBody P K true (fun _ _ _ _ => .stuck) g args H nx ≠ .stuck := by
    have : bareBody P K true (fun _ _ _ _ => .stuck) g args H nx = .ok v H' nx' := h
    rw [this]; simp
  obtain ⟨fn, c, hfn, hl, hl2, he⟩ := bare_has hne
  have h' : bareBody P K true (fun _ _ _ _ => .stuck) g args H nx = .ok v H' nx' := h
  rw [he] at h' hne
  have := body_end hK dok_none hl hl2 hne
  rw [h'] at this
  refine ⟨⟨fn, c, hfn⟩, acallD_of_exec hfn (this.mono fun e t ht => ?_)⟩
  cases e with
  | normal => exact Unw.mono (fun e st he => ⟨.ret, he.1, he.2.1, rfl, he.2.2⟩) ht
  | ret => exact Unw.mono (fun e st he => ⟨.ret, he.1, he.2.1, rfl, he.2.2⟩) ht
  | panic ch => exact Unw.mono (fun e st he => ⟨.ret, he.1, he.2.1, rfl, he.2.2⟩) ht
  | exit i => exact ht
  | goto l => exact ht

theorem cBody_sound (hK : KOK P K) {g : FuncId} {args : List AV} {H : TH} {nx : Nat} (h : cBody P K g args H nx ≠ .stuck) : CallsR P g args H nx (cBody P K g args H nx) := by
  obtain ⟨fn, c, hfn, hl, hl2, he⟩ := bare_has h
  have h' : endOf P fn (dBody P K) (K g false false c ⟨fn.ntmps, mkT args, [], H, nx⟩) ≠ .stuck := by rw [← he]; exact h
  have := body_end hK (dBody_sound hK) hl hl2 h'
  rw [← he] at this
  refine ⟨⟨fn, c, hfn⟩, acall_of_exec hfn (this.mono fun e t ht => ?_)⟩
  cases e with
  | normal => exact Unw.mono (fun e st he => he.2) ht
  | ret => exact Unw.mono (fun e st he => he.2) ht
  | panic ch => exact Unw.mono (fun e st he => he.2) ht
  | exit i => exact ht
  | goto l => exact ht

theorem callF_sound (hM : MemoOK P M) (hK : KOK P K) {g : FuncId} {args : List AV} {H : TH} {nx : Nat} (h : callF P M K g args H nx ≠ .stuck) : CallsR P g args H nx (callF P M K g args H nx) := by
  unfold callF at h ⊢
  split at h
  · rename_i v H' nx' hm
    exact hM _ _ _ _ _ _ _ hm
  · exact cBody_sound hK h

theorem roundF_sound (hK : KOK P K) {b : Nat} {args : List AV} {H H' : TH} {nx nx' : Nat} {v : AV} (h : roundF K b args H nx = .ok v H' nx') : ∃ j : Option Code, v = .bool j.isNone ∧ RoundRuns P b args (⟨H, nx⟩ : St TH) ⟨H', nx'⟩ j := by
  unfold roundF at h
  split at h <;> try (cases h; done)
  rename_i fn tmps params assign body d hb
  cases hlen : Nat.beq args.length params.length with
  | false => rw [hlen] at h; cases h
  | true =>
   cases hl2 : Nat.ble (setParams tmps params args).length 256 with
   | false => rw [hlen, cond_true, hl2] at h; cases h
   | true =>
    have hl3 : (setParams tmps params args).length ≤ 256 := Nat.le_of_ble_eq_true hl2
    rw [hlen, cond_true, hl2, cond_true] at h
    simp only [flist_eq, fnat_eq, TH.strict_eq, TT.strict_eq] at h
    have hs : (⟨setParams tmps params args, [], none, (⟨H, nx⟩ : St TH)⟩ : FS TH) = FSof false ⟨(setParams tmps params args).length, mkT (setParams tmps params args), [], H, nx⟩ := by
      simp only [FSof, toL_mkT hl3 (Nat.le_refl _)]
      simp
    cases hk : K fn true false assign ⟨(setParams tmps params args).length, mkT (setParams tmps params args), [], H, nx⟩ with
    | stuck => rw [hk] at h; cases h
    | exit i s => rw [hk] at h; cases h
    | goto l s => rw [hk] at h; cases h
    | many l => rw [hk] at h; cases h
    | ret s => rw [hk] at h; cases h
    | normal s1 =>
      rw [hk] at h
      simp only at h
      split at h <;> try (cases h; done)
      rename_i hds
      split at h <;> try (cases h; done)
      rename_i f1 t1 p1 a1 b1 d1 hb1
      have fin : ∀ (j : Option Code) (s2 : ES), roundOut b j s2 = .ok v H' nx' → (∀ e t, Says false (K fn true false body ⟨s1.n, s1.T, [], Hp.put s1.H b (some (.loop .busy none f1 t1 p1 a1 b1 d1)), s1.nx⟩) e t → jumpOf e = some j ∧ t = FSof false s2) →
          K fn true false body ⟨s1.n, s1.T, [], Hp.put s1.H b (some (.loop .busy none f1 t1 p1 a1 b1 d1)), s1.nx⟩ ≠ .stuck → ∃ j : Option Code, v = .bool j.isNone ∧ RoundRuns P b args (⟨H, nx⟩ : St TH) ⟨H', nx'⟩ j := by
        intro j s2 ho hsay hne
        unfold roundOut at ho
        split at ho <;> try (cases ho; done)
        rename_i x2 j2 f2 t2 p2 a2 b2 d2 hb2
        rw [TH.strict_eq] at ho
        cases ho
        refine ⟨j, rfl, fn, tmps, params, assign, body, d, hb, Nat.eq_of_beq_eq_true hlen, ?_⟩
        rw [hs]
        refine hK.exec hl3 (by simp) ?_ (by rw [hk]; simp)
        intro e t ht
        rw [hk] at ht
        obtain ⟨rfl, rfl, hn1⟩ := ht
        refine ⟨rfl, hds, f1, t1, p1, a1, b1, d1, hb1, ?_⟩
        have hs2 : (⟨(FSof false s1).tmps, [], none, ⟨Hp.put (FSof false s1).st.H b (some (.loop .busy none f1 t1 p1 a1 b1 d1)), (FSof false s1).st.nx⟩⟩ : FS TH) = FSof false ⟨s1.n, s1.T, [], Hp.put s1.H b (some (.loop .busy none f1 t1 p1 a1 b1 d1)), s1.nx⟩ := rfl
        rw [hs2]
        refine hK.exec (s := ⟨s1.n, s1.T, [], Hp.put s1.H b (some (.loop .busy none f1 t1 p1 a1 b1 d1)), s1.nx⟩) hn1 (by simp) ?_ hne
        intro e t ht
        obtain ⟨h1, rfl⟩ := hsay e t ht
        exact ⟨h1, x2, j2, f2, t2, p2, a2, b2, d2, hb2, rfl⟩
      cases hk2 : K fn true false body ⟨s1.n, s1.T, [], Hp.put s1.H b (some (.loop .busy none f1 t1 p1 a1 b1 d1)), s1.nx⟩ with
      | stuck => rw [hk2] at h; cases h
      | goto l s => rw [hk2] at h; cases h
      | many l => rw [hk2] at h; cases h
      | exit i s2 =>
        rw [hk2] at h fin
        exact fin (some (.exit i)) s2 h (fun e t ht => by obtain ⟨rfl, rfl, _⟩ := ht; exact ⟨rfl, rfl⟩) (by simp)
      | ret s2 =>
        rw [hk2] at h fin
        exact fin (some .ret) s2 h (fun e t ht => by obtain ⟨rfl, rfl, _⟩ := ht; exact ⟨rfl, rfl⟩) (by simp)
      | normal s2 =>
        rw [hk2] at h fin
        exact fin none s2 h (fun e t ht => by obtain ⟨rfl, rfl, _⟩ := ht; exact ⟨rfl, rfl⟩) (by simp)

/-! ### Operations -/
theorem plain_sound {f : FuncId} {rd : Bool} {ops : Array Oper} {i : Nat} {o : Oper} {n : Nat} {T : TT} {H H' : TH} {nx nx' : Nat} {v : AV} (h : plainOp P (evT n T) o H nx = .ok v H' nx') : OpRuns P f rd ops i o (toL n T) (⟨H, nx⟩ : St TH) v ⟨H', nx'⟩ := by
  unfold plainOp at h
  rw [aopF_eq] at h
  split at h
  · rename_i v1 st ho
    cases h
    rw [evT_eq] at ho
    exact opRuns_op ho
  · cases h

/-- An operation comes to one of the ways. -/
def OpRunsR (P : Program) (f : FuncId) (rd : Bool) (ops : Array Oper) (i : Nat) (o : Oper) (tm : List AV) (st : St TH) (r : CR) : Prop :=
  ∀ (E : Env) (ρ : Names) (Z : Frozen) (w : World) (a : Act) (b : Frame) (k : List Item) (cs : List Frame) (rest : List Nat), SR E ρ Z st w → (∀ x ∈ o.op.operands.toList, (aev tm x).rel ρ Z (a.eval x)) → ops[i]? = some o →
    Region.wanted o (yielded ops a.tmps) = true → b.fn = f → b.roundOf.isSome = rd →
    ∃ ws, r.ways = some ws ∧ ∃ ω ∈ ws, ∃ ρ' Z' w' cv, Ext ρ Z ρ' Z' ∧ st.nx ≤ ω.nx ∧ SR E ρ' Z' (⟨ω.H, ω.nx⟩ : St TH) w' ∧ ω.v.rel ρ' Z' cv ∧
      Steps P (lone (b.atR a (.inRegion ops (i :: rest) :: k)) cs w) (lone (b.atR (a.put o.dst cv) (.inRegion ops rest :: k)) cs w')

theorem OpRuns.toR {f : FuncId} {rd : Bool} {ops : Array Oper} {i : Nat} {o : Oper} {tm : List AV} {st : St TH} {v : AV} {H : TH} {nx : Nat} (h : OpRuns P f rd ops i o tm st v ⟨H, nx⟩) : OpRunsR P f rd ops i o tm st (.ok v H nx) := by
  intro E ρ Z w a b k cs rest h1 h2 h3 h4 h5 h6
  obtain ⟨ρ', Z', w', cv, g⟩ := h E ρ Z w a b k cs rest h1 h2 h3 h4 h5 h6
  exact ⟨_, rfl, ⟨v, H, nx⟩, by simp, ρ', Z', w', cv, g⟩
theorem OpRunsR.one {f : FuncId} {rd : Bool} {ops : Array Oper} {i : Nat} {o : Oper} {tm : List AV} {st : St TH} {v : AV} {H : TH} {nx : Nat} (h : OpRunsR P f rd ops i o tm st (.ok v H nx)) : OpRuns P f rd ops i o tm st v ⟨H, nx⟩ := by
  intro E ρ Z w a b k cs rest h1 h2 h3 h4 h5 h6
  obtain ⟨ws, hw, ω, hω, g⟩ := h E ρ Z w a b k cs rest h1 h2 h3 h4 h5 h6
  cases hw
  simp only [List.mem_singleton] at hω
  subst hω
  exact g

/-- A call that comes back in one of the ways. -/
theorem opRuns_ways {f : FuncId} {rd : Bool} {ops : Array Oper} {i : Nat} {o : Oper} {tm : List AV} {H : TH} {nx : Nat} {r : CR} {c : Call} (hop : o.op = .call c) {g : FuncId} {args : List AV} (ht : acallee P (aev tm) (Hp.get H) c = some (.enter g args))
    (h : CallsR P g args H nx r) : OpRunsR P f rd ops i o tm (⟨H, nx⟩ : St TH) r := by
  obtain ⟨⟨fn, cd, hfn⟩, h⟩ := h
  intro E ρ Z w a b k cs rest hr he ho hw hf hrd
  obtain ⟨cargs, hrun, hargs⟩ := enter_call hop hr he ht hfn
  have hg := stepGR_op (P := P) (b := b) (k := k) (cs := cs) (w := w) (rest := rest) ho hw
  rw [Oper.semAt_eq _ _ _ (by intro c e; rw [hop] at e; cases e)] at hg
  have hent : step P (lone (b.atR a (.inRegion ops (i :: rest) :: k)) cs w) = .next (lone (Frame.enter P g cargs .normal) (b.atR a (.inRegion ops (i :: rest) :: k) :: cs) w) := by
    refine step_lone_go ?_
    rw [hg]
    simp [stepG.apply, hrun, Frame.atR]
  obtain ⟨e, w', fr, hR, hcomes, _, hleave⟩ := h E ρ Z w _ hr hargs (b.atR a (.inRegion ops (i :: rest) :: k) :: cs)
  obtain ⟨ae, st1, ρ', Z', hin, hx, hnx, hst, hend⟩ := hR
  obtain ⟨ws, hws, ω, hω, rfl, rfl⟩ := inC_ways.1 hin
  obtain ⟨cv, rfl, hv'⟩ := hend
  exact ⟨ws, hws, ω, hω, ρ', Z', w', cv, hx, hnx, hst, hv', .head hent (Steps.trans hcomes (.one (by rw [step_leave_returned hleave, finish_put ho])))⟩

theorem actT_sound (op : Op) (ev : Operand → AV) (o : Oper) (H : TH) (nx : Nat) : actT op P M K ev o H nx = match op with
    | .call c => actCall P M K ev o H nx c.callee c
    | .next x isS => cond isS (plainOp P ev o H nx) (nextOp H nx (ev x) (plainOp P ev o H nx))
    | _ => plainOp P ev o H nx := by
  cases op <;> rfl

theorem plain_way {f : FuncId} {rd : Bool} {ops : Array Oper} {i : Nat} {o : Oper} {n : Nat} {T : TT} {H : TH} {nx : Nat} (h : plainOp P (evT n T) o H nx ≠ .stuck) : OpRunsR P f rd ops i o (toL n T) (⟨H, nx⟩ : St TH) (plainOp P (evT n T) o H nx) := by
  cases hp : plainOp P (evT n T) o H nx with
  | stuck => exact absurd hp h
  | ok v H' nx' => exact (plain_sound hp).toR
  | many l =>
    unfold plainOp at hp
    split at hp <;> cases hp

theorem mrels_filter {ρ : Names} {Z : Frozen} (p : Nat → Bool) : ∀ {es : List (AV × AV × Nat)} {l : List MapEntry}, mrels ρ Z es l → mrels ρ Z (es.filter fun e => p e.2.2) (l.filter fun e => p e.born)
  | [], l, h => by simp only [mrels] at h; subst h; simp [mrels]
  | (k, v, n) :: es, l, h => by
    simp only [mrels] at h
    obtain ⟨e, l', rfl, h1, h2, h3, h4⟩ := h
    have ih := mrels_filter p h4
    simp only [List.filter_cons, h3]
    cases p n with
    | false => simpa using ih
    | true => simp only [if_true, mrels]; exact ⟨e, _, rfl, h1, h2, h3, ih⟩
theorem mrels_born {ρ : Names} {Z : Frozen} {q : Nat → Prop} : ∀ {es : List (AV × AV × Nat)} {l : List MapEntry}, mrels ρ Z es l → (∀ e ∈ es, q e.2.2) → ∀ e ∈ l, q e.born
  | [], l, h, _ => by simp only [mrels] at h; subst h; simp
  | (k, v, n) :: es, l, h, hq => by
    simp only [mrels] at h
    obtain ⟨e, l', rfl, h1, h2, h3, h4⟩ := h
    intro e' he'
    rcases List.mem_cons.1 he' with rfl | he'
    · rw [h3]; exact hq (k, v, n) (by simp)
    · exact mrels_born h4 (fun x hx => hq x (List.mem_cons_of_mem _ hx)) e' he'
theorem mrels_at {ρ : Names} {Z : Frozen} : ∀ {es : List (AV × AV × Nat)} {l : List MapEntry} (i : Nat) {e : MapEntry}, mrels ρ Z es l → l[i]? = some e → ∃ k v n, es[i]? = some (k, v, n) ∧ k.rel ρ Z e.key ∧ v.rel ρ Z e.val ∧ e.born = n
  | [], l, i, e, h, he => by simp only [mrels] at h; subst h; simp at he
  | (k, v, n) :: es, l, 0, e, h, he => by
    simp only [mrels] at h
    obtain ⟨e', l', rfl, h1, h2, h3, h4⟩ := h
    simp at he; subst he
    exact ⟨k, v, n, rfl, h1, h2, h3⟩
  | (k, v, n) :: es, l, i + 1, e, h, he => by
    simp only [mrels] at h
    obtain ⟨e', l', rfl, h1, h2, h3, h4⟩ := h
    simpa using mrels_at i h4 (by simpa using he)
theorem mrels_len {ρ : Names} {Z : Frozen} : ∀ {es : List (AV × AV × Nat)} {l : List MapEntry}, mrels ρ Z es l → l.length = es.length
  | [], l, h => by simp only [mrels] at h; subst h; rfl
  | (k, v, n) :: es, l, h => by
    simp only [mrels] at h
    obtain ⟨e, l', rfl, _, _, _, h4⟩ := h
    simp [mrels_len h4]

/-- What the model's own `next` may come to, by what is left. -/
theorem run_next {P : Program} {w : World} {r m since last clock : Nat} {seen : Array Nat} {es : Array MapEntry} {ty : TypeId} (h1 : w.heap[r]? = some (.mapIter (some m) since seen last)) (h2 : w.heap[m]? = some (.map es clock))
    (ho : ∀ e ∈ es.toList, e.born < since) (hl : since ≤ last) :
    (es.toList.filter (fun e => !seen.contains e.born) = [] ∧ (Instr.next (.pointer (some ⟨r, 0, none⟩)) false ty).run P w = .ok (.tuple #[.bool false]) w) ∨
    (∃ (i : Nat) (e : MapEntry) (w1 : World), (es.toList.filter (fun e => !seen.contains e.born))[i]? = some e ∧ (w1 = w ∨ w1 = w.drew) ∧
      ∀ w2, (setObj r (.mapIter (some m) since (seen.push e.born) clock)).run P w1 = .ok () w2 → (Instr.next (.pointer (some ⟨r, 0, none⟩)) false ty).run P w = .ok (.tuple #[.bool true, e.key, e.val]) w2) := by
  have hobj : (getObj r).run P w = .ok (.mapIter (some m) since seen last) w := by simp [getObj, Sem.run, h1]
  have hobm : (getObj m).run P w = .ok (.map es clock) w := by simp [getObj, Sem.run, h2]
  have hbar : (!seen.isEmpty && !es.isEmpty && es.all (·.born ≥ last)) = false := by
    cases hes : es.toList with
    | nil =>
      have : es = #[] := Array.ext' hes
      subst this; simp
    | cons e l =>
      have he := ho e (by rw [hes]; simp)
      have : es.all (·.born ≥ last) = false := by
        rw [← Array.all_toList, hes]
        have hn : ¬ (last ≤ e.born) := by omega
        simp [hn]
      rw [this]; simp
  have hleft : ∀ l : List MapEntry, (∀ e ∈ l, e.born < since) → l.filter (fun e => decide (e.born < since)) = l ∧ l.filter (fun e => decide (e.born ≥ since)) = [] := by
    intro l hl
    constructor
    · exact List.filter_eq_self.2 fun e he => by simp [hl e he]
    · exact List.filter_eq_nil_iff.2 fun e he => by have := hl e he; simp; omega
  have hmem : ∀ e ∈ es.toList.filter (fun e => !seen.contains e.born), e.born < since := fun e he => ho e (List.mem_filter.1 he).1
  obtain ⟨f1, f2⟩ := hleft _ hmem
  have g1 : (es.filter fun e => !seen.contains e.born).filter (fun e => decide (e.born < since)) = es.filter fun e => !seen.contains e.born := by
    apply Array.ext'
    simpa using f1
  have g2 : (es.filter fun e => !seen.contains e.born).filter (fun e => decide (e.born ≥ since)) = #[] := by
    apply Array.ext'
    simpa using f2
  have hrun : ∀ X : Sem Value, (Instr.next (.pointer (some ⟨r, 0, none⟩)) false ty) = X → True := fun _ _ => trivial
  by_cases hemp : es.toList.filter (fun e => !seen.contains e.born) = []
  · left
    refine ⟨hemp, ?_⟩
    have ge : (es.filter fun e => !seen.contains e.born) = #[] := by
      apply Array.ext'
      simpa using hemp
    simp only [Instr.next, Sem.run_bind, hobj, hobm, Result.andThen_ok, hbar, g1, g2, ge]
    simp [choose, Sem.run, Question.forced]
  · right
    generalize hL : (es.filter fun e => !seen.contains e.born) = L at *
    have hLl : es.toList.filter (fun e => !seen.contains e.born) = L.toList := by rw [← hL]; simp
    rw [hLl] at hemp ⊢
    have hsz : 0 < L.size := by
      rcases Nat.eq_zero_or_pos L.size with h | h
      · exact absurd (by simpa using Array.eq_empty_of_size_eq_zero h) hemp
      · exact h
    have hne : L.isEmpty = false := by have : L.size ≠ 0 := by omega
                                       simp [Array.isEmpty, this]
    have step : ∀ (i : Nat) (e : MapEntry) (w1 w2 : World), L[i]? = some e → (choose (.mapNext L.size)).run P w = .ok i w1 → (setObj r (.mapIter (some m) since (seen.push e.born) clock)).run P w1 = .ok () w2 →
        (Instr.next (.pointer (some ⟨r, 0, none⟩)) false ty).run P w = .ok (.tuple #[.bool true, e.key, e.val]) w2 := by
      intro i e w1 w2 hi hc hs
      simp only [Instr.next, Sem.run_bind, hobj, hobm, Result.andThen_ok, hbar, hL, g1, g2, hne]
      simp [hc, hi, hs]
    by_cases hf : L.size ≤ 1
    · refine ⟨0, L[0], w, by simp [hsz], Or.inl rfl, fun w2 hs => step 0 L[0] w w2 (by simp [hsz]) ?_ hs⟩
      simp [choose, Sem.run, Question.forced, hf]
    · have hlt : w.tape w.drawn (.mapNext L.size) % L.size < L.size := Nat.mod_lt _ hsz
      have hi : L[w.tape w.drawn (.mapNext L.size) % L.size]? = some L[w.tape w.drawn (.mapNext L.size) % L.size] := Array.getElem?_eq_getElem hlt
      refine ⟨w.tape w.drawn (.mapNext L.size) % L.size, L[w.tape w.drawn (.mapNext L.size) % L.size], w.drew, by rw [Array.getElem?_toList]; exact hi, Or.inr rfl, fun w2 hs => step _ _ w.drew w2 hi ?_ hs⟩
      simp [choose, Sem.run, Question.forced, hf, Question.cut]

/-- A walk over a map goes on. -/
theorem next_way {f : FuncId} {rd : Bool} {ops : Array Oper} {i : Nat} {o : Oper} {n : Nat} {T : TT} {H : TH} {nx : Nat} {x : Operand} (hop : o.op = .next x false) (h : nextOp H nx (evT n T x) (plainOp P (evT n T) o H nx) ≠ .stuck) :
    OpRunsR P f rd ops i o (toL n T) (⟨H, nx⟩ : St TH) (nextOp H nx (evT n T x) (plainOp P (evT n T) o H nx)) := by
  unfold nextOp at h ⊢
  split at h <;> try (exact plain_way h)
  rename_i b off hx
  split at h <;> try (exact plain_way h)
  split at h <;> try (exact plain_way h)
  rename_i m since seen last hb
  split at h <;> try (exact plain_way h)
  rename_i es clock hm
  cases hc : (es.all (fun e => Nat.ble (Nat.succ e.2.2) since) && Nat.ble since last) with
  | false => rw [hc, cond_false] at h; rw [cond_false]; exact plain_way h
  | true =>
    rw [cond_true]
    simp only [Bool.and_eq_true, List.all_eq_true] at hc
    obtain ⟨hold, hle⟩ := hc
    intro E ρ Z w a bf k cs rest hr he ho hw hf hrd
    have hxv := he x (by rw [hop]; simp [Op.operands])
    rw [← evT_eq, hx] at hxv
    simp only [AV.rel] at hxv
    obtain ⟨p, hp, hxv⟩ := hxv
    have hb' : Hp.get H b = some (.iter (some m) since seen last) := hb
    have hm' : Hp.get H m = some (.map es clock) := hm
    obtain ⟨hbase, mb, ⟨q, hq, rfl⟩, hwb⟩ := iter_at (s := (⟨H, nx⟩ : St TH)) hr hb' hp
    obtain ⟨q', om, k1, k2, k3, _⟩ := hr.live _ _ hm'
    rw [hq] at k1; cases k1
    obtain ⟨ents, rfl, hme⟩ := k3
    rw [hbase] at hxv
    have hres := run_next (P := P) (ty := o.type) hwb k2 (mrels_born (q := fun n => n < since) hme fun e he => by
      have := hold e he
      rw [ble_succ] at this
      simpa using this) (Nat.le_of_ble_eq_true hle)
    have hfil := mrels_filter (fun n => !seen.contains n) hme
    have hcon : ∀ e : MapEntry, seen.toArray.contains e.born = seen.contains e.born := fun e => by simp
    simp only [hcon] at hres
    have hgo : ∀ (cv : Value) (w' : World), (Instr.next (.pointer (some ⟨p.block, 0, none⟩)) false o.type).run P w = .ok cv w' → Steps P (lone (bf.atR a (.inRegion ops (i :: rest) :: k)) cs w) (lone (bf.atR (a.put o.dst cv) (.inRegion ops rest :: k)) cs w') := by
      intro cv w' hrun
      refine .one (step_op ho hw (by intro c e; rw [hop] at e; cases e) (n := .value cv) ?_ rfl)
      have hxv' : a.eval x = .pointer (some ⟨p.block, 0, none⟩) := hxv
      simp only [execOp, hop, hxv', Sem.run_bind, hrun, Result.andThen_ok, Sem.run_pure]
    cases hl : leftOf seen es with
    | nil =>
      rcases hres with ⟨h1, h2⟩ | ⟨j, e, w1, h1, _⟩
      · refine ⟨_, rfl, ⟨.tuple [.bool false], H, nx⟩, by simp, ρ, Z, w, .tuple #[.bool false], Ext.refl _ _, Nat.le_refl _, hr, by simp [AV.rel, AV.rels], hgo _ _ h2⟩
      · have hlen := mrels_len hfil
        have : (es.filter fun e => !seen.contains e.2.2) = [] := hl
        rw [this] at hlen
        have h0 : ents.toList.filter (fun e => !seen.contains e.born) = [] := by simpa using hlen
        rw [h0] at h1; simp at h1
    | cons e0 l0 =>
      rcases hres with ⟨h1, h2⟩ | ⟨j, e, w1, h1, h2, h3⟩
      · have hlen := mrels_len hfil
        rw [h1] at hlen
        have : (es.filter fun e => !seen.contains e.2.2) = e0 :: l0 := hl
        rw [this] at hlen; simp at hlen
      · obtain ⟨kk, vv, nn, g1, g2, g3, g4⟩ := mrels_at j hfil h1
        subst g4
        have hmem : (kk, vv, e.born) ∈ leftOf seen es := List.mem_of_getElem? g1
        rw [hl] at hmem
        have hr1 : SR E ρ Z (⟨H, nx⟩ : St TH) w1 := by rcases h2 with rfl | rfl; exact hr; exact hr.drew
        have hwb1 : w1.heap[p.block]? = some (.mapIter (some q.block) since seen.toArray last) := by rcases h2 with rfl | rfl <;> exact hwb
        obtain ⟨w2, f1, f2⟩ := setObj_iter (P := P) (k' := .iter (some m) since (seen ++ [e.born]) clock) hr1 hb' hp (o' := .mapIter (some q.block) since (seen.toArray.push e.born) clock) ⟨hbase, some q.block, ⟨q, hq, rfl⟩, by simp⟩ hwb1
        refine ⟨_, rfl, ⟨.tuple [.bool true, kk, vv], Hp.put H b (some (.iter (some m) since (seen ++ [e.born]) clock)), nx⟩, ?_, ρ, Z, w2, .tuple #[.bool true, e.key, e.val], Ext.refl _ _, Nat.le_refl _, f2, ?_, hgo _ _ (h3 w2 f1)⟩
        · exact List.mem_map.2 ⟨_, hmem, rfl⟩
        · simp only [AV.rel]
          exact ⟨_, rfl, AV.rels_cons (by simp [AV.rel]) (AV.rels_cons g2 (AV.rels_cons g3 AV.rels_nil))⟩

theorem act_way (hM : MemoOK P M) (hK : KOK P K) {f : FuncId} {rd : Bool} {ops : Array Oper} {i : Nat} {o : Oper} {n : Nat} {T : TT} {H : TH} {nx : Nat} (h : actOp P M K (evT n T) o H nx ≠ .stuck) :
    OpRunsR P f rd ops i o (toL n T) (⟨H, nx⟩ : St TH) (actOp P M K (evT n T) o H nx) := by
  unfold actOp at h ⊢
  rw [actT_sound] at h ⊢
  split at h
  · rename_i c hop
    unfold actCall at h ⊢
    split at h
    · exact plain_way h
    · unfold tgtF at h ⊢
      rw [evT_eq] at h ⊢
      split at h
      · rename_i g args ht
        exact opRuns_ways hop ht (callF_sound hM hK h)
      · rename_i b args ht
        cases hr : roundF K b args H nx with
        | stuck => rw [hr] at h; exact absurd rfl h
        | many l =>
          exfalso
          unfold roundF at hr
          split at hr <;> try (cases hr; done)
          simp only [flist_eq, fnat_eq, TT.strict_eq, TH.strict_eq] at hr
          cases hc : (cond (Nat.beq args.length _) (Nat.ble _ 256) false) <;> rw [hc] at hr <;> try (cases hr; done)
          simp only [cond_true] at hr
          split at hr <;> try (cases hr; done)
          split at hr <;> try (cases hr; done)
          split at hr <;> try (cases hr; done)
          split at hr <;> try (cases hr; done)
          all_goals (unfold roundOut at hr; split at hr <;> first | (cases hr; done) | (rw [TH.strict_eq] at hr; cases hr))
        | ok v H' nx' =>
          obtain ⟨j, rfl, hrr⟩ := roundF_sound hK hr
          exact (opRuns_round hop ht hrr).toR
      · exact absurd rfl h
  · rename_i x isS hop
    cases isS with
    | true => exact plain_way h
    | false => exact next_way hop h
  · exact plain_way h
theorem act_sound (hM : MemoOK P M) (hK : KOK P K) {f : FuncId} {rd : Bool} {ops : Array Oper} {i : Nat} {o : Oper} {n : Nat} {T : TT} {H H' : TH} {nx nx' : Nat} {v : AV} (h : actOp P M K (evT n T) o H nx = .ok v H' nx') :
    OpRuns P f rd ops i o (toL n T) (⟨H, nx⟩ : St TH) v ⟨H', nx'⟩ := by
  have := act_way (f := f) (rd := rd) (ops := ops) (i := i) hM hK (show actOp P M K (evT n T) o H nx ≠ .stuck by rw [h]; simp)
  rw [h] at this
  exact this.one

theorem ops_ways {f : FuncId} {rd : Bool} {s : FS TH} {Q : AExit → FS TH → Prop} {ops : Array Oper} {i : Nat} {rest : List Nat} {o : Oper} (ho : ops[i]? = some o) (hw : awanted ops s.tmps o = some true) {r : CR} (hop : OpRunsR P f rd ops i o s.tmps s.st r)
    (h : ∀ ws, r.ways = some ws → ∀ ω ∈ ws, ExecI P f rd (.inRegion ops rest) { s with tmps := aput s.tmps o.dst ω.v, st := ⟨ω.H, ω.nx⟩ } Q) : ExecI P f rd (.inRegion ops (i :: rest)) s Q := by
  intro E ρ Z w a b k cs hr hf hrd
  have hw' := wanted_sound hr.tmps hw
  obtain ⟨ws, hws, ω, hω, ρ', Z', w', cv, g3, g4, g5, g6, hs⟩ := hop E ρ Z w a b k cs rest hr.st (fun x _ => eval_rel hr.tmps x) ho hw' hf hrd
  have hfr : FRel E ρ' Z' { s with tmps := aput s.tmps o.dst ω.v, st := ⟨ω.H, ω.nx⟩ } b cs (a.put o.dst cv) w' :=
    ⟨g5, put_rel (AV.rels_mono g3 _ _ hr.tmps) g6, by rw [put_defers]; exact drels_mono g3 hr.defers, hr.caller.mono g3⟩
  obtain ⟨e, s2, ρ2, Z2, w2, a2, cs2, q1, q2, q3, q4, q5, q6, q7⟩ := h ws hws ω hω E ρ' Z' w' (a.put o.dst cv) b k cs hfr hf hrd
  exact ⟨e, s2, ρ2, Z2, w2, a2, cs2, q1, g3.trans q2, Nat.le_trans g4 q3, q4, q5, q6, q7.of_steps hs⟩

theorem runT_eq (op : Op) (rd : Bool) (o : Oper) (n : Nat) (T : TT) (ds : List ADef) (H : TH) (nx : Nat) : runT op P M K rd o n T ds H nx = match op with
    | .call c => runCall P M K rd o n T ds H nx c.callee c
    | .defer c => runDefer rd n T ds H nx c
    | _ => runAct P M K o n T ds H nx := by
  cases op <;> rfl

theorem isRecover_eq {cal : Callee} (h : isRecover cal = true) : cal = .builtin .recover := by
  unfold isRecover at h
  split at h
  · rfl
  · cases h

theorem opsGo_sound (hM : MemoOK P M) (hK : KOK P K) {f : FuncId} {rd dfr : Bool} (hd : rd = true → dfr = false) {ops : Array Oper} : ∀ (l : List Oper) (i : Nat), ops.toList.drop i = l → ∀ s, s.n ≤ 256 → opsGo P M K rd ops l s ≠ .stuck →
    ExecI P f rd (.inRegion ops (List.range' i l.length)) (FSof dfr s) (Says dfr (opsGo P M K rd ops l s))
  | [], i, hi, s, hn, h => ops_nil ⟨rfl, rfl, hn⟩
  | o :: l, i, hi, s, hn, h => by
    have ho : ops[i]? = some o := by
      rw [← Array.getElem?_toList]
      have := congrArg (·[0]?) hi
      simpa using this
    have hi' : ops.toList.drop (i + 1) = l := by
      have := congrArg (List.drop 1) hi
      simpa using this
    obtain ⟨n, T, ds, H, nx⟩ := s
    have hn' : n ≤ 256 := hn
    have hgo : opsGo P M K rd ops (o :: l) ⟨n, T, ds, H, nx⟩ = opsStep2 P M K rd ops o (opsGo P M K rd ops l) n T ds H nx := rfl
    rw [hgo] at h ⊢
    simp only [List.length_cons, List.range'_succ]
    unfold opsStep2 at h ⊢
    rw [wantT_eq] at h ⊢
    cases hw : awanted ops (toL n T) o with
    | none => rw [hw] at h; exact absurd rfl h
    | some t =>
      rw [hw] at h
      cases t with
      | false =>
        simp only [TT.strict_eq] at h ⊢
        refine ops_skip ho hw ?_
        have e : ({ FSof dfr ⟨n, T, ds, H, nx⟩ with tmps := aput (FSof dfr ⟨n, T, ds, H, nx⟩).tmps o.dst undefA } : FS TH) = FSof dfr ⟨n, putT T o.dst undefA, ds, H, nx⟩ := by
          simp only [FSof, putT_eq n hn']
        rw [e]
        exact opsGo_sound hM hK hd l (i + 1) hi' _ hn' h
      | true =>
        have hgen : ∀ (v : AV) (H' : TH) (nx' : Nat), OpRuns P f rd ops i o (toL n T) (⟨H, nx⟩ : St TH) v ⟨H', nx'⟩ → opsGo P M K rd ops l ⟨n, putT T o.dst v, ds, H', nx'⟩ ≠ .stuck →
            ExecI P f rd (.inRegion ops (i :: List.range' (i + 1) l.length)) (FSof dfr ⟨n, T, ds, H, nx⟩) (Says dfr (opsGo P M K rd ops l ⟨n, putT T o.dst v, ds, H', nx'⟩)) := by
          intro v H' nx' hr hn
          refine ops_runs ho hw hr ?_
          have e : ({ FSof dfr ⟨n, T, ds, H, nx⟩ with tmps := aput (FSof dfr ⟨n, T, ds, H, nx⟩).tmps o.dst v, st := ⟨H', nx'⟩ } : FS TH) = FSof dfr ⟨n, putT T o.dst v, ds, H', nx'⟩ := by
            simp only [FSof, putT_eq n hn']
          rw [e]
          exact opsGo_sound hM hK hd l (i + 1) hi' _ hn' hn
        have hact : ∀ r, runAct P M K o n T ds H nx = r → opsGoOn n o.dst (opsGo P M K rd ops l) T r ≠ .stuck → ExecI P f rd (.inRegion ops (i :: List.range' (i + 1) l.length)) (FSof dfr ⟨n, T, ds, H, nx⟩) (Says dfr (opsGoOn n o.dst (opsGo P M K rd ops l) T r)) := by
          intro r hr h
          subst hr
          unfold runAct at h ⊢
          cases ha : actOp P M K (evT n T) o H nx with
          | stuck => rw [ha] at h; exact absurd rfl h
          | ok v H nx =>
            rw [ha] at h
            simp only [runAct1, CR.strict_ok] at h ⊢
            simp only [opsGoOn, TT.strict_eq] at h ⊢
            exact hgen v H nx (act_sound hM hK ha) h
          | many ws =>
            have hway := act_way (f := f) (rd := rd) (ops := ops) (i := i) hM hK (show actOp P M K (evT n T) o H nx ≠ .stuck by rw [ha]; simp)
            rw [ha] at h hway
            simp only [runAct1, opsGoOn] at h ⊢
            refine ops_ways ho hw hway ?_
            intro ws' hws ω hω
            cases hws
            obtain ⟨h1, h2⟩ := flatE_sound h ω hω
            simp only [TH.strict_eq, TT.strict_eq] at h1
            have e : ({ FSof dfr ⟨n, T, ds, H, nx⟩ with tmps := aput (FSof dfr ⟨n, T, ds, H, nx⟩).tmps o.dst ω.v, st := ⟨ω.H, ω.nx⟩ } : FS TH) = FSof dfr ⟨n, putT T o.dst ω.v, ds, ω.H, ω.nx⟩ := by
              simp only [FSof, putT_eq n hn']
            rw [e]
            have g := opsGo_sound (f := f) hM hK hd l (i + 1) hi' _ hn' h1
            intro E ρ Z w a b k cs hr hf hrd
            refine (g E ρ Z w a b k cs hr hf hrd).mono fun e t ht => h2 dfr e t ?_
            simp only [TH.strict_eq, TT.strict_eq]
            exact ht
        have hrun : ∀ r, runOp P M K rd o n T ds H nx = r → opsGoOn n o.dst (opsGo P M K rd ops l) T r ≠ .stuck → ExecI P f rd (.inRegion ops (i :: List.range' (i + 1) l.length)) (FSof dfr ⟨n, T, ds, H, nx⟩) (Says dfr (opsGoOn n o.dst (opsGo P M K rd ops l) T r)) := by
          intro r hr h
          unfold runOp at hr
          rw [runT_eq] at hr
          split at hr
          · rename_i c hop
            unfold runCall at hr
            cases hrec : isRecover c.callee with
            | false => rw [hrec, cond_false] at hr; exact hact r hr h
            | true =>
              rw [hrec, cond_true] at hr
              cases rd with
              | true => rw [cond_true] at hr; subst hr; exact absurd rfl h
              | false =>
                rw [cond_false] at hr
                split at hr <;> try (subst hr; exact absurd rfl h)
                rename_i hargs
                subst hr
                have hop' : o.op = .call { callee := .builtin .recover, args := #[], argTypes := c.argTypes } := by
                  rw [hop]
                  have hcal := isRecover_eq hrec
                  obtain ⟨cal, xs, ts⟩ := c
                  simp only at hcal hargs
                  subst hcal
                  have : xs = #[] := Array.ext' hargs
                  subst this
                  rfl
                simp only [opsGoOn, TT.strict_eq] at h ⊢
                refine ops_recover rfl ho hw hop' ?_
                have e : ({ FSof dfr ⟨n, T, ds, H, nx⟩ with tmps := aput (FSof dfr ⟨n, T, ds, H, nx⟩).tmps o.dst (arecover (FSof dfr ⟨n, T, ds, H, nx⟩).cm).1, cm := (arecover (FSof dfr ⟨n, T, ds, H, nx⟩).cm).2 } : FS TH) = FSof dfr ⟨n, putT T o.dst .nilIface, ds, H, nx⟩ := by
                  cases dfr <;> simp [FSof, putT_eq n hn', arecover]
                rw [e]
                exact opsGo_sound hM hK hd l (i + 1) hi' _ hn' h
          · rename_i c hop
            unfold runDefer at hr
            cases rd with
            | true => rw [cond_true] at hr; subst hr; exact absurd rfl h
            | false =>
              rw [cond_false] at hr
              obtain ⟨cal, xs, ts⟩ := c
              simp only at hr
              split at hr <;> try (subst hr; exact absurd rfl h)
              rename_i fx
              rw [evT_eq] at hr
              cases hdf : adef (aev (toL n T) fx) (xs.toList.map (aev (toL n T))) with
              | none => rw [hdf] at hr; simp only at hr; subst hr; exact absurd rfl h
              | some d =>
                rw [hdf] at hr
                simp only at hr
                subst hr
                simp only [opsGoOn, TT.strict_eq] at h ⊢
                refine ops_defer rfl ho hw hop hdf ?_
                have e : ({ FSof dfr ⟨n, T, ds, H, nx⟩ with tmps := aput (FSof dfr ⟨n, T, ds, H, nx⟩).tmps o.dst undefA, defers := d :: (FSof dfr ⟨n, T, ds, H, nx⟩).defers } : FS TH) = FSof dfr ⟨n, putT T o.dst undefA, d :: ds, H, nx⟩ := by
                  simp only [FSof, putT_eq n hn']
                rw [e]
                exact opsGo_sound hM hK hd l (i + 1) hi' _ hn' h
          · exact hact r hr h
        exact hrun _ rfl h
end Go.Am

/- Plans that are checked: what the check tells. -/
namespace Go.Am
open Go.RowKit

variable {ops : Array Oper}

theorem allIdx_at {chk : Oper → Nat → Bool} : ∀ (l : List Oper) (i0 : Nat), allIdx chk l i0 = true → ∀ (k : Nat) (o : Oper), l[k]? = some o → chk o (i0 + k) = true
  | [], i0, h, k, o, hk => by simp at hk
  | x :: l, i0, h, k, o, hk => by
    have h' : (chk x i0 && allIdx chk l (i0 + 1)) = true := h
    simp only [Bool.and_eq_true] at h'
    cases k with
    | zero => simp at hk; subst hk; exact h'.1
    | succ k =>
      have := allIdx_at l (i0 + 1) h'.2 k o (by simpa using hk)
      rw [show i0 + (k + 1) = i0 + 1 + k by omega]
      exact this
theorem allIdx_ops {chk : Oper → Nat → Bool} (h : allIdx chk ops.toList 0 = true) {i : Nat} {o : Oper} (ho : ops[i]? = some o) : chk o i = true := by
  have := allIdx_at ops.toList 0 h i o (by simpa using ho)
  simpa using this

theorem edgesMask_tb {ms : Tr Nat} : ∀ (l : List Edge) (j : Nat), tb (edgesMask ms l) j = true → ∃ e ∈ l, edgeOn e = true ∧ (e.on = j ∨ tb (natD (ms.get e.on)) j = true)
  | [], j, h => by
    change tb 0 j = true at h
    rw [tb_zero] at h; cases h
  | e :: l, j, h => by
    change tb (cond (edgeOn e) (Nat.lor (Nat.lor (bit e.on) (natD (ms.get e.on))) (edgesMask ms l)) (edgesMask ms l)) j = true at h
    cases he : edgeOn e with
    | false =>
      rw [he, cond_false] at h
      obtain ⟨e', h1, h2⟩ := edgesMask_tb l j h
      exact ⟨e', List.mem_cons_of_mem _ h1, h2⟩
    | true =>
      rw [he, cond_true, tb_or, tb_or, tb_bit] at h
      simp only [Bool.or_eq_true, decide_eq_true_eq] at h
      rcases h with (h | h) | h
      · exact ⟨e, by simp, he, Or.inl h.symm⟩
      · exact ⟨e, by simp, he, Or.inr h⟩
      · obtain ⟨e', h1, h2⟩ := edgesMask_tb l j h
        exact ⟨e', List.mem_cons_of_mem _ h1, h2⟩

def depM (ms : Tr Nat) (i j : Nat) : Prop := tb (natD (ms.get i)) j = true

theorem okDep_edges {ms : Tr Nat} (h : okDep ms ops.toList 0 = true) : EdgesBack ops := by
  intro i o ho e he hb
  have := allIdx_ops h ho
  simp only [Bool.and_eq_true, List.all_eq_true] at this
  have h1 := this.1 e he
  rw [edgeOn_eq] at hb
  rw [hb] at h1
  simp only [Bool.not_true, Bool.false_or] at h1
  exact Nat.le_of_ble_eq_true h1
theorem okDep_dep {ms : Tr Nat} (h : okDep ms ops.toList 0 = true) : DepOf ops (depM ms) := by
  intro i j o hd ho
  have := allIdx_ops h ho
  simp only [Bool.and_eq_true] at this
  have h2 := Nat.eq_of_beq_eq_true this.2
  unfold depM at hd
  rw [h2] at hd
  obtain ⟨e, h3, h4, h5⟩ := edgesMask_tb _ _ hd
  exact ⟨e, h3, by rw [edgeOn_eq]; exact h4, h5⟩
theorem okDst_at {W : Tr Nat} (h : okDst W ops.toList 0 = true) {i : Nat} {o : Oper} {d : Tmp} (ho : ops[i]? = some o) (hd : o.dst = some d) : W.get d = some i := by
  have := allIdx_ops h ho
  simp only [hd] at this
  split at this
  · rename_i j hj
    rw [hj, Nat.eq_of_beq_eq_true this]
  · cases this

def seenAt (seen : Nat) : List Nat → Nat → Nat
  | _, 0 => seen
  | [], _ + 1 => seen
  | i :: π, q + 1 => seenAt (Nat.lor (bit i) seen) π q
theorem seenAt_tb : ∀ (π : List Nat) (seen q i : Nat), tb (seenAt seen π q) i = true ↔ tb seen i = true ∨ ∃ u, u < q ∧ π[u]? = some i
  | π, seen, 0, i => by cases π <;> simp [seenAt]
  | [], seen, q + 1, i => by simp [seenAt]
  | x :: π, seen, q + 1, i => by
    simp only [seenAt]
    rw [seenAt_tb π _ q i, tb_or, tb_bit]
    simp only [Bool.or_eq_true, decide_eq_true_eq]
    constructor
    · rintro ((h | h) | ⟨u, h1, h2⟩)
      · exact Or.inr ⟨0, by omega, by simp [h]⟩
      · exact Or.inl h
      · exact Or.inr ⟨u + 1, by omega, by simpa using h2⟩
    · rintro (h | ⟨u, h1, h2⟩)
      · exact Or.inl (Or.inr h)
      · cases u with
        | zero => simp at h2; exact Or.inl (Or.inl h2.symm)
        | succ u => exact Or.inr ⟨u, by omega, by simpa using h2⟩

theorem okPlan_at {ms W : Tr Nat} {lits : Nat} : ∀ (π : List Nat) (seen : Nat), okPlan ops ms W lits π seen = true →
    (∀ q i, π[q]? = some i → i < ops.size ∧ tb (seenAt seen π q) i = false ∧ sub (natD (ms.get i)) (seenAt seen π q) = true ∧ ∀ o, ops[i]? = some o → kindOf ops W lits i o = .anchor → sub (seenAt seen π q) (natD (ms.get i)) = true) ∧
    seenAt seen π π.length = Nat.sub (bit ops.size) 1
  | [], seen, h => ⟨fun q i hi => by simp at hi, Nat.eq_of_beq_eq_true h⟩
  | x :: π, seen, h => by
    have h' : ((Nat.ble (Nat.succ x) ops.size && !tb seen x) && (sub (natD (ms.get x)) seen && ((match ops[x]? with | some o => (match kindOf ops W lits x o with | .anchor => sub seen (natD (ms.get x)) | _ => true) | none => false) && okPlan ops ms W lits π (Nat.lor (bit x) seen)))) = true := h
    simp only [Bool.and_eq_true] at h'
    obtain ⟨⟨h1, h2⟩, h3, h4, h5⟩ := h'
    obtain ⟨g1, g2⟩ := okPlan_at π _ h5
    refine ⟨fun q i hi => ?_, by simpa [seenAt] using g2⟩
    cases q with
    | zero =>
      simp at hi
      subst hi
      have hse : seenAt seen (x :: π) 0 = seen := rfl
      rw [hse]
      refine ⟨Nat.le_of_ble_eq_true h1, by simpa using h2, h3, fun o ho hk => ?_⟩
      rw [ho] at h4
      simp only [hk] at h4
      exact h4
    | succ q => exact g1 q i (by simpa using hi)

/-- What a plan must be. -/
structure PlanFacts (ops : Array Oper) (W : Tr Nat) (lits : Nat) (dep : Nat → Nat → Prop) (π : List Nat) : Prop where
  nodup : ∀ (q u i : Nat), π[q]? = some i → π[u]? = some i → q = u
  bound : ∀ (q i : Nat), π[q]? = some i → i < ops.size
  full : ∀ i, i < ops.size → ∃ q : Nat, π[q]? = some i
  len : π.length = ops.size
  looks : ∀ (q u i j : Nat) (o o' : Oper) (t : Tmp), π[q]? = some i → π[u]? = some j → ops[i]? = some o → ops[j]? = some o' → t ∈ o.looksAt ops → o'.dst = some t → (u < q → dep i j) ∧ (q < u → dep j i)
  anchors : ∀ (q u i j : Nat) (o : Oper), ops[i]? = some o → kindOf ops W lits i o = .anchor → u < q → π[q]? = some i → π[u]? = some j → dep i j

theorem okFor_facts {ms W : Tr Nat} {lits : Nat} {π : List Nat} (hW : okDst W ops.toList 0 = true) (h : okFor ops ms W lits π = true) : PlanFacts ops W lits (depM ms) π := by
  unfold okFor at h
  simp only [Bool.and_eq_true] at h
  obtain ⟨h1, h2, h3⟩ := h
  obtain ⟨g1, g2⟩ := okPlan_at π 0 h3
  have hnd : ∀ (q u i : Nat), u < q → π[q]? = some i → π[u]? = some i → False := by
    intro q u i hlt hq hu
    have := (g1 q i hq).2.1
    have h2 := (seenAt_tb π 0 q i).2 (Or.inr ⟨u, hlt, hu⟩)
    rw [this] at h2; cases h2
  have nodup : ∀ (q u i : Nat), π[q]? = some i → π[u]? = some i → q = u := by
    intro q u i hq hu
    rcases Nat.lt_trichotomy q u with h | h | h
    · exact (hnd u q i h hu hq).elim
    · exact h
    · exact (hnd q u i h hq hu).elim
  have ahead : ∀ (q i j : Nat), π[q]? = some i → depM ms i j → ∃ u, u < q ∧ π[u]? = some j := by
    intro q i j hq hd
    have := sub_tb (g1 q i hq).2.2.1 hd
    rcases (seenAt_tb π 0 q j).1 this with h | h
    · rw [tb_zero] at h; cases h
    · exact h
  refine ⟨nodup, fun q i hq => (g1 q i hq).1, fun i hi => ?_, Nat.eq_of_beq_eq_true h2, ?_, ?_⟩
  · have ht : tb (seenAt 0 π π.length) i = true := by
      rw [g2, tb_eq]
      show (1 <<< ops.size - 1).testBit i = true
      rw [Nat.one_shiftLeft, Nat.testBit_two_pow_sub_one]
      simp [hi]
    rcases (seenAt_tb π 0 _ i).1 ht with h | ⟨u, _, h⟩
    · rw [tb_zero] at h; cases h
    · exact ⟨u, h⟩
  · intro q u i j o o' t hq hu ho ho' ht hd
    have hj := okDst_at hW ho' hd
    have hl := allIdx_ops h1 ho
    simp only [List.all_eq_true] at hl
    have := hl t ht
    rw [hj] at this
    simp only [Bool.or_eq_true] at this
    constructor
    · intro hlt
      rcases this with h | h | h
      · have := Nat.eq_of_beq_eq_true h
        subst this
        exact absurd (nodup _ _ _ hq hu) (by omega)
      · exact h
      · obtain ⟨q', h1, h2⟩ := ahead u j i hu h
        have := nodup _ _ _ hq h2
        omega
    · intro hlt
      rcases this with h | h | h
      · have := Nat.eq_of_beq_eq_true h
        subst this
        exact absurd (nodup _ _ _ hq hu) (by omega)
      · obtain ⟨u', h1, h2⟩ := ahead q i j hq h
        have := nodup _ _ _ hu h2
        omega
      · exact h
  · intro q u i j o ho hk hlt hq hu
    exact sub_tb ((g1 q i hq).2.2.2 o ho hk) ((seenAt_tb π 0 q j).2 (Or.inr ⟨u, hlt, hu⟩))
end Go.Am

/- What one step of a plan does. -/
namespace Go.Am
open Go.RowKit

mutual
theorem AV.same_eq : ∀ (x y : AV), x.same y = true → x = y
  | .bool a, y, h => by cases y <;> simp_all [AV.same]
  | .int k a, y, h => by cases y <;> simp_all [AV.same]
  | .str a, y, h => by cases y <;> simp_all [AV.same]
  | .nilPtr, y, h => by cases y <;> simp_all [AV.same]
  | .ptr a b, y, h => by cases y <;> simp_all [AV.same]
  | .nilSlice, y, h => by cases y <;> simp_all [AV.same]
  | .slice .., y, h => by cases y <;> simp_all [AV.same]
  | .nilMap, y, h => by cases y <;> simp_all [AV.same]
  | .map b, y, h => by cases y <;> simp_all [AV.same]
  | .nilFunc, y, h => by cases y <;> simp_all [AV.same]
  | .iface t v, y, h => by
    cases y <;> simp only [AV.same, Bool.false_eq_true] at h
    rename_i u x
    simp only [Bool.and_eq_true] at h
    rw [Nat.eq_of_beq_eq_true h.1, AV.same_eq v x h.2]
  | .nilIface, y, h => by cases y <;> simp_all [AV.same]
  | .agg a, y, h => by
    cases y <;> simp only [AV.same, Bool.false_eq_true] at h
    rw [AV.sames_eq a _ h]
  | .tuple a, y, h => by
    cases y <;> simp only [AV.same, Bool.false_eq_true] at h
    rw [AV.sames_eq a _ h]
  | .junk, y, h => by simp [AV.same] at h
  | .pref a, y, h => by
    cases y <;> simp only [AV.same, Bool.false_eq_true] at h
    rw [AV.sames_eq a _ h]
  | .vec a n t, y, h => by
    cases y <;> simp only [AV.same, Bool.false_eq_true] at h
    simp only [Bool.and_eq_true, beq_iff_eq] at h
    rw [Nat.eq_of_beq_eq_true h.1, h.2.1, AV.sames_eq a _ h.2.2]
  | .func fn a c, y, h => by
    cases fn <;> cases y <;> (first | (simp only [AV.same, Bool.false_eq_true] at h; done) | skip)
    rename_i g fn2 b d
    cases fn2 <;> simp only [AV.same, Bool.false_eq_true] at h
    simp only [Bool.and_eq_true] at h
    rw [Nat.eq_of_beq_eq_true h.1, AV.sames_eq a _ h.2.1, AV.sames_eq c _ h.2.2]
  | .yld _, y, h => by simp [AV.same] at h
theorem AV.sames_eq : ∀ (x y : List AV), AV.sames x y = true → x = y
  | [], y, h => by cases y <;> simp_all [AV.sames]
  | a :: as, y, h => by
    cases y with
    | nil => simp [AV.sames] at h
    | cons b bs =>
      simp only [AV.sames, Bool.and_eq_true] at h
      rw [AV.same_eq a b h.1, AV.sames_eq as bs h.2]
end

variable {P : Program} {M : Memo} {K : Knot} {ops : Array Oper} {p : Plan}

/-- What an operation at its place in a plan has done. -/
inductive SW (P : Program) (M : Memo) (K : Knot) (ops : Array Oper) (p : Plan) (i : Nat) (o : Oper) (x x' : XS) : Prop where
  | skip (hw : awanted ops (toL x.n x.T) o = some false) (w : x'.w = .skip) (v : x'.v = undefA) (H : x'.H = x.H) (nx : x'.nx = x.nx) (bs : x'.bs = x.bs) (l : x'.lit = x.lit)
  | quiet (hw : awanted ops (toL x.n x.T) o = some true) (w : x'.w = .quiet) (H : x'.H = x.H) (nx : x'.nx = x.nx) (bs : x'.bs = x.bs) (l : x'.lit = x.lit) (hk : kindOf ops p.W p.lits i o = .quiet)
      (v : quietVal P (evT x.n x.T) o (natD (p.ms.get i)) x.H0 x.bs = some x'.v)
  | make (lit : Bool) (B : ABlk) (hw : awanted ops (toL x.n x.T) o = some true) (w : x'.w = .make lit B) (v : amk P (aev (toL x.n x.T)) o x.nx = some (x'.v, B)) (H : x'.H = Hp.put x.H x.nx (some (if lit then .lit [] else B))) (nx : x'.nx = x.nx + 1)
      (bs : x'.bs = x.bs) (hl : lit = true → B = .map [] 0 ∧ x'.lit = some (x.q, i, x.nx, [])) (hn : lit = false → x'.lit = x.lit)
  | insert (u : Nat) (k y : AV) (hw : awanted ops (toL x.n x.T) o = some true) (w : x'.w = .insert u k y) (ty kt e : TypeId) (om ok ov : Operand) (hop : o.op = .insert ty om ok ov) (hty : P.underlying ty = some (.map kt e)) (j b : Nat) (kvs : List (AV × AV))
      (l : x.lit = some (u, j, b, kvs)) (h1 : aev (toL x.n x.T) om = .map b) (h2 : aev (toL x.n x.T) ok = k) (h3 : aev (toL x.n x.T) ov = y) (hd : tb (natD (p.ms.get i)) j = true) (hmk : ∃ o', ops[j]? = some o' ∧ o'.op = .makeMap ty none) (hk : akey P 10000 kt k = true)
      (hf : ∀ a ∈ kvs, aeq P 10000 kt k a.1 = some false ∧ aeq P 10000 kt a.1 k = some false) (H : x'.H = Hp.put x.H b (some (.lit (kvs ++ [(k, y)])))) (nx : x'.nx = x.nx) (bs : x'.bs = x.bs) (l' : x'.lit = some (u, j, b, kvs ++ [(k, y)])) (v : x'.v = .tuple [])
  | anchor (hw : awanted ops (toL x.n x.T) o = some true) (w : x'.w = .anchor) (a : actOp P M K (evT x.n x.T) o x.H x.nx = .ok x'.v x'.H x'.nx) (hnx : x.nx ≤ x'.nx) (bs : x'.bs = (i, x'.H) :: x.bs) (l : x'.lit = none) (hk : kindOf ops p.W p.lits i o = .anchor)
structure Stepped (P : Program) (M : Memo) (K : Knot) (ops : Array Oper) (p : Plan) (i : Nat) (o : Oper) (x x' : XS) : Prop where
  n : x'.n = x.n
  q : x'.q = x.q + 1
  H0 : x'.H0 = x.H0
  T : x'.T = putT x.T o.dst x'.v
  what : SW P M K ops p i o x x'

theorem nextX_eq {n : Nat} {T : TT} {H0 : TH} {q : Nat} {o : Oper} {v : AV} {H : TH} {nx : Nat} {bs : List (Nat × TH)} {lit : Option (Nat × Nat × Nat × List (AV × AV))} {w : Wt} : nextX n T H0 q o v H nx bs lit w = some ⟨n, putT T o.dst v, H, nx, q + 1, bs, H0, lit, w, v⟩ := by
  simp only [nextX, fval_eq, TT.strict_eq, TH.strict_eq, fnat_eq]

theorem fresh_at {kt : TypeId} {k : AV} : ∀ (kvs : List (AV × AV)), freshKey P kt k kvs = true → ∀ a ∈ kvs, aeq P 10000 kt k a.1 = some false ∧ aeq P 10000 kt a.1 k = some false
  | [], h, a, ha => by simp at ha
  | e :: l, h, a, ha => by
    have h' : (match aeqF P 9999 kt k e.1 with | some b => cond b false (match aeqF P 9999 kt e.1 k with | some b => cond b false (freshKey P kt k l) | none => false) | none => false) = true := h
    rw [aeqF_eq, aeqF_eq] at h'
    cases h1 : aeq P (9999 + 1) kt k e.1 with
    | none => rw [h1] at h'; cases h'
    | some b =>
      rw [h1] at h'
      cases b with
      | true => cases h'
      | false =>
        simp only [cond_false] at h'
        cases h2 : aeq P (9999 + 1) kt e.1 k with
        | none => rw [h2] at h'; cases h'
        | some b =>
          rw [h2] at h'
          cases b with
          | true => cases h'
          | false =>
            simp only [cond_false] at h'
            rcases List.mem_cons.1 ha with rfl | ha
            · exact ⟨h1, h2⟩
            · exact fresh_at l h' a ha

theorem kindOf_insert {W : Tr Nat} {lits i j : Nat} {o : Oper} {ty : TypeId} {m k v : Operand} (hop : o.op = .insert ty m k v) (h : kindOf ops W lits i o = .insert j) : ∃ o', ops[j]? = some o' ∧ o'.op = .makeMap ty none := by
  unfold kindOf at h
  rw [hop] at h
  simp only at h
  split at h <;> try (cases h; done)
  split at h <;> try (cases h; done)
  split at h <;> try (cases h; done)
  rename_i o' ho'
  split at h <;> try (cases h; done)
  rename_i t' hm
  cases hc : Nat.beq t' ty with
  | false => rw [hc] at h; cases h
  | true =>
    rw [hc] at h
    cases h
    rw [Nat.eq_of_beq_eq_true hc] at hm
    exact ⟨o', ho', hm⟩
theorem stepX_sound {i : Nat} {o : Oper} {x x' : XS} (ho : ops[i]? = some o) (h : stepX P M K ops p i x = some x') : Stepped P M K ops p i o x x' := by
  obtain ⟨n, T, H, nx, q, bs, H0, l, w, v⟩ := x
  have h : stepX2 P M K ops p i o n T H nx q bs H0 l = some x' := by
    unfold stepX at h
    rw [ho] at h
    exact h
  unfold stepX2 at h
  rw [wantT_eq] at h
  split at h
  · cases h
  · rename_i hw
    rw [nextX_eq] at h
    cases h
    exact ⟨rfl, rfl, rfl, rfl, .skip hw rfl rfl rfl rfl rfl rfl⟩
  · rename_i hw
    split at h
    · rename_i hk
      unfold stepAnchor at h
      split at h
      · cases h
      · cases h
      · rename_i v1 H1 nx1 ha
        cases hle : Nat.ble nx nx1 with
        | false => rw [hle] at h; cases h
        | true =>
          rw [hle, cond_true, TH.strict_eq, nextX_eq] at h
          cases h
          exact ⟨rfl, rfl, rfl, rfl, .anchor hw rfl ha (Nat.le_of_ble_eq_true hle) rfl rfl hk⟩
    · rename_i lit hk
      rw [amkF_eq, evT_eq] at h
      unfold stepMake at h
      split at h
      · cases h
      · rename_i v1 B hm
        cases lit with
        | false =>
          rw [cond_false, nextX_eq] at h
          cases h
          exact ⟨rfl, rfl, rfl, rfl, .make false B hw rfl hm rfl rfl rfl (by simp) (fun _ => rfl)⟩
        | true =>
          rw [cond_true] at h
          split at h <;> try (cases h; done)
          split at h <;> try (cases h; done)
          split at h <;> try (cases h; done)
          rw [nextX_eq] at h
          cases h
          exact ⟨rfl, rfl, rfl, rfl, .make true (.map [] 0) hw rfl hm rfl rfl rfl (fun _ => ⟨rfl, rfl⟩) (by simp)⟩
    · rename_i j hk
      unfold stepInsert at h
      split at h <;> try (cases h; done)
      rename_i ty om ok ov hop
      split at h <;> try (cases h; done)
      rename_i kt e hty
      split at h <;> try (cases h; done)
      rename_i b hb
      split at h <;> try (cases h; done)
      rename_i u j' b' kvs _
      cases hc : (Nat.beq j j' && (Nat.beq b b' && tb (natD (p.ms.get i)) j')) with
      | false => rw [hc] at h; cases h
      | true =>
        simp only [hc, cond_true, fval_eq, flist_eq] at h
        cases hc2 : (akeyF P kt (evT n T ok) && freshKey P kt (evT n T ok) kvs) with
        | false => rw [hc2] at h; cases h
        | true =>
          rw [hc2, cond_true, nextX_eq] at h
          cases h
          simp only [Bool.and_eq_true] at hc hc2
          obtain ⟨c1, c2, c3⟩ := hc
          obtain ⟨c4, c5⟩ := hc2
          rw [akeyF_eq] at c4
          have e1 := Nat.eq_of_beq_eq_true c1
          have e2 := Nat.eq_of_beq_eq_true c2
          subst e1; subst e2
          rw [evT_eq] at hb c4 c5 ⊢
          exact ⟨rfl, rfl, rfl, rfl, .insert u _ _ hw (by simp only [evT_eq]) ty kt e om ok ov hop hty j b kvs rfl hb rfl rfl c3 (kindOf_insert hop hk) c4 (fresh_at kvs c5) rfl rfl rfl rfl rfl⟩
    · rename_i hk
      unfold stepQuiet at h
      split at h
      · rename_i v1 hv
        rw [nextX_eq] at h
        cases h
        exact ⟨rfl, rfl, rfl, rfl, .quiet hw rfl rfl rfl rfl rfl hk hv⟩
      · cases h

/-- A plan that has run to its end has run through all its places. -/
theorem goX_seq : ∀ (π : List Nat) (x xn : XS), goX P M K ops p π x = some xn → ∃ X : Nat → XS, X 0 = x ∧ X π.length = xn ∧ ∀ q i, π[q]? = some i → stepX P M K ops p i (X q) = some (X (q + 1))
  | [], x, xn, h => by
    have h' : some x = some xn := h
    cases h'
    exact ⟨fun _ => x, rfl, rfl, fun q i hi => by simp at hi⟩
  | i :: π, x, xn, h => by
    have h' : (match stepX P M K ops p i x with | some x' => goX P M K ops p π x' | none => none) = some xn := h
    cases hs : stepX P M K ops p i x with
    | none => rw [hs] at h'; cases h'
    | some x1 =>
      rw [hs] at h'
      obtain ⟨X, h1, h2, h3⟩ := goX_seq π x1 xn h'
      refine ⟨fun q => match q with | 0 => x | q + 1 => X q, rfl, by simpa using h2, fun q j hj => ?_⟩
      cases q with
      | zero =>
        simp at hj
        subst hj
        simp only [h1]; exact hs
      | succ q => exact h3 q j (by simpa using hj)
theorem goX_append : ∀ (a b : List Nat) (x : XS), goX P M K ops p (a ++ b) x = (goX P M K ops p a x).bind (goX P M K ops p b)
  | [], b, x => rfl
  | i :: a, b, x => by
    show (match stepX P M K ops p i x with | some x' => goX P M K ops p (a ++ b) x' | none => none) = ((match stepX P M K ops p i x with | some x' => goX P M K ops p a x' | none => none) : Option XS).bind _
    cases stepX P M K ops p i x with
    | none => rfl
    | some x' => exact goX_append a b x'
end Go.Am

/- A plan that has run is a certificate. -/
namespace Go.Am
open Go.RowKit

variable {P : Program} {M : Memo} {K : Knot} {f : FuncId} {rd dfr : Bool} {ops : Array Oper} {p : Plan} {π : List Nat} {X : Nat → XS} {dep : Nat → Nat → Prop}

def Wt.isAnch : Wt → Bool | .anchor => true | _ => false
def Wt.isMake : Wt → Bool | .make _ _ => true | _ => false
def Wt.isLit : Wt → Bool | .make true _ => true | _ => false
def Wt.blk : Wt → ABlk | .make _ b => b | _ => .deferred false
def Wt.tg : Wt → Option Nat | .insert u _ _ => some u | _ => none
def Wt.kx : Wt → AV | .insert _ k _ => k | _ => .junk
def Wt.vx : Wt → AV | .insert _ _ v => v | _ => .junk

noncomputable def runOf (n0 : Nat) (π : List Nat) (X : Nat → XS) : Run TH where
  anch q := decide (q < π.length) && (X (q + 1)).w.isAnch
  made q := decide (q < π.length) && (X (q + 1)).w.isMake
  lit q := (X (q + 1)).w.isLit
  blk q := (X (q + 1)).w.blk
  tg q := if q < π.length then (X (q + 1)).w.tg else none
  kx q := (X (q + 1)).w.kx
  vx q := (X (q + 1)).w.vx
  cur q := toL n0 (X q).T
  st q := ⟨(X q).H, (X q).nx⟩
  v q := (X (q + 1)).v

theorem aq_noMem {ev : Operand → AV} {o : Oper} (h : noMem o = true) (H H' : Heap) : aq P ev o H = aq P ev o H' := by
  unfold noMem at h
  unfold aq
  cases hop : o.op <;> simp only [hop, Bool.false_eq_true] at h ⊢

/-- What is read tells the same at all bases that count. -/
def AllB (P : Program) (ev : Operand → AV) (o : Oper) (m : Nat) (v : AV) (H0 : TH) : List (Nat × TH) → Prop
  | [] => aq P ev o (Hp.get H0) = some v
  | (a, H) :: rest => aq P ev o (Hp.get H) = some v ∧ (tb m a = true ∨ AllB P ev o m v H0 rest)

theorem readsSame_all {ev : Operand → AV} {o : Oper} {m : Nat} {v : AV} {H0 : TH} : ∀ {bs : List (Nat × TH)}, readsSame P ev o m v H0 bs = true → AllB P ev o m v H0 bs
  | [], h => by
    have h' : (match aqF o.op P ev (Hp.get H0) with | some v' => v.same v' | none => false) = true := h
    rw [aqF_eq] at h'
    cases hq : aq P ev o (Hp.get H0) with
    | none => rw [hq] at h'; cases h'
    | some v' => rw [hq] at h'; rw [AllB, hq, AV.same_eq _ _ h']
  | (a, H) :: bs, h => by
    have h' : (match aqF o.op P ev (Hp.get H) with | some v' => cond (v.same v') (cond (tb m a) true (readsSame P ev o m v H0 bs)) false | none => false) = true := h
    rw [aqF_eq] at h'
    cases hq : aq P ev o (Hp.get H) with
    | none => rw [hq] at h'; cases h'
    | some v' =>
      rw [hq] at h'
      simp only at h'
      cases hs : v.same v' with
      | false => rw [hs] at h'; cases h'
      | true =>
        rw [hs, cond_true] at h'
        refine ⟨by rw [hq, AV.same_eq _ _ hs], ?_⟩
        cases ht : tb m a with
        | true => exact Or.inl rfl
        | false => rw [ht, cond_false] at h'; exact Or.inr (readsSame_all h')

theorem quiet_all {ev : Operand → AV} {o : Oper} {m : Nat} {v : AV} {H0 : TH} {bs : List (Nat × TH)} (h : quietVal P ev o m H0 bs = some v) : AllB P ev o m v H0 bs := by
  unfold quietVal at h
  split at h
  · rw [aqF_eq] at h; exact h
  · rename_i a H rest
    rw [aqF_eq] at h
    split at h
    · rename_i v1 hq
      cases hm : noMem o with
      | true =>
        rw [hm, cond_true] at h
        cases h
        have : ∀ bs : List (Nat × TH), AllB P ev o m v H0 bs := by
          intro bs
          induction bs with
          | nil => rw [AllB, aq_noMem hm _ (Hp.get H), hq]
          | cons b bs ih => exact ⟨by rw [aq_noMem hm _ (Hp.get H), hq], Or.inr ih⟩
        exact this _
      | false =>
        rw [hm, cond_false] at h
        cases ht : tb m a with
        | true => rw [ht, cond_true] at h; cases h; exact ⟨hq, Or.inl ht⟩
        | false =>
          rw [ht, cond_false] at h
          cases hr : readsSame P ev o m v1 H0 rest with
          | false => rw [hr] at h; cases h
          | true => rw [hr, cond_true] at h; cases h; exact ⟨hq, Or.inr (readsSame_all hr)⟩
    · cases h

theorem kvs_succ (R : Run TH) (u r : Nat) : R.kvs u (r + 1) = R.kvs u r ++ if R.tg r == some u then [(R.kx r, R.vx r)] else [] := by
  simp only [Run.kvs, List.range_succ, List.filter_append, List.map_append, List.filter_cons, List.filter_nil]
  split <;> simp
theorem kvs_mem {R : Run TH} {u r x : Nat} (hx : x < r) (ht : R.tg x = some u) : (R.kx x, R.vx x) ∈ R.kvs u r := by
  simp only [Run.kvs, List.mem_map, List.mem_filter, List.mem_range]
  exact ⟨x, ⟨hx, by simp [ht]⟩, rfl⟩

section seq
variable {s : ES} (hbd : ∀ (q i : Nat), π[q]? = some i → i < ops.size) (hX0 : X 0 = XS.of s) (hX : ∀ q i, π[q]? = some i → stepX P M K ops p i (X q) = some (X (q + 1)))
 include hbd hX0 hX

theorem seq_step {q : Nat} (hq : q < π.length) : ∃ i o, π[q]? = some i ∧ ops[i]? = some o ∧ Stepped P M K ops p i o (X q) (X (q + 1)) := by
  have hi : π[q]? = some π[q] := by simp [hq]
  have ho : ops[π[q]]? = some (ops[π[q]]'(hbd q _ hi)) := by simp [hbd q _ hi]
  exact ⟨_, _, hi, ho, stepX_sound ho (hX q _ hi)⟩
theorem seq_step' {q i : Nat} {o : Oper} (hi : π[q]? = some i) (ho : ops[i]? = some o) : Stepped P M K ops p i o (X q) (X (q + 1)) := stepX_sound ho (hX q i hi)

theorem seq_n : ∀ q, q ≤ π.length → (X q).n = s.n ∧ (X q).q = q ∧ (X q).H0 = s.H
  | 0, _ => by rw [hX0]; exact ⟨rfl, rfl, rfl⟩
  | q + 1, h => by
    obtain ⟨i, o, _, _, hs⟩ := seq_step hbd hX0 hX (q := q) (by omega)
    obtain ⟨h1, h2, h3⟩ := seq_n q (by omega)
    exact ⟨by rw [hs.n, h1], by rw [hs.q, h2], by rw [hs.H0, h3]⟩

theorem run_anch {q i : Nat} {o : Oper} (hi : π[q]? = some i) (ho : ops[i]? = some o) (h : (runOf s.n π X).anch q = true) : kindOf ops p.W p.lits i o = .anchor ∧ (X (q + 1)).bs = (i, (X (q + 1)).H) :: (X q).bs := by
  have hw : (X (q + 1)).w.isAnch = true := by
    have : (decide (q < π.length) && (X (q + 1)).w.isAnch) = true := h
    simp only [Bool.and_eq_true] at this
    exact this.2
  cases (seq_step' hbd hX0 hX hi ho).what with
  | skip _ w => rw [w] at hw; cases hw
  | quiet _ w => rw [w] at hw; cases hw
  | make _ _ _ w => rw [w] at hw; cases hw
  | insert _ _ _ _ w => rw [w] at hw; cases hw
  | anchor _ w a _ bs l hk => exact ⟨hk, bs⟩
theorem run_still {q i : Nat} {o : Oper} (hi : π[q]? = some i) (ho : ops[i]? = some o) (h : (runOf s.n π X).anch q = false) : (X (q + 1)).bs = (X q).bs := by
  have hl : q < π.length := by
    rcases Nat.lt_or_ge q π.length with h | h
    · exact h
    · rw [List.getElem?_eq_none h] at hi; cases hi
  cases (seq_step' hbd hX0 hX hi ho).what with
  | skip _ _ _ _ _ bs => exact bs
  | quiet _ _ _ _ bs => exact bs
  | make _ _ _ _ _ _ _ bs => exact bs
  | insert _ _ _ _ _ _ _ _ _ _ _ _ _ _ _ _ _ _ _ _ _ _ _ _ _ _ bs => exact bs
  | anchor _ w =>
    have : (decide (q < π.length) && (X (q + 1)).w.isAnch) = false := h
    rw [w] at this
    simp [hl, Wt.isAnch] at this

theorem bases_ok {ev : Operand → AV} {o : Oper} {i : Nat} {v : AV} (hsub : ∀ j, depM p.ms i j → dep i j) : ∀ q, q ≤ π.length → AllB P ev o (natD (p.ms.get i)) v s.H (X q).bs → ∀ q0, q0 ≤ q → (runOf s.n π X).base q0 →
    (∀ r j : Nat, q0 ≤ r → r < q → (runOf s.n π X).anch r = true → π[r]? = some j → ¬ dep i j) → aq P ev o (Hp.get ((runOf s.n π X).st q0).H) = some v
  | 0, _, h, q0, hq0, hb, hno => by
    have : q0 = 0 := by omega
    subst this
    have e1 : (X 0).bs = [] := by rw [hX0]; rfl
    have e2 : (X 0).H = s.H := by rw [hX0]; rfl
    rw [e1] at h
    show aq P ev o (Hp.get (X 0).H) = some v
    rw [e2]; exact h
  | q + 1, hq, h, q0, hq0, hb, hno => by
    obtain ⟨iq, oq, hi, ho, hs⟩ := seq_step hbd hX0 hX (q := q) (by omega)
    cases ha : (runOf s.n π X).anch q with
    | true =>
      obtain ⟨_, hbs⟩ := run_anch hbd hX0 hX hi ho ha
      rw [hbs] at h
      obtain ⟨h1, h2⟩ := h
      by_cases e : q0 = q + 1
      · subst e; exact h1
      · have hnd := hno q iq (by omega) (by omega) ha hi
        rcases h2 with h2 | h2
        · exact absurd (hsub _ h2) hnd
        · exact bases_ok hsub q (by omega) h2 q0 (by omega) hb fun r j hr hr2 => hno r j hr (by omega)
    | false =>
      rw [run_still hbd hX0 hX hi ho ha] at h
      by_cases e : q0 = q + 1
      · subst e
        rcases hb with hb | ⟨r, hr, hra⟩
        · omega
        · have : r = q := by omega
          subst this
          rw [ha] at hra; cases hra
      · exact bases_ok hsub q (by omega) h q0 (by omega) hb fun r j hr hr2 => hno r j hr (by omega)

/-- What is known of the literal map that is being filled. -/
def LitOK (ops : Array Oper) (R : Run TH) (π : List Nat) (q : Nat) : Option (Nat × Nat × Nat × List (AV × AV)) → Prop
  | none => True
  | some (u, j, b, kvs) => u < q ∧ π[u]? = some j ∧ R.made u = true ∧ R.lit u = true ∧ b = (R.st u).nx ∧ (∀ r, u ≤ r → r < q → R.anch r = false) ∧ kvs = R.kvs u q

theorem tg_lit {x u : Nat} (h : (runOf s.n π X).tg x = some u) : x < π.length ∧ ∃ j b kvs, (X x).lit = some (u, j, b, kvs) := by
  have h' : (if x < π.length then (X (x + 1)).w.tg else none) = some u := h
  split at h'
  · rename_i hx
    obtain ⟨i, o, hi, ho, hs⟩ := seq_step hbd hX0 hX hx
    refine ⟨hx, ?_⟩
    cases hs.what with
    | skip _ w => rw [w] at h'; cases h'
    | quiet _ w => rw [w] at h'; cases h'
    | make _ _ _ w => rw [w] at h'; cases h'
    | anchor _ w => rw [w] at h'; cases h'
    | insert u' k y hw w ty kt e om ok ov hop hty j b kvs l =>
      rw [w] at h'
      cases h'
      exact ⟨j, b, kvs, l⟩
  · cases h'

theorem lits_ok : ∀ q, q ≤ π.length → ∀ q', q' ≤ q → LitOK ops (runOf s.n π X) π q' (X q').lit
  | 0, _, q', hq' => by
    have : q' = 0 := by omega
    subst this
    rw [hX0]; trivial
  | q + 1, hq, q', hq' => by
    have ih := lits_ok q (by omega)
    by_cases e : q' = q + 1
    · subst e
      obtain ⟨i, o, hi, ho, hs⟩ := seq_step hbd hX0 hX (q := q) (by omega)
      have hql : q < π.length := by omega
      have keep : (X (q + 1)).lit = (X q).lit → (runOf s.n π X).anch q = false → (runOf s.n π X).tg q = none → LitOK ops (runOf s.n π X) π (q + 1) (X (q + 1)).lit := by
        intro hl ha ht
        rw [hl]
        have := ih q (Nat.le_refl _)
        cases hx : (X q).lit with
        | none => trivial
        | some a =>
          obtain ⟨u, j, b, kvs⟩ := a
          rw [hx] at this
          obtain ⟨h1, h2, h3, h4, h5, h6, h7⟩ := this
          refine ⟨by omega, h2, h3, h4, h5, fun r hr hr2 => ?_, ?_⟩
          · by_cases er : r = q
            · subst er; exact ha
            · exact h6 r hr (by omega)
          · rw [kvs_succ, ht]; simpa using h7
      have hna : (X (q + 1)).w.isAnch = false → (runOf s.n π X).anch q = false := by
        intro h
        show (decide (q < π.length) && (X (q + 1)).w.isAnch) = false
        rw [h]; simp
      have hnt : (X (q + 1)).w.tg = none → (runOf s.n π X).tg q = none := by
        intro h
        show (if q < π.length then (X (q + 1)).w.tg else none) = none
        rw [h]; simp
      cases hs.what with
      | skip _ w _ _ _ _ l => exact keep l (hna (by rw [w]; rfl)) (hnt (by rw [w]; rfl))
      | quiet _ w _ _ _ l => exact keep l (hna (by rw [w]; rfl)) (hnt (by rw [w]; rfl))
      | anchor _ _ _ _ _ l => rw [l]; trivial
      | make lit B _ w _ _ _ _ hl hn =>
        have ha := hna (by rw [w]; rfl)
        have ht := hnt (by rw [w]; rfl)
        cases lit with
        | false => exact keep (hn rfl) ha ht
        | true =>
          rw [(hl rfl).2, (seq_n hbd hX0 hX q (by omega)).2.1]
          refine ⟨by omega, hi, ?_, ?_, rfl, fun r hr hr2 => ?_, ?_⟩
          · show (decide (q < π.length) && (X (q + 1)).w.isMake) = true
            rw [w]; simp [hql, Wt.isMake]
          · show (X (q + 1)).w.isLit = true
            rw [w]; rfl
          · have : r = q := by omega
            subst this; exact ha
          · symm
            unfold Run.kvs
            rw [List.map_eq_nil_iff, List.filter_eq_nil_iff]
            intro x hx
            rw [List.mem_range] at hx
            intro htg
            have htg : (runOf s.n π X).tg x = some q := by simpa using htg
            by_cases ex : x = q
            · subst ex; rw [ht] at htg; cases htg
            · obtain ⟨_, j, b, kvs, hl⟩ := tg_lit hbd hX0 hX htg
              have := ih x (by omega)
              rw [hl] at this
              have := this.1
              omega
      | insert u k y hw w ty kt e om ok ov hop hty j b kvs l h1 h2 h3 hd hmk hk hf H nx bs l' v =>
        rw [l']
        have := ih q (Nat.le_refl _)
        rw [l] at this
        obtain ⟨g1, g2, g3, g4, g5, g6, g7⟩ := this
        have ha := hna (by rw [w]; rfl)
        refine ⟨by omega, g2, g3, g4, g5, fun r hr hr2 => ?_, ?_⟩
        · by_cases er : r = q
          · subst er; exact ha
          · exact g6 r hr (by omega)
        · have ht : (runOf s.n π X).tg q = some u := by
            show (if q < π.length then (X (q + 1)).w.tg else none) = some u
            rw [w]; simp [hql, Wt.tg]
          have hkx : (runOf s.n π X).kx q = k := by show (X (q + 1)).w.kx = k; rw [w]; rfl
          have hvx : (runOf s.n π X).vx q = y := by show (X (q + 1)).w.vx = y; rw [w]; rfl
          rw [kvs_succ, ht, hkx, hvx, ← g7]
          simp
    · exact ih q' (by omega)

theorem cert_of (hM : MemoOK P M) (hK : KOK P K) (hn : s.n ≤ 256) (hW : okDst p.W ops.toList 0 = true) (hsub : ∀ i j, depM p.ms i j → dep i j) (F : PlanFacts ops p.W p.lits dep π) :
    Cert P f rd ops dep π (runOf s.n π X) (FSof dfr s) := by
  have hlt : ∀ {q i : Nat}, π[q]? = some i → q < π.length := by
    intro q i hi
    rcases Nat.lt_or_ge q π.length with h | h
    · exact h
    · rw [List.getElem?_eq_none h] at hi; cases hi
  have hnn : ∀ q, q ≤ π.length → (X q).n = s.n := fun q h => (seq_n hbd hX0 hX q h).1
  refine ⟨F.nodup, F.bound, F.full, F.len, ?_, ?_, ?_, ?_, ?_, F.looks, ?_, ?_, ?_⟩
  · show toL s.n (X 0).T = toL s.n s.T
    rw [hX0]; rfl
  · show (⟨(X 0).H, (X 0).nx⟩ : St TH) = ⟨s.H, s.nx⟩
    rw [hX0]; rfl
  · intro q hq
    have : ¬ q < π.length := by omega
    refine ⟨?_, ?_, ?_⟩
    · show (decide (q < π.length) && _) = false; simp [this]
    · show (decide (q < π.length) && _) = false; simp [this]
    · show (if q < π.length then _ else none) = none; simp [this]
  · intro q u i j o o' d hq hu ho ho' hd hd'
    have h1 := okDst_at hW ho hd
    have h2 := okDst_at hW ho' hd'
    rw [h1] at h2
    cases h2
    exact F.nodup q u i hq hu
  · intro q i o hi ho
    have hs := seq_step' hbd hX0 hX hi ho
    show toL s.n (X (q + 1)).T = aput (toL s.n (X q).T) o.dst (X (q + 1)).v
    rw [hs.T, putT_eq s.n hn]
  · intro q u i j ha hlt2 hi hj
    have ho : ops[i]? = some (ops[i]'(F.bound q i hi)) := by simp [F.bound q i hi]
    exact F.anchors q u i j _ ho (run_anch hbd hX0 hX hi ho ha).1 hlt2 hi hj
  · intro q hq
    obtain ⟨i, o, hi, ho, hs⟩ := seq_step hbd hX0 hX hq
    show (X q).nx ≤ (X (q + 1)).nx
    cases hs.what with
    | skip _ _ _ _ nx => rw [nx]; exact Nat.le_refl _
    | quiet _ _ _ nx => rw [nx]; exact Nat.le_refl _
    | make _ _ _ _ _ _ nx => rw [nx]; exact Nat.le_succ _
    | insert _ _ _ _ _ _ _ _ _ _ _ _ _ _ _ _ _ _ _ _ _ _ _ _ _ nx => rw [nx]; exact Nat.le_refl _
    | anchor _ _ _ hnx => exact hnx
  · intro q i o hi ho
    have hs := seq_step' hbd hX0 hX hi ho
    have hql := hlt hi
    have hqn := hnn q (by omega)
    have hna : (X (q + 1)).w.isAnch = false → (runOf s.n π X).anch q = false := by
      intro h
      show (decide (q < π.length) && (X (q + 1)).w.isAnch) = false
      rw [h]; simp
    have hnm : (X (q + 1)).w.isMake = false → (runOf s.n π X).made q = false := by
      intro h
      show (decide (q < π.length) && (X (q + 1)).w.isMake) = false
      rw [h]; simp
    have hnt : (X (q + 1)).w.tg = none → (runOf s.n π X).tg q = none := by
      intro h
      show (if q < π.length then (X (q + 1)).w.tg else none) = none
      rw [h]; simp
    have same : (X (q + 1)).H = (X q).H → (X (q + 1)).nx = (X q).nx → (runOf s.n π X).st (q + 1) = (runOf s.n π X).st q := by
      intro h1 h2
      show (⟨(X (q + 1)).H, (X (q + 1)).nx⟩ : St TH) = ⟨(X q).H, (X q).nx⟩
      rw [h1, h2]
    cases hs.what with
    | skip hw w v H nx bs l =>
      rw [hqn] at hw
      exact .skip hw (hna (by rw [w]; rfl)) (hnm (by rw [w]; rfl)) (hnt (by rw [w]; rfl)) (same H nx) v
    | quiet hw w H nx bs l hk v =>
      rw [hqn] at hw v
      refine .quiet hw (hna (by rw [w]; rfl)) (hnm (by rw [w]; rfl)) (hnt (by rw [w]; rfl)) (same H nx) ?_
      intro q0 hq0 hb hno
      rw [(seq_n hbd hX0 hX q (by omega)).2.2, evT_eq] at v
      exact bases_ok hbd hX0 hX (hsub i) q (by omega) (quiet_all v) q0 hq0 hb hno
    | make lit B hw w v H nx bs hl hn' =>
      rw [hqn] at hw v
      have hlit : (runOf s.n π X).lit q = lit := by show (X (q + 1)).w.isLit = lit; rw [w]; cases lit <;> rfl
      have hblk : (runOf s.n π X).blk q = B := by show (X (q + 1)).w.blk = B; rw [w]; rfl
      refine .make hw (hna (by rw [w]; rfl)) ?_ (hnt (by rw [w]; rfl)) ?_ (by rw [hlit, hblk]; exact fun h => (hl h).1) (by rw [hblk]; exact v)
      · show (decide (q < π.length) && (X (q + 1)).w.isMake) = true
        rw [w]; simp [hql, Wt.isMake]
      · rw [hlit, hblk]
        show (⟨(X (q + 1)).H, (X (q + 1)).nx⟩ : St TH) = _
        rw [H, nx]; rfl
    | anchor hw w a hnx bs l hk =>
      rw [hqn] at hw a
      refine .anchor hw ?_ (hnm (by rw [w]; rfl)) (hnt (by rw [w]; rfl)) (act_sound hM hK a)
      show (decide (q < π.length) && (X (q + 1)).w.isAnch) = true
      rw [w]; simp [hql, Wt.isAnch]
    | insert u k y hw w ty kt e om ok ov hop hty j b kvs l h1 h2 h3 hd hmk hk hf H nx bs l' v =>
      rw [hqn] at hw h1 h2 h3
      have hL := lits_ok hbd hX0 hX q (by omega) q (Nat.le_refl _)
      rw [l] at hL
      obtain ⟨g1, g2, g3, g4, g5, g6, g7⟩ := hL
      have ht : (runOf s.n π X).tg q = some u := by
        show (if q < π.length then (X (q + 1)).w.tg else none) = some u
        rw [w]; simp [hql, Wt.tg]
      have hkx : (runOf s.n π X).kx q = k := by show (X (q + 1)).w.kx = k; rw [w]; rfl
      have hvx : (runOf s.n π X).vx q = y := by show (X (q + 1)).w.vx = y; rw [w]; rfl
      refine .insert hw (hna (by rw [w]; rfl)) (hnm (by rw [w]; rfl)) u ht g1 g3 g4 g6 ?_ ty kt e om ok ov hop hty ?_ ?_ ?_ (by rw [hkx]; exact hk) ?_ ?_ v
      · intro j' hj'
        rw [g2] at hj'
        cases hj'
        exact hsub i _ hd
      · show aev (toL s.n (X q).T) om = _
        rw [h1, g5]
      · rw [hkx]; exact h2
      · rw [hvx]; exact h3
      · intro x hxq htx
        rw [hkx]
        rcases Nat.lt_or_ge x q with hlt2 | hge
        · have hm := kvs_mem hlt2 htx
          rw [← g7] at hm
          exact (hf _ hm).1
        · obtain ⟨hxl, jx, bx, kvx, lx⟩ := tg_lit hbd hX0 hX htx
          obtain ⟨ix, ox, hix, hox, hsx⟩ := seq_step hbd hX0 hX hxl
          have htx' : (X (x + 1)).w.tg = some u := by
            have : (if x < π.length then (X (x + 1)).w.tg else none) = some u := htx
            simpa [hxl] using this
          cases hsx.what with
          | skip _ w => rw [w] at htx'; cases htx'
          | quiet _ w => rw [w] at htx'; cases htx'
          | make _ _ _ w => rw [w] at htx'; cases htx'
          | anchor _ w => rw [w] at htx'; cases htx'
          | insert u2 k2 y2 hw2 w2 ty2 kt2 e2 om2 ok2 ov2 hop2 hty2 j2 b2 kvs2 l2 h12 h22 h32 hd2 hmk2 hk2 hf2 =>
            rw [w2] at htx'
            cases htx'
            have hL2 := lits_ok hbd hX0 hX x (by omega) x (Nat.le_refl _)
            rw [l2] at hL2
            obtain ⟨f1, f2, f3, f4, f5, f6, f7⟩ := hL2
            rw [g2] at f2
            cases f2
            obtain ⟨o1, p1, p2⟩ := hmk
            obtain ⟨o2, r1, r2⟩ := hmk2
            rw [p1] at r1
            cases r1
            rw [p2] at r2
            cases r2
            rw [hty] at hty2
            cases hty2
            have hkx2 : (runOf s.n π X).kx x = k2 := by show (X (x + 1)).w.kx = k2; rw [w2]; rfl
            have hm := kvs_mem (R := runOf s.n π X) (x := q) (r := x) (by omega) ht
            rw [← f7] at hm
            have := (hf2 _ hm).2
            rw [hkx] at this
            rw [hkx2]
            exact this
      · show (⟨(X (q + 1)).H, (X (q + 1)).nx⟩ : St TH) = ⟨Hp.put (X q).H (X u).nx _, (X q).nx⟩
        rw [H, nx, kvs_succ, ht, hkx, hvx, ← g7, g5]
        simp
        rfl
end seq
end Go.Am

/- The evaluator is sound. -/
namespace Go.Am
open Go.RowKit

variable {P : Program} {M : Memo} {K : Knot} {f : FuncId} {rd dfr : Bool} {ops : Array Oper} {p : Plan}

theorem closed_none : Closed ops (lof (Array.replicate ops.size false)) := by
  intro i o ho h
  simp only [lof, Array.getD] at h
  split at h <;> simp at h
theorem lof_none {i : Nat} : lof (Array.replicate ops.size false) i = false := by
  simp only [lof, Array.getD]
  split <;> simp
theorem cld_none {dep : Nat → Nat → Prop} : ClD dep (lof (Array.replicate ops.size false)) := by
  intro i j h
  rw [lof_none] at h; cases h

theorem WalksD.more {dep : Nat → Nat → Prop} {n x y : Nat} : ∀ {ord : List Nat} {L : Nat → Bool}, WalksD (fun i j => dep i j ∨ (i = y ∧ j = x)) n ord L → ClD dep L → WalksD (fun i j => dep i j ∨ (i = y ∧ (j = x ∨ dep x j))) n ord L
  | [], L, h, _ => h
  | i :: rest, L, h, hc => by
    obtain ⟨h1, h2, h3, h4⟩ := h
    refine ⟨h1, h2, fun j hj => ?_, WalksD.more h4 (hc.more fun j hj => h3 j (Or.inl hj))⟩
    rcases hj with hj | ⟨rfl, rfl | hj⟩
    · exact h3 j (Or.inl hj)
    · exact h3 _ (Or.inr ⟨rfl, rfl⟩)
    · exact hc x j (h3 x (Or.inr ⟨rfl, rfl⟩)) hj
theorem WalksD.weaken {dep dep' : Nat → Nat → Prop} {n : Nat} (hd : ∀ i j, dep' i j → dep i j) : ∀ {ord : List Nat} {L : Nat → Bool}, WalksD dep n ord L → WalksD dep' n ord L
  | [], L, h => h
  | i :: rest, L, h => ⟨h.1, h.2.1, fun j hj => h.2.2.1 j (hd _ _ hj), WalksD.weaken hd h.2.2.2⟩

theorem natD_put (ms : Tr Nat) (y m i : Nat) : natD ((ms.put y (some m)).get i) = if i = y then m else natD (ms.get i) := by
  rw [Tr.get_put]
  split <;> rfl
theorem moreDep_iff {ms : Tr Nat} {y x i j : Nat} : depM (moreDep ms y x) i j ↔ (if i = y then j = x ∨ depM ms x j ∨ depM ms y j else depM ms i j) := by
  unfold depM moreDep
  rw [natD_put]
  by_cases h : i = y
  · simp only [h, if_true, tb_or, tb_bit, Bool.or_eq_true, decide_eq_true_eq]
    constructor
    · rintro ((h | h) | h)
      · exact Or.inl h
      · exact Or.inr (Or.inl h)
      · exact Or.inr (Or.inr h)
    · rintro (h | h | h)
      · exact Or.inl (Or.inl h)
      · exact Or.inl (Or.inr h)
      · exact Or.inr h
  · simp only [h, if_false]
theorem moreDep_sub {ms : Tr Nat} {y x i j : Nat} (h : depM ms i j) : depM (moreDep ms y x) i j := by
  rw [moreDep_iff]
  split
  · rename_i e; subst e; exact Or.inr (Or.inr h)
  · exact h
theorem walks_moreDep {ms : Tr Nat} {y x n : Nat} {ord : List Nat} {L : Nat → Bool} (h : WalksD (fun i j => depM ms i j ∨ (i = y ∧ j = x)) n ord L) (hc : ClD (depM ms) L) : WalksD (depM (moreDep ms y x)) n ord L := by
  refine (WalksD.more h hc).weaken fun i j hj => ?_
  rw [moreDep_iff] at hj
  split at hj
  · rename_i e
    subst e
    rcases hj with hj | hj | hj
    · exact Or.inr ⟨rfl, Or.inl hj⟩
    · exact Or.inr ⟨rfl, Or.inr hj⟩
    · exact Or.inl hj
  · exact Or.inl hj

/-- One plan, whatever comes of it. -/
theorem plan_cert (hM : MemoOK P M) (hK : KOK P K) {s : ES} (hn : s.n ≤ 256) (hW : okDst p.W ops.toList 0 = true) {ms : Tr Nat} {π : List Nat} (hsub : ∀ i j, depM p.ms i j → depM ms i j) (hF : okFor ops ms p.W p.lits π = true) {xn : XS}
    (h : goX P M K ops p π (XS.of s) = some xn) : ∃ R : Run TH, Cert P f rd ops (depM ms) π R (FSof dfr s) ∧ R.cur π.length = toL s.n xn.T ∧ R.st π.length = ⟨xn.H, xn.nx⟩ := by
  obtain ⟨X, h1, h2, h3⟩ := goX_seq π _ _ h
  have F := okFor_facts hW hF
  refine ⟨runOf s.n π X, cert_of F.bound h1 h3 hM hK hn hW hsub F, ?_, ?_⟩
  · show toL s.n (X π.length).T = _; rw [h2]
  · show (⟨(X π.length).H, (X π.length).nx⟩ : St TH) = _; rw [h2]

theorem step_quiet {i : Nat} {o : Oper} {x x' : XS} (ho : ops[i]? = some o) (hk : kindOf ops p.W p.lits i o = .quiet) (h : stepX P M K ops p i x = some x') : x'.H = x.H := by
  obtain ⟨n, T, H, nx, q, bs, H0, l, w, v⟩ := x
  unfold stepX at h
  rw [ho] at h
  have h : stepX2 P M K ops p i o n T H nx q bs H0 l = some x' := h
  unfold stepX2 at h
  rw [hk] at h
  split at h
  · cases h
  · rw [nextX_eq] at h; cases h; rfl
  · simp only at h
    unfold stepQuiet at h
    split at h
    · rw [nextX_eq] at h; cases h; rfl
    · cases h

theorem goX_quiet : ∀ {π : List Nat} {x x' : XS}, π.all (isQuiet ops p) = true → goX P M K ops p π x = some x' → x'.H = x.H
  | [], x, x', _, h => by cases h; rfl
  | i :: π, x, x', hq, h => by
    have h' : (match stepX P M K ops p i x with | some x' => goX P M K ops p π x' | none => none) = some x' := h
    simp only [List.all_cons, Bool.and_eq_true] at hq
    cases hs : stepX P M K ops p i x with
    | none => rw [hs] at h'; cases h'
    | some x1 =>
      rw [hs] at h'
      have h2 := goX_quiet hq.2 h'
      have hq1 := hq.1
      unfold isQuiet at hq1
      split at hq1
      · rename_i o ho
        split at hq1
        · rename_i hk
          rw [h2, step_quiet ho hk hs]
        · cases hq1
      · cases hq1

theorem goX_tmps {t : Nat} (ht : t < 256) : ∀ {π : List Nat} {x x' : XS}, (∀ i ∈ π, ∀ o, ops[i]? = some o → o.dst ≠ some t) → goX P M K ops p π x = some x' → x'.T.get t = x.T.get t
  | [], x, x', _, h => by cases h; rfl
  | i :: π, x, x', hq, h => by
    have h' : (match stepX P M K ops p i x with | some x' => goX P M K ops p π x' | none => none) = some x' := h
    cases hs : stepX P M K ops p i x with
    | none => rw [hs] at h'; cases h'
    | some x1 =>
      rw [hs] at h'
      rw [goX_tmps ht (fun j hj => hq j (List.mem_cons_of_mem _ hj)) h']
      cases ho : ops[i]? with
      | none => unfold stepX at hs; rw [ho] at hs; cases hs
      | some o =>
        rw [(stepX_sound ho hs).T]
        have hd := hq i (by simp) o ho
        unfold putT
        split
        · rename_i d hdd
          rw [TT.get_put _ _ _ _ ht, if_neg (by rintro rfl; exact hd hdd)]
        · rfl

theorem store_step {i : Nat} {x x' : XS} (hs : isStore ops i = true) (h : stepX P M K ops p i x = some x') : x'.T = x.T ∧ ∀ c, storeBlk ops i x ≠ some c → x'.H.get c = x.H.get c := by
  unfold isStore at hs
  split at hs <;> try (cases hs; done)
  rename_i o ho
  split at hs <;> try (cases hs; done)
  rename_i t a y hop
  split at hs <;> try (cases hs; done)
  rename_i hg
  split at hs <;> try (cases hs; done)
  rename_i hd
  have S := stepX_sound ho h
  refine ⟨by rw [S.T, hd]; rfl, fun c hc => ?_⟩
  have hk : kindOf ops p.W p.lits i o = .anchor := by unfold kindOf; rw [hop]
  obtain ⟨n, T, H, nx, q, bs, H0, l, w, v⟩ := x
  unfold stepX at h
  rw [ho] at h
  have h : stepX2 P M K ops p i o n T H nx q bs H0 l = some x' := h
  unfold stepX2 at h
  rw [hk] at h
  split at h
  · cases h
  · rw [nextX_eq] at h; cases h; rfl
  · simp only at h
    unfold stepAnchor at h
    split at h
    · cases h
    · cases h
    · rename_i v1 H1 nx1 ha
      cases hle : Nat.ble nx nx1 with
      | false => rw [hle] at h; cases h
      | true =>
        rw [hle, cond_true, TH.strict_eq, nextX_eq] at h
        cases h
        show H1.get c = H.get c
        unfold actOp at ha
        rw [actT_sound, hop] at ha
        simp only at ha
        unfold plainOp at ha
        rw [aopF_eq] at ha
        split at ha
        · rename_i v2 st hst
          cases ha
          have hst' : (astore P (⟨H, nx⟩ : St TH) t (evT n T a) (evT n T y)).map (AV.tuple [], ·) = some (v1, st) := by
            simpa only [aop, hop] using hst
          obtain ⟨e1, _⟩ := map_skip hst'
          unfold astore at e1
          split at e1
          · rename_i b off hb
            split at e1
            · rename_i cs hcs
              split at e1
              · cases e1
                show (Hp.put H b _ : TH).get c = H.get c
                have hne : c ≠ b := by
                  rintro rfl
                  apply hc
                  unfold storeBlk
                  simp only [ho, hop]
                  rw [hb]
                have := congrFun (Hp.get_put H b (some (ABlk.cells (splice cs off (evT n T y).cells)))) c
                rw [Heap.put_other _ _ hne] at this
                exact this
              · cases e1
            · cases e1
          · cases e1
        · cases ha

theorem sameBlk_eq {H H' : TH} {b : Option Nat} (h : sameBlk H H' b = true) : ∃ c, b = some c ∧ H.get c = H'.get c := by
  unfold sameBlk at h
  split at h
  · rename_i c
    split at h
    · rename_i cs hcs
      split at h
      · rename_i cs' hcs'
        exact ⟨c, rfl, by rw [hcs, hcs', AV.sames_eq _ _ h]⟩
      · cases h
    · cases h
  · cases h

theorem goX_one {i : Nat} {x x' : XS} (h : goX P M K ops p [i] x = some x') : stepX P M K ops p i x = some x' := by
  have h' : (match stepX P M K ops p i x with | some x' => some x' | none => none) = some x' := h
  cases hs : stepX P M K ops p i x with
  | none => rw [hs] at h'; cases h'
  | some x1 => rw [hs] at h'; exact h'

theorem Array.toL_ext {n : Nat} {T T' : TT} (h : ∀ t, t < n → T.get t = T'.get t) : toL n T = toL n T' := by
  apply List.ext_getElem?
  intro t
  rw [toL_get, toL_get]
  by_cases ht : t < n
  · simp [ht, h t ht]
  · simp [ht]

theorem drawGo_sound (hmx : P.follows .mixedOrders = true) (hM : MemoOK P M) (hK : KOK P K) {s : ES} (hn : s.n ≤ 256) {id : Nat} (h : drawGo P M K ops s ≠ .stuck) : Exec P f rd (.region id ops true) (FSof dfr s) (Says dfr (drawGo P M K ops s)) := by
  unfold drawGo at h ⊢
  cases hb : okBase ops (planOf ops) with
  | false => rw [hb] at h; exact absurd rfl h
  | true =>
    rw [hb, cond_true] at h
    rw [cond_true]
    unfold okBase at hb
    simp only [Bool.and_eq_true] at hb
    obtain ⟨hdep, hW⟩ := hb
    have hwf := okDep_edges hdep
    have hdo := okDep_dep hdep
    generalize hp : planOf ops = p at *
    obtain ⟨n, T, ds, H, nx⟩ := s
    have out : ∀ x : XS, XS.out ⟨n, T, ds, H, nx⟩ x = .normal ⟨n, x.T, ds, x.H, x.nx⟩ := fun x => by cases x; rfl
    cases hf : okFor ops p.ms p.W p.lits p.π with
    | true =>
      rw [hf, cond_true] at h
      rw [cond_true]
      cases hg : goX P M K ops p p.π (XS.of ⟨n, T, ds, H, nx⟩) with
      | none => rw [hg] at h; exact absurd rfl h
      | some x =>
        simp only [out]
        refine exec_drawn (s' := FSof dfr ⟨n, x.T, ds, x.H, x.nx⟩) hmx hwf ?_ rfl rfl ⟨rfl, rfl, hn⟩
        intro ord hord
        obtain ⟨R, hC, h1, h2⟩ := plan_cert (f := f) (rd := rd) (dfr := dfr) hM hK hn hW (fun _ _ h => h) hf hg
        exact ⟨_, p.π, R, hC, Walks.dep hdo hwf hord closed_none, h1, by rw [h2]; rfl, by rw [h2]; rfl⟩
    | false =>
      rw [hf, cond_false] at h
      rw [cond_false]
      cases hpr : pairOf p with
      | none => rw [hpr] at h; exact absurd rfl h
      | some d =>
        rw [hpr] at h
        simp only at h ⊢
        cases hok : okPair ops p d with
        | false => rw [hok] at h; exact absurd rfl h
        | true =>
          rw [hok, cond_true] at h
          rw [cond_true]
          unfold okPair at hok
          simp only [Bool.and_eq_true, Bool.not_eq_true'] at hok
          obtain ⟨⟨c1, c2, c3, c4, c5, c6⟩, c7, c8⟩ := hok
          unfold drawPair at h ⊢
          cases g1 : goX P M K ops p d.pre (XS.of ⟨n, T, ds, H, nx⟩) with
          | none => rw [g1] at h; exact absurd rfl h
          | some x0 =>
          simp only [g1] at h ⊢
          cases g2 : goX P M K ops p d.mid x0 with
          | none => rw [g2] at h; exact absurd rfl h
          | some x1 =>
          simp only [g2] at h ⊢
          cases g3 : goX P M K ops p [d.x] x1 with
          | none => rw [g3] at h; exact absurd rfl h
          | some x2 =>
          simp only [g3] at h ⊢
          cases g4 : goX P M K ops p [d.y] x2 with
          | none => rw [g4] at h; exact absurd rfl h
          | some xa =>
          simp only [g4] at h ⊢
          cases g5 : goX P M K ops p [d.y] x0 with
          | none => rw [g5] at h; exact absurd rfl h
          | some y1 =>
          simp only [g5] at h ⊢
          cases g6 : goX P M K ops p d.mid y1 with
          | none => rw [g6] at h; exact absurd rfl h
          | some y2 =>
          simp only [g6] at h ⊢
          cases g7 : goX P M K ops p [d.x] y2 with
          | none => rw [g7] at h; exact absurd rfl h
          | some xb =>
          simp only [g7] at h ⊢
          cases hc : (Nat.beq xa.nx xb.nx && (d.mid.all (sameTmp ops xa.T xb.T) && (sameBlk xa.H xb.H (storeBlk ops d.x x1) && (sameBlk xa.H xb.H (storeBlk ops d.y x2) && (sameBlk xa.H xb.H (storeBlk ops d.y x0) && sameBlk xa.H xb.H (storeBlk ops d.x y2)))))) with
          | false => rw [hc] at h; exact absurd rfl h
          | true =>
          rw [cond_true, out]
          simp only [Bool.and_eq_true] at hc
          obtain ⟨e1, e2, e3, e4, e5, e6⟩ := hc
          have hA : goX P M K ops p (d.pre ++ d.one) (XS.of ⟨n, T, ds, H, nx⟩) = some xa := by
            rw [goX_append, g1, Option.bind_some]
            show goX P M K ops p (d.mid ++ ([d.x] ++ [d.y])) x0 = _
            rw [goX_append, g2, Option.bind_some, goX_append, g3, Option.bind_some, g4]
          have hB : goX P M K ops p (d.pre ++ d.two) (XS.of ⟨n, T, ds, H, nx⟩) = some xb := by
            rw [goX_append, g1, Option.bind_some]
            show goX P M K ops p ([d.y] ++ (d.mid ++ [d.x])) x0 = _
            rw [goX_append, g5, Option.bind_some, goX_append, g6, Option.bind_some, g7]
          -- both orders come to the same
          obtain ⟨tx1, sx1⟩ := store_step c4 (goX_one g3)
          obtain ⟨ty1, sy1⟩ := store_step c5 (goX_one g4)
          obtain ⟨ty2, sy2⟩ := store_step c5 (goX_one g5)
          obtain ⟨tx2, sx2⟩ := store_step c4 (goX_one g7)
          have q1 := goX_quiet c6 g2
          have q2 := goX_quiet c6 g6
          have hT : ∀ t, t < n → xb.T.get t = xa.T.get t := by
            intro t ht
            have ht' : t < 256 := by have : n ≤ 256 := hn; omega
            by_cases hm : ∃ i ∈ d.mid, ∃ o, ops[i]? = some o ∧ o.dst = some t
            · obtain ⟨i, hi, o, ho, hd⟩ := hm
              have := (List.all_eq_true.1 e2) i hi
              unfold sameTmp at this
              simp only [ho, hd] at this
              exact (AV.same_eq _ _ this).symm
            · have hm' : ∀ i ∈ d.mid, ∀ o, ops[i]? = some o → o.dst ≠ some t := fun i hi o ho hd => hm ⟨i, hi, o, ho, hd⟩
              rw [tx2, goX_tmps ht' hm' g6, ty2, ty1, tx1, goX_tmps ht' hm' g2]
          have hH : Hp.get xb.H = Hp.get xa.H := by
            funext c
            show xb.H.get c = xa.H.get c
            by_cases b1 : storeBlk ops d.x x1 = some c
            · obtain ⟨c', h1, h2⟩ := sameBlk_eq e3
              rw [b1] at h1; cases h1; exact h2.symm
            · by_cases b2 : storeBlk ops d.y x2 = some c
              · obtain ⟨c', h1, h2⟩ := sameBlk_eq e4
                rw [b2] at h1; cases h1; exact h2.symm
              · by_cases b3 : storeBlk ops d.y x0 = some c
                · obtain ⟨c', h1, h2⟩ := sameBlk_eq e5
                  rw [b3] at h1; cases h1; exact h2.symm
                · by_cases b4 : storeBlk ops d.x y2 = some c
                  · obtain ⟨c', h1, h2⟩ := sameBlk_eq e6
                    rw [b4] at h1; cases h1; exact h2.symm
                  · rw [sx2 c b4, q2, sy2 c b3, sy1 c b2, sx1 c b1, q1]
          refine exec_drawn (s' := FSof dfr ⟨n, xa.T, ds, xa.H, xa.nx⟩) hmx hwf ?_ rfl rfl ⟨rfl, rfl, hn⟩
          intro ord hord
          have hw := Walks.dep hdo hwf hord closed_none
          have hxy : d.x ≠ d.y := by
            intro e
            rw [e] at c1
            simp at c1
          rcases WalksD.two hxy (Nat.le_of_ble_eq_true c2) (Nat.le_of_ble_eq_true c3) hw lof_none lof_none with hw | hw
          · obtain ⟨R, hC, h1, h2⟩ := plan_cert (f := f) (rd := rd) (dfr := dfr) hM hK hn hW (fun _ _ h => moreDep_sub h) c7 hA
            exact ⟨_, _, R, hC, walks_moreDep hw cld_none, h1, by rw [h2]; rfl, by rw [h2]; rfl⟩
          · obtain ⟨R, hC, h1, h2⟩ := plan_cert (f := f) (rd := rd) (dfr := dfr) hM hK hn hW (fun _ _ h => moreDep_sub h) c8 hB
            refine ⟨_, _, R, hC, walks_moreDep hw cld_none, ?_, ?_, ?_⟩
            · rw [h1]; exact Array.toL_ext hT
            · rw [h2]; exact (Nat.eq_of_beq_eq_true e1).symm
            · rw [h2]; exact hH

/-! ### Code -/
theorem asBool_rel {x : Operand} {n : Nat} {T : TT} {t : Bool} (h : (evT n T x).asBool = some t) : aev (toL n T) x = .bool t := by
  rw [← evT_eq]; exact AV.asBool_some h

theorem scope_sound (hK : KOK P K) (hd : rd = true → dfr = false) {body : Code} : ∀ (n : Nat) (c : Code) (s : ES), s.n ≤ 256 → scopeRun K f rd dfr body n c s ≠ .stuck → InScope P f rd body c (FSof dfr s) (Says dfr (scopeRun K f rd dfr body n c s))
  | 0, c, s, hn, h => absurd rfl h
  | n + 1, c, s, hn, h => by
    have e0 : scopeRun K f rd dfr body (n + 1) c s = (match K f rd dfr c s with
      | .goto l s1 => (match findLabel body l with
        | some rest => scopeRun K f rd dfr body n rest s1
        | none => .goto l s1)
      | .many l => flatE l fun o => (match o with
        | .goto l s1 => (match findLabel body l with | some rest => scopeRun K f rd dfr body n rest s1 | none => .goto l s1)
        | o => o.toER)
      | r => r) := rfl
    rw [e0] at h ⊢
    refine inScope_step (hK.exec hn hd ?_ (by intro e; rw [e] at h; exact h rfl))
    intro e t ht
    cases hk : K f rd dfr c s with
    | stuck => rw [hk] at ht; exact ht.elim
    | normal s1 => rw [hk] at ht; obtain ⟨rfl, rfl, hn1⟩ := ht; exact ⟨rfl, rfl, hn1⟩
    | exit i s1 => rw [hk] at ht; obtain ⟨rfl, rfl, hn1⟩ := ht; exact ⟨rfl, rfl, hn1⟩
    | ret s1 => rw [hk] at ht; obtain ⟨rfl, rfl, hn1⟩ := ht; exact ⟨rfl, rfl, hn1⟩
    | goto l s1 =>
      rw [hk] at ht h
      obtain ⟨rfl, rfl, hn1⟩ := ht
      simp only [AExit.onScope]
      simp only at h
      cases hl : findLabel body l with
      | none => exact ⟨rfl, rfl, hn1⟩
      | some rest =>
        rw [hl] at h
        exact scope_sound hK hd n rest s1 hn1 h
    | many ws =>
      rw [hk] at ht h
      obtain ⟨o, ho, hs⟩ := ht
      obtain ⟨h1, h2⟩ := flatE_sound h o ho
      cases o with
      | normal s1 => obtain ⟨rfl, rfl, hn1⟩ := hs; exact h2 dfr _ _ ⟨rfl, rfl, hn1⟩
      | exit i s1 => obtain ⟨rfl, rfl, hn1⟩ := hs; exact h2 dfr _ _ ⟨rfl, rfl, hn1⟩
      | ret s1 => obtain ⟨rfl, rfl, hn1⟩ := hs; exact h2 dfr _ _ ⟨rfl, rfl, hn1⟩
      | goto l s1 =>
        obtain ⟨rfl, rfl, hn1⟩ := hs
        simp only [AExit.onScope]
        simp only at h1 h2
        cases hl : findLabel body l with
        | none => rw [hl] at h2; exact h2 dfr _ _ ⟨rfl, rfl, hn1⟩
        | some rest =>
          rw [hl] at h1 h2
          have g := scope_sound hK hd n rest s1 hn1 h1
          intro E ρ Z w a b k cs hr hf hrd
          exact (g E ρ Z w a b k cs hr hf hrd).mono fun e t ht => h2 dfr e t ht

theorem ev_sound (hmx : P.follows .mixedOrders = true) (hM : MemoOK P M) (hK : KOK P K) : KOK P (fun f rd dfr c s => evStep P M K f rd dfr c s) := by
  intro f rd dfr c s hn hd h
  refine ⟨?_, ?_⟩
  · cases c with
    | skip => exact exec_skip ⟨rfl, rfl, hn⟩
    | region id ops draw =>
      change (cond draw (drawGo P M K ops s) (opsGo P M K rd ops ops.toList s)) ≠ .stuck at h
      show Exec P f rd _ _ (Says dfr (cond draw (drawGo P M K ops s) (opsGo P M K rd ops ops.toList s)))
      cases draw with
      | true => exact drawGo_sound hmx hM hK hn h
      | false =>
        refine exec_region ?_
        have := opsGo_sound (f := f) hM hK hd ops.toList 0 rfl s hn h
        rw [List.range_eq_range']
        simpa using this
    | seq a b =>
      change cSeq K f rd dfr b (K f rd dfr a s) ≠ .stuck at h
      show Exec P f rd _ _ (Says dfr (cSeq K f rd dfr b (K f rd dfr a s)))
      refine exec_seq (hK.exec hn hd ?_ (by intro e; rw [e] at h; exact h rfl))
      intro e t ht
      cases hk : K f rd dfr a s with
      | stuck => rw [hk] at ht; exact ht.elim
      | normal s1 =>
        rw [hk] at ht h
        obtain ⟨rfl, rfl, hn1⟩ := ht
        exact (hK f rd dfr b s1 hn1 hd h).1
      | exit i s1 => rw [hk] at ht; obtain ⟨rfl, rfl, hn1⟩ := ht; exact ⟨rfl, rfl, hn1⟩
      | goto l s1 => rw [hk] at ht; obtain ⟨rfl, rfl, hn1⟩ := ht; exact ⟨rfl, rfl, hn1⟩
      | ret s1 => rw [hk] at ht; obtain ⟨rfl, rfl, hn1⟩ := ht; exact ⟨rfl, rfl, hn1⟩
      | many l =>
        rw [hk] at ht h
        obtain ⟨o, ho, hs⟩ := ht
        obtain ⟨h1, h2⟩ := flatE_sound h o ho
        cases o with
        | normal s1 =>
          obtain ⟨rfl, rfl, hn1⟩ := hs
          exact (hK f rd dfr b s1 hn1 hd h1).1.mono fun e t ht => h2 dfr e t ht
        | exit i s1 => obtain ⟨rfl, rfl, hn1⟩ := hs; exact h2 dfr _ _ ⟨rfl, rfl, hn1⟩
        | goto i s1 => obtain ⟨rfl, rfl, hn1⟩ := hs; exact h2 dfr _ _ ⟨rfl, rfl, hn1⟩
        | ret s1 => obtain ⟨rfl, rfl, hn1⟩ := hs; exact h2 dfr _ _ ⟨rfl, rfl, hn1⟩
    | cond x a b =>
      change cCond K f rd dfr a b s (evT s.n s.T x).asBool ≠ .stuck at h
      show Exec P f rd _ _ (Says dfr (cCond K f rd dfr a b s (evT s.n s.T x).asBool))
      cases ht : (evT s.n s.T x).asBool with
      | none => rw [ht] at h; exact absurd rfl h
      | some t =>
        rw [ht] at h
        refine exec_cond (t := t) (asBool_rel ht) ?_
        cases t with
        | true => exact (hK f rd dfr a s hn hd h).1
        | false => exact (hK f rd dfr b s hn hd h).1
    | block id c =>
      change cBlock id (K f rd dfr c s) ≠ .stuck at h
      show Exec P f rd _ _ (Says dfr (cBlock id (K f rd dfr c s)))
      refine exec_block (hK.exec hn hd ?_ (by intro e; rw [e] at h; exact h rfl))
      intro e t ht
      cases hk : K f rd dfr c s with
      | stuck => rw [hk] at ht; exact ht.elim
      | normal s1 => rw [hk] at ht; obtain ⟨rfl, rfl, hn1⟩ := ht; exact ⟨rfl, rfl, hn1⟩
      | ret s1 => rw [hk] at ht; obtain ⟨rfl, rfl, hn1⟩ := ht; exact ⟨rfl, rfl, hn1⟩
      | goto l s1 => rw [hk] at ht; obtain ⟨rfl, rfl, hn1⟩ := ht; exact ⟨rfl, rfl, hn1⟩
      | exit i s1 =>
        rw [hk] at ht
        obtain ⟨rfl, rfl, hn1⟩ := ht
        simp only [cBlock, nbeq]
        by_cases hi : i = id
        · subst hi; simp only [if_true, decide_true, cond_true]; exact ⟨rfl, rfl, hn1⟩
        · simp only [hi, if_false, decide_false, cond_false]; exact ⟨rfl, rfl, hn1⟩
      | many l =>
        rw [hk] at ht h
        obtain ⟨o, ho, hs⟩ := ht
        obtain ⟨h1, h2⟩ := flatE_sound h o ho
        cases o with
        | normal s1 => obtain ⟨rfl, rfl, hn1⟩ := hs; exact h2 dfr _ _ ⟨rfl, rfl, hn1⟩
        | goto i s1 => obtain ⟨rfl, rfl, hn1⟩ := hs; exact h2 dfr _ _ ⟨rfl, rfl, hn1⟩
        | ret s1 => obtain ⟨rfl, rfl, hn1⟩ := hs; exact h2 dfr _ _ ⟨rfl, rfl, hn1⟩
        | exit i s1 =>
          obtain ⟨rfl, rfl, hn1⟩ := hs
          by_cases hi : i = id
          · subst hi; simp only [if_true]; exact h2 dfr _ _ (by show Says dfr (cond (Nat.beq i i) (.normal s1) (.exit i s1)) _ _; rw [nbeq]; simp only [decide_true, cond_true]; exact ⟨rfl, rfl, hn1⟩)
          · simp only [hi, if_false]; exact h2 dfr _ _ (by show Says dfr (cond (Nat.beq i id) (.normal s1) (.exit i s1)) _ _; rw [nbeq]; simp only [hi, decide_false, cond_false]; exact ⟨rfl, rfl, hn1⟩)
    | loop c =>
      change cSeq K f rd dfr (.loop c) (K f rd dfr c s) ≠ .stuck at h
      show Exec P f rd _ _ (Says dfr (cSeq K f rd dfr (.loop c) (K f rd dfr c s)))
      refine (exec_round (hK.exec hn hd ?_ (by intro e; rw [e] at h; exact h rfl))).2
      intro e t ht
      cases hk : K f rd dfr c s with
      | stuck => rw [hk] at ht; exact ht.elim
      | normal s1 =>
        rw [hk] at ht h
        obtain ⟨rfl, rfl, hn1⟩ := ht
        have := hK f rd dfr (.loop c) s1 hn1 hd h
        exact ⟨this.2 c rfl, this.1⟩
      | exit i s1 => rw [hk] at ht; obtain ⟨rfl, rfl, hn1⟩ := ht; exact ⟨rfl, rfl, hn1⟩
      | goto l s1 => rw [hk] at ht; obtain ⟨rfl, rfl, hn1⟩ := ht; exact ⟨rfl, rfl, hn1⟩
      | ret s1 => rw [hk] at ht; obtain ⟨rfl, rfl, hn1⟩ := ht; exact ⟨rfl, rfl, hn1⟩
      | many l =>
        rw [hk] at ht h
        obtain ⟨o, ho, hs⟩ := ht
        obtain ⟨h1, h2⟩ := flatE_sound h o ho
        cases o with
        | normal s1 =>
          obtain ⟨rfl, rfl, hn1⟩ := hs
          have := hK f rd dfr (.loop c) s1 hn1 hd h1
          exact ⟨fun E ρ Z w a b k cs hr hf hrd => (this.2 c rfl E ρ Z w a b k cs hr hf hrd).mono fun e t ht => h2 dfr e t ht, this.1.mono fun e t ht => h2 dfr e t ht⟩
        | exit i s1 => obtain ⟨rfl, rfl, hn1⟩ := hs; exact h2 dfr _ _ ⟨rfl, rfl, hn1⟩
        | goto i s1 => obtain ⟨rfl, rfl, hn1⟩ := hs; exact h2 dfr _ _ ⟨rfl, rfl, hn1⟩
        | ret s1 => obtain ⟨rfl, rfl, hn1⟩ := hs; exact h2 dfr _ _ ⟨rfl, rfl, hn1⟩
    | rangeFunc fx ps asg body =>
      obtain ⟨n, T, ds, H, nx⟩ := s
      change (cond rd .stuck (rangeF2 P M K f ps asg body n T ds H nx (atgt (evT n T fx) [.yld (nx + 1)]))) ≠ .stuck at h
      show Exec P f rd _ _ (Says dfr (cond rd .stuck (rangeF2 P M K f ps asg body n T ds H nx (atgt (evT n T fx) [.yld (nx + 1)]))))
      cases rd with
      | true => exact absurd rfl h
      | false =>
        rw [cond_false] at h ⊢
        unfold rangeF2 at h ⊢
        rw [evT_eq] at h ⊢
        cases ht : atgt (aev (toL n T) fx) [.yld (nx + 1)] with
        | none => rw [ht] at h; exact absurd rfl h
        | some tg =>
          rw [ht] at h
          cases tg with
          | round b args => exact absurd rfl h
          | enter g args =>
            simp only [TH.strict_eq, fnat_eq] at h ⊢
            have hne : callF P M K g args (Hp.put (Hp.put H nx (some (.deferred true))) (Nat.succ nx) (some (.loop .ready none f (toL n T) ps.toList asg body nx))) (Nat.succ (Nat.succ nx)) ≠ .stuck := by
              intro e; rw [e] at h; exact h rfl
            obtain ⟨⟨fn, cd, hfn⟩, hcall⟩ := callF_sound hM hK hne
            refine exec_rangeFunc (s := FSof dfr ⟨n, T, ds, H, nx⟩) rfl ht hfn ?_
            refine hcall.mono fun e st he => ?_
            have fin : ∀ (o : CO) (r : ER), InO o e st → rangeEnd n T ds nx o.H o.nx ≠ .stuck → (∀ e t, Says dfr (rangeEnd n T ds nx o.H o.nx) e t → Says dfr r e t) → (∃ v, e = .ret v) ∧ ∃ x1 j e1 f1 t1 p1 a1 b1 d1, x1 ≠ .busy ∧ jumpOf e1 = some j ∧ Hp.get st.H (nx + 1) = some (.loop x1 j f1 t1 p1 a1 b1 d1) ∧
                Says dfr r e1 { FSof dfr ⟨n, T, ds, H, nx⟩ with defers := .mark nx :: ds, st := ⟨Hp.put st.H (nx + 1) (some (.loop .exhausted j f1 t1 p1 a1 b1 d1)), st.nx⟩ } := by
              intro o r ho hr hs
              obtain ⟨rfl, rfl⟩ := ho
              have hr' := hr
              unfold rangeEnd at hr'
              split at hr' <;> try (exact absurd rfl hr')
              rename_i x1 j f1 t1 p1 a1 b1 d1 hl
              cases hx : notBusy x1 with
              | false => rw [hx] at hr'; exact absurd rfl hr'
              | true =>
              rw [hx, cond_true, TH.strict_eq] at hr'
              have hx1 : x1 ≠ .busy := by intro e; subst e; cases hx
              have e0 : rangeEnd n T ds nx o.H o.nx = backOf j ⟨n, T, .mark nx :: ds, Hp.put o.H (Nat.succ nx) (some (.loop .exhausted j f1 t1 p1 a1 b1 d1)), o.nx⟩ := by
                unfold rangeEnd
                rw [hl]
                simp only [TH.strict_eq, hx, cond_true]
              rw [e0] at hs
              unfold backOf at hs hr'
              split at hs
              · exact ⟨⟨_, rfl⟩, x1, none, .normal, f1, t1, p1, a1, b1, d1, hx1, rfl, hl, hs _ _ ⟨rfl, rfl, hn⟩⟩
              · split at hs
                · rename_i i
                  exact ⟨⟨_, rfl⟩, x1, some (.exit i), .exit i, f1, t1, p1, a1, b1, d1, hx1, rfl, hl, hs _ _ ⟨rfl, rfl, hn⟩⟩
                · exact ⟨⟨_, rfl⟩, x1, some .ret, .ret, f1, t1, p1, a1, b1, d1, hx1, rfl, hl, hs _ _ ⟨rfl, rfl, hn⟩⟩
                · exfalso
                  split at hr' <;> first | (exact absurd rfl hr') | (simp_all)
            cases hc : callF P M K g args (Hp.put (Hp.put H nx (some (.deferred true))) (Nat.succ nx) (some (.loop .ready none f (toL n T) ps.toList asg body nx))) (Nat.succ (Nat.succ nx)) with
            | stuck => exact absurd hc hne
            | ok v H1 nx1 =>
              rw [hc] at h he
              simp only [CR.strict_ok] at h ⊢
              exact fin ⟨v, H1, nx1⟩ _ he h fun _ _ h => h
            | many l =>
              rw [hc] at h he
              obtain ⟨o, ho, hin⟩ := he
              obtain ⟨h1, h2⟩ := flatE_sound h o ho
              exact fin o _ hin h1 fun e t hs => h2 dfr e t hs
    | exit i => exact exec_exit ⟨rfl, rfl, hn⟩
    | scope c =>
      change scopeRun K f rd dfr c 10000 c s ≠ .stuck at h
      show Exec P f rd _ _ (Says dfr (scopeRun K f rd dfr c 10000 c s))
      exact exec_scope (scope_sound hK hd 10000 c s hn h)
    | label l => exact exec_label ⟨rfl, rfl, hn⟩
    | goto l => exact exec_goto ⟨rfl, rfl, hn⟩
    | ret => exact exec_ret ⟨rfl, rfl, hn⟩
    | refuse w => exact absurd rfl h
  · intro b hb
    subst hb
    change cSeq K f rd dfr (.loop b) (K f rd dfr b s) ≠ .stuck at h
    show ExecI P f rd _ _ (Says dfr (cSeq K f rd dfr (.loop b) (K f rd dfr b s)))
    refine (exec_round (hK.exec hn hd ?_ (by intro e; rw [e] at h; exact h rfl))).1
    intro e t ht
    cases hk : K f rd dfr b s with
    | stuck => rw [hk] at ht; exact ht.elim
    | normal s1 =>
      rw [hk] at ht h
      obtain ⟨rfl, rfl, hn1⟩ := ht
      have := hK f rd dfr (.loop b) s1 hn1 hd h
      exact ⟨this.2 b rfl, this.1⟩
    | exit i s1 => rw [hk] at ht; obtain ⟨rfl, rfl, hn1⟩ := ht; exact ⟨rfl, rfl, hn1⟩
    | goto l s1 => rw [hk] at ht; obtain ⟨rfl, rfl, hn1⟩ := ht; exact ⟨rfl, rfl, hn1⟩
    | ret s1 => rw [hk] at ht; obtain ⟨rfl, rfl, hn1⟩ := ht; exact ⟨rfl, rfl, hn1⟩
    | many l =>
      rw [hk] at ht h
      obtain ⟨o, ho, hs⟩ := ht
      obtain ⟨h1, h2⟩ := flatE_sound h o ho
      cases o with
      | normal s1 =>
        obtain ⟨rfl, rfl, hn1⟩ := hs
        have := hK f rd dfr (.loop b) s1 hn1 hd h1
        exact ⟨fun E ρ Z w a b' k cs hr hf hrd => (this.2 b rfl E ρ Z w a b' k cs hr hf hrd).mono fun e t ht => h2 dfr e t ht, this.1.mono fun e t ht => h2 dfr e t ht⟩
      | exit i s1 => obtain ⟨rfl, rfl, hn1⟩ := hs; exact h2 dfr _ _ ⟨rfl, rfl, hn1⟩
      | goto i s1 => obtain ⟨rfl, rfl, hn1⟩ := hs; exact h2 dfr _ _ ⟨rfl, rfl, hn1⟩
      | ret s1 => obtain ⟨rfl, rfl, hn1⟩ := hs; exact h2 dfr _ _ ⟨rfl, rfl, hn1⟩

theorem knot_sound (hmx : P.follows .mixedOrders = true) (hM : MemoOK P M) : ∀ n, KOK P (knot P M n)
  | 0 => by intro f rd dfr c s _ _ h; exact absurd rfl h
  | n + 1 => ev_sound hmx hM (knot_sound hmx hM n)

theorem callN_sound (hmx : P.follows .mixedOrders = true) (hM : MemoOK P M) {n : Nat} {g : FuncId} {args : List AV} {H H' : TH} {nx nx' : Nat} {v : AV} (h : callN P M n g args H nx = .ok v H' nx') : CallsTo P g args H nx v H' nx' := by
  have hne : cBody P (knot P M n) g args H nx ≠ .stuck := by
    intro e
    have h' : cBody P (knot P M n) g args H nx = .ok v H' nx' := h
    rw [e] at h'; cases h'
  have := cBody_sound (knot_sound hmx hM n) hne
  have h' : cBody P (knot P M n) g args H nx = .ok v H' nx' := h
  rw [h'] at this
  exact this

theorem callN_ways (hmx : P.follows .mixedOrders = true) (hM : MemoOK P M) {n : Nat} {g : FuncId} {args : List AV} {H : TH} {nx : Nat} (h : callN P M n g args H nx ≠ .stuck) : CallsR P g args H nx (callN P M n g args H nx) :=
  cBody_sound (knot_sound hmx hM n) h
end Go.Am

/- From the abstract level to a law's row. -/
namespace Go.Am
open Go.RowKit

variable {P : Program}

theorem HA.nil_at (d : D16) : HA.nil.at d = none := by cases d <;> rfl
theorem HB.nil_at (d : D16) : HB.nil.at d = HA.nil := by cases d <;> rfl
theorem HC.nil_at (d : D16) : HC.nil.at d = HB.nil := by cases d <;> rfl
theorem HD.nil_at (d : D16) : HD.nil.at d = HC.nil := by cases d <;> rfl
theorem TH.leaf_get (b : Nat) : TH.leaf.get b = none := by
  unfold TH.get TH.leaf HD.get
  simp only [HD.nil_at, HC.nil_at, HB.nil_at, HA.nil_at, Tr.get_leaf]
  cases Nat.ble (Nat.succ b) 65536 <;> rfl

/-- All that is there at the beginning is kept as it is. -/
theorem begin_rel (w : World) : SR ⟨fun _ => none, w⟩ (fun _ => none) (fun c => w.heap[c]?) (⟨TH.leaf, 0⟩ : St TH) w := by
  refine ⟨fun b k h => ?_, fun b b' k k' p p' h => ?_, fun b p h => by simp at h, fun c o h => h, fun c o h => by simp at h, Below.refl 0 w, fun c o h => by simp at h⟩
  · have : TH.leaf.get b = some k := h
    rw [TH.leaf_get] at this; cases this
  · have : TH.leaf.get b = some k := h
    rw [TH.leaf_get] at this; cases this

theorem law_of {g : FuncId} {args : List AV} {cargs : Array Value} {w : World} (h : ACall P g args (⟨TH.leaf, 0⟩ : St TH) fun e _ => e = .ret (.bool true)) (ha : AV.rels (fun _ => none) (fun c => w.heap[c]?) args cargs.toList) :
    Calls P g cargs w fun e w' => e = .returned (.bool true) ∧ Below w.heap.size w w' := by
  refine (h _ _ _ w cargs (begin_rel w) ha).mono fun e w' ⟨ae, st, ρ', Z', he, hx, _, hr, hv⟩ => ?_
  subst he
  obtain ⟨cv, rfl, hcv⟩ := hv
  simp only [AV.rel] at hcv
  subst hcv
  refine ⟨rfl, ?_⟩
  have hb := hr.bel
  refine ⟨hb.os, hb.tape, hb.output, hb.size, fun k hk => ?_⟩
  have : w.heap[k]? = some w.heap[k] := by simp [hk]
  have h1 := hr.frozen k w.heap[k] (hx.frozen _ _ this)
  rw [h1, this]
end Go.Am

/- What is proved of a call on values alone holds wherever it is made. -/
namespace Go.Am
open Go.RowKit
noncomputable section

/-! ### Values cut loose from a heap -/
def purL (ih : AV → Option AV) (l : List AV) : Option (List AV) := List.rec (motive := fun _ => Option (List AV)) (some []) (fun x _ r => match ih x with | some y => (match r with | some ys => some (y :: ys) | none => none) | none => none) l
def pur1 (H : Heap) (ih : AV → Option AV) (v : AV) : Option AV := match v with
  | .bool b => some (.bool b)
  | .int k n => some (.int k n)
  | .str s => some (.str s)
  | .nilPtr => some .nilPtr
  | .nilSlice => some .nilSlice
  | .nilMap => some .nilMap
  | .nilFunc => some .nilFunc
  | .nilIface => some .nilIface
  | .ptr b o => match H b with
    | some (.cells c) => (match purL ih (c.drop o) with | some cs => some (.pref cs) | none => none)
    | _ => none
  | .slice b o len cap sz _ => match H b with
    | some (.cells c) => cond (Nat.beq cap (nat_lit 0)) (some (.vec [] len false)) (match purL ih ((c.drop o).take (Nat.mul len sz)) with | some cs => some (.vec cs len false) | none => none)
    | _ => none
  | .iface t v => match ih v with | some y => some (.iface t y) | none => none
  | .agg cs => match purL ih cs with | some cs => some (.agg cs) | none => none
  | .tuple cs => match purL ih cs with | some cs => some (.tuple cs) | none => none
  | .func fn a c => match fn with
    | .func g => (match purL ih a with | some a => (match purL ih c with | some c => some (.func (.func g) a c) | none => none) | none => none)
    | _ => none
  | .pref cs => match purL ih cs with | some cs => some (.pref cs) | none => none
  | .vec cs len _ => match purL ih cs with | some cs => some (.vec cs len false) | none => none
  | _ => none
def purF (H : Heap) (n : Nat) : AV → Option AV := Nat.rec (motive := fun _ => AV → Option AV) (fun _ => none) (fun _ ih v => pur1 H ih v) n

/-! ### Values moved to other names -/
mutual
def AV.mv (k : Nat) : AV → AV
  | .ptr b o => .ptr (b + k) o
  | .slice b o len cap sz t => .slice (b + k) o len cap sz t
  | .map b => .map (b + k)
  | .yld b => .yld (b + k)
  | .iface t v => .iface t (v.mv k)
  | .agg cs => .agg (AV.mvs k cs)
  | .tuple cs => .tuple (AV.mvs k cs)
  | .func fn a c => .func fn (AV.mvs k a) (AV.mvs k c)
  | .pref _ => .junk
  | .vec _ _ _ => .junk
  | v => v
def AV.mvs (k : Nat) : List AV → List AV
  | [] => []
  | x :: xs => x.mv k :: AV.mvs k xs
end
def addL (k : Nat) (L : List (Nat × List AV)) (H : TH) : TH := List.rec (motive := fun _ => TH → TH) (fun H => H) (fun e _ ih H => TH.strict (Hp.put H (e.1 + k) (some (.cells (AV.mvs k e.2)))) fun H => ih H) L H

structure Ent where
  g : FuncId
  args : List AV
  v : AV
  L : List (Nat × List AV)
  nx : Nat
def memoOf (fuel : Nat) (es : List Ent) : Memo := fun g args H nx =>
  List.rec (motive := fun _ => CR) .stuck (fun e _ ih => cond (Nat.beq e.g g) (match purL (purF (Hp.get H) fuel) args with
    | some as => cond (AV.sames as e.args) (.ok (e.v.mv nx) (addL nx e.L H) (nx + e.nx)) ih
    | none => ih) ih) es
end

section
variable {P : Program}

mutual
theorem AV.mv_rel {ρ ρ' : Names} {Z Z' : Frozen} {k : Nat} (h : ∀ b p, ρ b = some p → ρ' (b + k) = some p) : ∀ (x : AV) (v : Value), x.rel ρ Z v → (x.mv k).rel ρ' Z' v
  | .junk, _, _ => by simp [AV.mv, AV.rel]
  | .bool _, _, r => by simpa [AV.mv, AV.rel] using r
  | .int _ _, _, r => by simpa [AV.mv, AV.rel] using r
  | .str _, _, r => by simpa [AV.mv, AV.rel] using r
  | .nilPtr, _, r => by simpa [AV.mv, AV.rel] using r
  | .ptr b o, _, r => by
    simp only [AV.mv, AV.rel] at r ⊢
    obtain ⟨p, e, r⟩ := r
    exact ⟨p, h _ _ e, r⟩
  | .pref cs, _, r => by simp [AV.mv, AV.rel]
  | .nilSlice, _, r => by simpa [AV.mv, AV.rel] using r
  | .slice b o len cap sz t, _, r => by
    simp only [AV.mv, AV.rel] at r ⊢
    obtain ⟨p, c, o', e, r⟩ := r
    exact ⟨p, c, o', h _ _ e, r⟩
  | .vec cs len t, _, r => by simp [AV.mv, AV.rel]
  | .nilMap, _, r => by simpa [AV.mv, AV.rel] using r
  | .map b, _, r => by
    simp only [AV.mv, AV.rel] at r ⊢
    obtain ⟨p, e, r⟩ := r
    exact ⟨p, h _ _ e, r⟩
  | .func fn fs cs, _, r => by
    simp only [AV.mv, AV.rel] at r ⊢
    obtain ⟨n, a, c, e, r, s⟩ := r
    exact ⟨n, a, c, e, AV.mvs_rel h fs _ r, AV.mvs_rel h cs _ s⟩
  | .yld b, _, r => by
    simp only [AV.mv, AV.rel] at r ⊢
    obtain ⟨p, e, r⟩ := r
    exact ⟨p, h _ _ e, r⟩
  | .nilFunc, _, r => by simpa [AV.mv, AV.rel] using r
  | .iface t x, _, r => by
    simp only [AV.mv, AV.rel] at r ⊢
    obtain ⟨y, e, r⟩ := r
    exact ⟨y, e, AV.mv_rel h x y r⟩
  | .nilIface, _, r => by simpa [AV.mv, AV.rel] using r
  | .agg cs, _, r => by
    simp only [AV.mv, AV.rel] at r ⊢
    obtain ⟨a, e, r⟩ := r
    exact ⟨a, e, AV.mvs_rel h cs _ r⟩
  | .tuple cs, _, r => by
    simp only [AV.mv, AV.rel] at r ⊢
    obtain ⟨a, e, r⟩ := r
    exact ⟨a, e, AV.mvs_rel h cs _ r⟩
theorem AV.mvs_rel {ρ ρ' : Names} {Z Z' : Frozen} {k : Nat} (h : ∀ b p, ρ b = some p → ρ' (b + k) = some p) : ∀ (xs : List AV) (l : List Value), AV.rels ρ Z xs l → AV.rels ρ' Z' (AV.mvs k xs) l
  | [], _, r => by simpa [AV.mvs, AV.rels] using r
  | x :: xs, _, r => by
    simp only [AV.mvs, AV.rels] at r ⊢
    obtain ⟨y, ys, e, r, s⟩ := r
    exact ⟨y, ys, e, AV.mv_rel h x y r, AV.mvs_rel h xs ys s⟩
end
theorem AV.mvs_length (k : Nat) : ∀ xs : List AV, (AV.mvs k xs).length = xs.length
  | [] => rfl
  | x :: xs => by simp [AV.mvs, AV.mvs_length k xs]

section pur
variable {E : Env} {ρ : Names} {Z ZZ : Frozen} {st : St TH} {w : World}

theorem purL_sound {ih : AV → Option AV} (hih : ∀ x y v, ih x = some y → x.rel ρ Z v → y.rel (fun _ => none) ZZ v) : ∀ (l l' : List AV) (vs : List Value), purL ih l = some l' → AV.rels ρ Z l vs → AV.rels (fun _ => none) ZZ l' vs
  | [], l', vs, h, r => by cases h; simpa [AV.rels] using r
  | x :: l, l', vs, h, r => by
    have h' : (match ih x with | some y => (match purL ih l with | some ys => some (y :: ys) | none => none) | none => none) = some l' := h
    cases h1 : ih x with
    | none => rw [h1] at h'; cases h'
    | some y =>
      rw [h1] at h'
      simp only at h'
      cases h2 : purL ih l with
      | none => rw [h2] at h'; cases h'
      | some ys =>
        rw [h2] at h'
        cases h'
        simp only [AV.rels] at r
        obtain ⟨v, vs', rfl, r1, r2⟩ := r
        exact AV.rels_cons (hih _ _ _ h1 r1) (purL_sound hih l ys vs' h2 r2)
theorem purL_length {ih : AV → Option AV} : ∀ (l l' : List AV), purL ih l = some l' → l'.length = l.length
  | [], l', h => by cases h; rfl
  | x :: l, l', h => by
    have h' : (match ih x with | some y => (match purL ih l with | some ys => some (y :: ys) | none => none) | none => none) = some l' := h
    cases h1 : ih x with
    | none => rw [h1] at h'; cases h'
    | some y =>
      rw [h1] at h'
      simp only at h'
      cases h2 : purL ih l with
      | none => rw [h2] at h'; cases h'
      | some ys => rw [h2] at h'; cases h'; simp [purL_length l ys h2]

theorem pur_sound (hr : SR E ρ Z st w) (hz : ∀ b c p o, Hp.get st.H b = some (.cells c) → ρ b = some p → w.heap[p.block]? = some o → ZZ p.block = some o) (hzf : ∀ c o, Z c = some o → ZZ c = some o) : ∀ (n : Nat) (x y : AV) (v : Value), purF (Hp.get st.H) n x = some y → x.rel ρ Z v → y.rel (fun _ => none) ZZ v
  | 0, x, y, v, h, r => by cases h
  | n + 1, x, y, v, h, r => by
    replace h : pur1 (Hp.get st.H) (purF (Hp.get st.H) n) x = some y := h
    have ih := pur_sound hr hz hzf n
    unfold pur1 at h
    split at h
    · cases h; simpa [AV.rel] using r
    · cases h; simpa [AV.rel] using r
    · cases h; simpa [AV.rel] using r
    · cases h; simpa [AV.rel] using r
    · cases h; simpa [AV.rel] using r
    · cases h; simpa [AV.rel] using r
    · cases h; simpa [AV.rel] using r
    · cases h; simpa [AV.rel] using r
    · rename_i b o
      split at h <;> try (cases h; done)
      rename_i c hb
      split at h <;> try (cases h; done)
      rename_i cs hcs
      cases h
      simp only [AV.rel] at r
      obtain ⟨p, hp, rfl⟩ := r
      obtain ⟨q, ob, k1, k2, k3, _⟩ := hr.live _ _ hb
      rw [hp] at k1; cases k1
      have hzz := hz b c p ob hb hp k2
      obtain ⟨arr, el, fr, rfl, htop, hl, hrel, _⟩ := k3
      simp only [AV.rel]
      refine ⟨p.block, p.base + o, arr, el, fr, hzz, rfl, ?_⟩
      have h1 := AV.rels_drop o hrel
      rw [List.drop_take, List.drop_drop] at h1
      have h2 := purL_sound ih _ _ _ hcs h1
      rw [purL_length _ _ hcs, List.length_drop]
      exact h2
    · rename_i b o len cap sz t
      split at h <;> try (cases h; done)
      rename_i c hb
      simp only [AV.rel] at r
      obtain ⟨p, ccap, o', hp, rfl, h1, h2, h3, h4⟩ := r
      obtain ⟨q, ob, k1, k2, k3, _⟩ := hr.live _ _ hb
      rw [hp] at k1; cases k1
      have hzz := hz b c p ob hb hp k2
      obtain ⟨arr, el, fr, rfl, htop, hl, hrel, _⟩ := k3
      cases hcap : Nat.beq cap 0 with
      | true =>
        rw [hcap, cond_true] at h
        cases h
        simp only [AV.rel]
        exact ⟨p.block, o', ccap, arr, el, fr, hzz, rfl, by omega, by simp, by simp [AV.rels]⟩
      | false =>
        rw [hcap, cond_false] at h
        split at h <;> try (cases h; done)
        rename_i cs hcs
        cases h
        have hc0 : cap ≠ 0 := by intro e; subst e; simp at hcap
        obtain ⟨h5, h6⟩ := h4 (by omega)
        subst h5
        simp only [AV.rel]
        refine ⟨p.block, p.base + o, ccap, arr, el, fr, hzz, rfl, by omega, by simp, ?_⟩
        have g1 := AV.rels_take (Nat.mul len sz) (AV.rels_drop o hrel)
        rw [List.drop_take, List.drop_drop, List.take_take] at g1
        have g2 := purL_sound ih _ _ _ hcs g1
        rw [purL_length _ _ hcs, List.length_take, List.length_drop]
        exact g2
    · rename_i t v'
      split at h <;> try (cases h; done)
      rename_i y' hy
      cases h
      simp only [AV.rel] at r ⊢
      obtain ⟨u, rfl, r⟩ := r
      exact ⟨u, rfl, ih _ _ _ hy r⟩
    · split at h <;> try (cases h; done)
      rename_i cs hcs
      cases h
      simp only [AV.rel] at r ⊢
      obtain ⟨a, rfl, r⟩ := r
      exact ⟨a, rfl, purL_sound ih _ _ _ hcs r⟩
    · split at h <;> try (cases h; done)
      rename_i cs hcs
      cases h
      simp only [AV.rel] at r ⊢
      obtain ⟨a, rfl, r⟩ := r
      exact ⟨a, rfl, purL_sound ih _ _ _ hcs r⟩
    · rename_i fn a c
      split at h <;> try (cases h; done)
      rename_i g
      split at h <;> try (cases h; done)
      rename_i a' ha
      split at h <;> try (cases h; done)
      rename_i c' hc
      cases h
      simp only [AV.rel] at r ⊢
      obtain ⟨n1, fa, ca, rfl, r1, r2⟩ := r
      exact ⟨n1, fa, ca, rfl, purL_sound ih _ _ _ ha r1, purL_sound ih _ _ _ hc r2⟩
    · split at h <;> try (cases h; done)
      rename_i cs' hcs
      cases h
      simp only [AV.rel] at r ⊢
      obtain ⟨cb, o, arr, el, fr, hz0, rfl, hrel⟩ := r
      refine ⟨cb, o, arr, el, fr, hzf _ _ hz0, rfl, ?_⟩
      rw [purL_length _ _ hcs]
      exact purL_sound ih _ _ _ hcs hrel
    · split at h <;> try (cases h; done)
      rename_i cs' hcs
      cases h
      simp only [AV.rel] at r ⊢
      obtain ⟨cb, o, ccap, arr, el, fr, hz0, rfl, hl, ht, hrel⟩ := r
      refine ⟨cb, o, ccap, arr, el, fr, hzf _ _ hz0, rfl, hl, by simp, ?_⟩
      rw [purL_length _ _ hcs]
      exact purL_sound ih _ _ _ hcs hrel
    · cases h
end pur

theorem addL_get {k : Nat} : ∀ (L : List (Nat × List AV)) (H : TH) (c : Nat) (blk : ABlk), (addL k L H).get c = some blk → H.get c = some blk ∨ ∃ b cs, (b, cs) ∈ L ∧ c = b + k ∧ blk = .cells (AV.mvs k cs)
  | [], H, c, blk, h => Or.inl h
  | (b, cs) :: L, H, c, blk, h => by
    have h' : (addL k L (Hp.put H (b + k) (some (.cells (AV.mvs k cs))))).get c = some blk := by
      have e : addL k ((b, cs) :: L) H = TH.strict (Hp.put H (b + k) (some (.cells (AV.mvs k cs)))) fun H => addL k L H := rfl
      rw [e, TH.strict_eq] at h
      exact h
    rcases addL_get L _ c blk h' with h1 | ⟨b', cs', h1, h2⟩
    · have := congrFun (Hp.get_put H (b + k) (some (ABlk.cells (AV.mvs k cs)))) c
      have h1 : Hp.get (Hp.put H (b + k) (some (ABlk.cells (AV.mvs k cs)))) c = some blk := h1
      rw [this, Heap.put_apply] at h1
      split at h1
      · rename_i e
        cases h1
        exact Or.inr ⟨b, cs, by simp, e, rfl⟩
      · exact Or.inl h1
    · exact Or.inr ⟨b', cs', List.mem_cons_of_mem _ h1, h2⟩

def EntOK (P : Program) (e : Ent) : Prop := ∃ H', CallsTo P e.g e.args TH.leaf 0 e.v H' e.nx ∧ ∀ b cs, (b, cs) ∈ e.L → H'.get b = some (.cells cs)

open Classical in
theorem ent_apply {e : Ent} (he : EntOK P e) {args : List AV} {H : TH} {nx fuel : Nat} (hp : purL (purF (Hp.get H) fuel) args = some e.args) : CallsTo P e.g args H nx (e.v.mv nx) (addL nx e.L H) (nx + e.nx) := by
  obtain ⟨H', ⟨hhas, hcall⟩, hL⟩ := he
  refine ⟨hhas, ?_⟩
  intro E ρ Z w cargs hr ha
  have hr : SRel E ρ Z (Hp.get H) nx w := hr
  let B : Nat → Prop := fun c => ∃ b k p, Hp.get H b = some k ∧ ρ b = some p ∧ p.block = c
  let ZZ : Frozen := fun c => if B c then w.heap[c]? else Z c
  have hBZ : ∀ c, B c → Z c = none ∧ E.keep c = none := by
    rintro c ⟨b, k, p, h1, h2, rfl⟩
    obtain ⟨q, o, g1, g2, g3, g4, g5⟩ := hr.live _ _ h1
    rw [h2] at g1; cases g1
    exact ⟨g5, g4⟩
  have hr0 : SR E (fun _ => none) ZZ (⟨TH.leaf, 0⟩ : St TH) w := by
    refine ⟨fun b k h => ?_, fun b b' k k' p p' h => ?_, fun b p h => by simp at h, fun c o h => ?_, hr.keep, hr.bel, fun c o h => ?_⟩
    · have : TH.leaf.get b = some k := h
      rw [TH.leaf_get] at this; cases this
    · have : TH.leaf.get b = some k := h
      rw [TH.leaf_get] at this; cases this
    · simp only [ZZ] at h
      split at h
      · exact h
      · exact hr.frozen _ _ h
    · simp only [ZZ]
      split
      · rename_i hb
        rw [(hBZ c hb).2] at h; cases h
      · exact hr.disj _ _ h
  have hpur := fun (n : Nat) => pur_sound (ZZ := ZZ) (st := (⟨H, nx⟩ : St TH)) hr (fun b c p o hb hp ho => by
    simp only [ZZ]
    rw [if_pos ⟨b, _, p, hb, hp, rfl⟩]
    exact ho) (fun c o h => by
    simp only [ZZ]
    rw [if_neg (by intro hb; rw [(hBZ c hb).1] at h; cases h)]
    exact h) n
  have ha0 := purL_sound (hpur fuel) _ _ _ hp ha
  refine (hcall E (fun _ => none) ZZ w cargs hr0 ha0).mono fun e1 w' ⟨ae, st', ρ1, Z1, ⟨e2, e3⟩, hx, _, hr1, hv⟩ => ?_
  subst e2
  subst e3
  have hr1 : SRel E ρ1 Z1 (Hp.get H') e.nx w' := hr1
  let ρ2 : Names := fun b => if b < nx then ρ b else ρ1 (b - nx)
  let Z2 : Frozen := fun c => if B c then none else Z1 c
  have hZ1 : ∀ c o, Z c = some o → Z1 c = some o := by
    intro c o h
    apply hx.frozen
    simp only [ZZ]
    rw [if_neg (by intro hb; rw [(hBZ c hb).1] at h; cases h)]
    exact h
  have hxt : Ext ρ Z ρ2 Z2 := by
    refine ⟨fun b p h => ?_, fun c o h => ?_⟩
    · simp only [ρ2]; rw [if_pos (hr.dom _ _ h)]; exact h
    · simp only [Z2]
      rw [if_neg (by intro hb; rw [(hBZ c hb).1] at h; cases h)]
      exact hZ1 _ _ h
  have hmv : ∀ b p, ρ1 b = some p → ρ2 (b + nx) = some p := by
    intro b p h
    simp only [ρ2]
    rw [if_neg (by omega), Nat.add_sub_cancel]
    exact h
  -- where an abstract block lies
  have place : ∀ b k, Hp.get (addL nx e.L H) b = some k → (Hp.get H b = some k ∧ b < nx ∧ ∃ p, ρ b = some p ∧ ρ2 b = some p) ∨
      (∃ c cs, b = c + nx ∧ k = .cells (AV.mvs nx cs) ∧ Hp.get H' c = some (.cells cs) ∧ ∃ p, ρ1 c = some p ∧ ρ2 b = some p) := by
    intro b k h
    rcases addL_get e.L H b k h with h1 | ⟨c, cs, h1, rfl, rfl⟩
    · obtain ⟨p, o, g1, _⟩ := hr.live _ _ h1
      exact Or.inl ⟨h1, hr.dom _ _ g1, p, g1, hxt.names _ _ g1⟩
    · have h2 : Hp.get H' c = some (.cells cs) := hL c cs h1
      obtain ⟨p, o, g1, _⟩ := hr1.live _ _ h2
      exact Or.inr ⟨c, cs, rfl, rfl, h2, p, g1, hmv _ _ g1⟩
  have old : ∀ b k p, Hp.get H b = some k → ρ b = some p → ∃ o, w.heap[p.block]? = some o ∧ w'.heap[p.block]? = some o ∧ Z1 p.block = some o ∧ k.rel ρ Z p o := by
    intro b k p h1 h2
    obtain ⟨q, o, g1, g2, g3, g4, g5⟩ := hr.live _ _ h1
    rw [h2] at g1; cases g1
    have hz : Z1 p.block = some o := by
      apply hx.frozen
      simp only [ZZ]
      rw [if_pos ⟨b, k, p, h1, h2, rfl⟩]
      exact g2
    exact ⟨o, g2, hr1.frozen _ _ hz, hz, g3⟩
  refine ⟨.ret (e.v.mv nx), ⟨addL nx e.L H, nx + e.nx⟩, ρ2, Z2, ⟨rfl, rfl⟩, hxt, Nat.le_add_right _ _, ?_, ?_⟩
  · show SRel E ρ2 Z2 (Hp.get (addL nx e.L H)) (nx + e.nx) w'
    refine ⟨fun b k h => ?_, fun b b' k k' p p' h h' hp1 hp2 hbb => ?_, fun b p h => ?_, fun c o h => ?_, hr1.keep, hr1.bel, fun c o h => ?_⟩
    · rcases place b k h with ⟨h1, hlt, p, h2, h3⟩ | ⟨c, cs, rfl, rfl, h2, p, h3, h4⟩
      · obtain ⟨o, g1, g2, g3, g4⟩ := old b k p h1 h2
        have hB : B p.block := ⟨b, k, p, h1, h2, rfl⟩
        refine ⟨p, o, h3, g2, ABlk.rel_mono hxt g4, (hBZ _ hB).2, ?_⟩
        simp only [Z2]; rw [if_pos hB]
      · obtain ⟨q, o, g1, g2, g3, g4, g5⟩ := hr1.live _ _ h2
        rw [h3] at g1; cases g1
        refine ⟨p, o, h4, g2, ?_, g4, ?_⟩
        · obtain ⟨arr, el, fr, rfl, k1, k2, k3, k4⟩ := g3
          refine ⟨arr, el, fr, rfl, k1, by rw [AV.mvs_length]; exact k2, ?_, k4⟩
          rw [AV.mvs_length]
          exact AV.mvs_rel hmv _ _ k3
        · simp only [Z2]
          split
          · rfl
          · exact g5
    · rcases place b k h with ⟨h1, hlt, q, h2, h3⟩ | ⟨c, cs, rfl, rfl, h2, q, h3, h4⟩
      · rcases place b' k' h' with ⟨h1', hlt', q', h2', h3'⟩ | ⟨c', cs', rfl, rfl, h2', q', h3', h4'⟩
        · rw [hp1] at h3; cases h3
          rw [hp2] at h3'; cases h3'
          exact hr.inj _ _ _ _ _ _ h1 h1' h2 h2' hbb
        · rw [hp1] at h3; cases h3
          rw [hp2] at h4'; cases h4'
          obtain ⟨o, _, _, g3, _⟩ := old b k p h1 h2
          obtain ⟨q2, o2, f1, _, _, _, f5⟩ := hr1.live _ _ h2'
          rw [h3'] at f1; cases f1
          rw [hbb, f5] at g3; cases g3
      · rcases place b' k' h' with ⟨h1', hlt', q', h2', h3'⟩ | ⟨c', cs', rfl, rfl, h2', q', h3', h4'⟩
        · rw [hp1] at h4; cases h4
          rw [hp2] at h3'; cases h3'
          obtain ⟨o, _, _, g3, _⟩ := old b' k' p' h1' h2'
          obtain ⟨q2, o2, f1, _, _, _, f5⟩ := hr1.live _ _ h2
          rw [h3] at f1; cases f1
          rw [← hbb, f5] at g3; cases g3
        · rw [hp1] at h4; cases h4
          rw [hp2] at h4'; cases h4'
          rw [hr1.inj _ _ _ _ _ _ h2 h2' h3 h3' hbb]
    · simp only [ρ2] at h
      split at h
      · omega
      · have := hr1.dom _ _ h
        omega
    · simp only [Z2] at h
      split at h
      · cases h
      · exact hr1.frozen _ _ h
    · simp only [Z2]
      split
      · rfl
      · exact hr1.disj _ _ h
  · obtain ⟨cv, rfl, hcv⟩ := hv
    exact ⟨cv, rfl, AV.mv_rel hmv _ _ hcv⟩

theorem memoOf_ok {fuel : Nat} : ∀ {es : List Ent}, (∀ e ∈ es, EntOK P e) → MemoOK P (memoOf fuel es)
  | [], _ => by intro g args H nx v H' nx' h; cases h
  | e :: es, h => by
    intro g args H nx v H' nx' hm
    have hm' : cond (Nat.beq e.g g) (match purL (purF (Hp.get H) fuel) args with
      | some as => cond (AV.sames as e.args) (CR.ok (e.v.mv nx) (addL nx e.L H) (nx + e.nx)) (memoOf fuel es g args H nx)
      | none => memoOf fuel es g args H nx) (memoOf fuel es g args H nx) = .ok v H' nx' := hm
    have ih := memoOf_ok (fuel := fuel) (es := es) (fun e he => h e (List.mem_cons_of_mem _ he))
    cases hg : Nat.beq e.g g with
    | false => rw [hg, cond_false] at hm'; exact ih _ _ _ _ _ _ _ hm'
    | true =>
      rw [hg, cond_true] at hm'
      cases hp : purL (purF (Hp.get H) fuel) args with
      | none => rw [hp] at hm'; exact ih _ _ _ _ _ _ _ hm'
      | some as =>
        rw [hp] at hm'
        simp only at hm'
        cases hs : AV.sames as e.args with
        | false => rw [hs, cond_false] at hm'; exact ih _ _ _ _ _ _ _ hm'
        | true =>
          rw [hs, cond_true] at hm'
          cases hm'
          have := AV.sames_eq _ _ hs
          subst this
          have hgg := Nat.eq_of_beq_eq_true hg
          subst hgg
          exact ent_apply (h e (by simp)) hp
end
end Go.Am

/- A summary is checked by running. -/
namespace Go.Am
open Go.RowKit
noncomputable section

def chkL (H : TH) (L : List (Nat × List AV)) : Bool := List.rec (motive := fun _ => Bool) true (fun e _ ih => match H.get e.1 with
  | some k => (match k.asCells with | some c => cond (AV.sames c e.2) ih false | none => false)
  | none => false) L
def chkR (e : Ent) (r : CR) : Bool := match r with
  | .ok v H nx => cond (v.same e.v) (cond (Nat.beq nx e.nx) (chkL H e.L) false) false
  | _ => false
/-- All ways tell this; what they leave is dropped. -/
def chkW (e : Ent) (r : CR) : Bool := match r.ways with
  | some ws => ws.all (fun ω => ω.v.same e.v && Nat.ble ω.nx e.nx) && e.L.isEmpty
  | none => false
def chkE (P : Program) (M : Memo) (fuel : Nat) (e : Ent) : Bool := chkR e (callN P M fuel e.g e.args .leaf 0)
end

theorem chkL_at {H : TH} : ∀ (L : List (Nat × List AV)), chkL H L = true → ∀ b cs, (b, cs) ∈ L → H.get b = some (.cells cs)
  | [], h, b, cs, hm => by simp at hm
  | e :: L, h, b, cs, hm => by
    have h' : (match H.get e.1 with | some k => (match k.asCells with | some c => cond (AV.sames c e.2) (chkL H L) false | none => false) | none => false) = true := h
    cases hg : H.get e.1 with
    | none => rw [hg] at h'; cases h'
    | some k =>
      rw [hg] at h'
      simp only at h'
      cases hk : k.asCells with
      | none => rw [hk] at h'; cases h'
      | some c =>
        rw [hk] at h'
        simp only at h'
        cases hs : AV.sames c e.2 with
        | false => rw [hs] at h'; cases h'
        | true =>
          rw [hs, cond_true] at h'
          have e1 := ABlk.asCells_some hk
          have e2 := AV.sames_eq _ _ hs
          rcases List.mem_cons.1 hm with rfl | hm
          · rw [hg, e1, e2]
          · exact chkL_at L h' b cs hm

theorem chkE_ok {P : Program} (hmx : P.follows .mixedOrders = true) {M : Memo} (hM : MemoOK P M) {fuel : Nat} {e : Ent} (h : chkE P M fuel e = true) : EntOK P e := by
  unfold chkE chkR at h
  split at h
  · rename_i v H nx hc
    cases hv : v.same e.v with
    | false => rw [hv] at h; cases h
    | true =>
      rw [hv, cond_true] at h
      cases hn : Nat.beq nx e.nx with
      | false => rw [hn] at h; cases h
      | true =>
        rw [hn, cond_true] at h
        have e1 := AV.same_eq _ _ hv
        have e2 := Nat.eq_of_beq_eq_true hn
        subst e1; subst e2
        exact ⟨H, callN_sound hmx hM hc, fun b cs hb => chkL_at e.L h b cs hb⟩
  · cases h
theorem drop_ways {P : Program} {g : FuncId} {args : List AV} {H : TH} {nx N : Nat} {r : CR} {v : AV} (h : CallsR P g args H nx r) (hv : ∀ ws, r.ways = some ws → ∀ ω ∈ ws, ω.v = v ∧ ω.nx ≤ N) (hN : nx ≤ N) : CallsTo P g args H nx v TH.leaf N := by
  refine ⟨h.1, fun E ρ Z w cargs hr ha => (h.2 E ρ Z w cargs hr ha).mono fun e w' ⟨ae, st', ρ', Z', hin, hx, hnx, hst, hend⟩ => ?_⟩
  obtain ⟨ws, hws, ω, hω, rfl, rfl⟩ := inC_ways.1 hin
  obtain ⟨e1, e2⟩ := hv ws hws ω hω
  refine ⟨.ret v, ⟨TH.leaf, N⟩, ρ', Z', ⟨rfl, rfl⟩, hx, hN, ?_, by rw [← e1]; exact hend⟩
  have hst : SRel E ρ' Z' (Hp.get ω.H) ω.nx w' := hst
  refine ⟨fun b k h => ?_, fun b b' k k' p p' h => ?_, fun b p h => Nat.lt_of_lt_of_le (hst.dom b p h) e2, hst.frozen, hst.keep, hst.bel, hst.disj⟩
  · have : TH.leaf.get b = some k := h
    rw [TH.leaf_get] at this; cases this
  · have : TH.leaf.get b = some k := h
    rw [TH.leaf_get] at this; cases this

theorem chkW_ok {P : Program} (hmx : P.follows .mixedOrders = true) {M : Memo} (hM : MemoOK P M) {fuel : Nat} {e : Ent} (h : chkW e (callN P M fuel e.g e.args .leaf 0) = true) : EntOK P e := by
  unfold chkW at h
  split at h
  · rename_i ws hws
    simp only [Bool.and_eq_true, List.all_eq_true] at h
    obtain ⟨h1, h2⟩ := h
    have hne : callN P M fuel e.g e.args .leaf 0 ≠ .stuck := by intro e'; rw [e'] at hws; cases hws
    have hc := callN_ways hmx hM hne
    refine ⟨TH.leaf, drop_ways hc (fun ws' hws' ω hω => ?_) (Nat.zero_le _), fun b cs hb => ?_⟩
    · rw [hws] at hws'; cases hws'
      obtain ⟨a, b⟩ := h1 ω hω
      exact ⟨AV.same_eq _ _ a, Nat.le_of_ble_eq_true b⟩
    · rw [List.isEmpty_iff.1 h2] at hb; simp at hb
  · cases h
end Go.Am

/- States of which a part is forgotten: what holds from such a one on holds from the fuller one on. -/
namespace Go.Am
open Go.RowKit

/-! ### Values that tell less -/
def AV.lte (y x : AV) : Prop := y = .junk ∨ y = x
theorem AV.lte_rel {ρ : Names} {Z : Frozen} {y x : AV} {v : Value} (h : y.lte x) (r : x.rel ρ Z v) : y.rel ρ Z v := by
  rcases h with rfl | rfl
  · simp [AV.rel]
  · exact r
def ltes : List AV → List AV → Prop
  | [], [] => True
  | y :: ys, x :: xs => y.lte x ∧ ltes ys xs
  | _, _ => False
theorem ltes_length : ∀ {ys xs : List AV}, ltes ys xs → ys.length = xs.length
  | [], [], _ => rfl
  | y :: ys, x :: xs, h => by simp [ltes_length h.2]
  | [], x :: xs, h => h.elim
  | y :: ys, [], h => h.elim
theorem ltes_rels {ρ : Names} {Z : Frozen} : ∀ {ys xs : List AV} {l : List Value}, ltes ys xs → AV.rels ρ Z xs l → AV.rels ρ Z ys l
  | [], [], _, _, r => r
  | y :: ys, x :: xs, l, h, r => by
    simp only [AV.rels] at r ⊢
    obtain ⟨v, vs, rfl, r1, r2⟩ := r
    exact ⟨v, vs, rfl, AV.lte_rel h.1 r1, ltes_rels h.2 r2⟩
  | [], x :: xs, _, h, _ => h.elim
  | y :: ys, [], _, h, _ => h.elim
theorem ltes_of : ∀ {ys xs : List AV}, ys.length = xs.length → (∀ (t : Nat) (y : AV), ys[t]? = some y → ∃ x : AV, xs[t]? = some x ∧ AV.lte y x) → ltes ys xs
  | [], [], _, _ => trivial
  | y :: ys, x :: xs, hl, h => by
    refine ⟨?_, ltes_of (by simpa using hl) fun t z hz => ?_⟩
    · obtain ⟨x', h1, h2⟩ := h 0 y rfl
      cases h1; exact h2
    · obtain ⟨x', h1, h2⟩ := h (t + 1) z (by simpa using hz)
      exact ⟨x', by simpa using h1, h2⟩
  | [], x :: xs, hl, _ => by simp at hl
  | y :: ys, [], hl, _ => by simp at hl
def ABlk.lte : ABlk → ABlk → Prop
  | .cells y, .cells x => ltes y x
  | _, _ => False
theorem ABlk.lte_rel {ρ : Names} {Z : Frozen} {p : Pl} {o : Obj} : ∀ {y x : ABlk}, y.lte x → x.rel ρ Z p o → y.rel ρ Z p o
  | .cells y, .cells x, h, r => by
    obtain ⟨arr, el, fr, h1, h2, h3, h4, h5⟩ := r
    have hl := ltes_length h
    exact ⟨arr, el, fr, h1, h2, by rw [hl]; exact h3, by rw [hl]; exact ltes_rels h h4, h5⟩
  | .cells _, .map _ _, h, _ => h.elim
  | .cells _, .lit _, h, _ => h.elim
  | .cells _, .loop .., h, _ => h.elim
  | .cells _, .deferred _, h, _ => h.elim
  | .cells _, .iter .., h, _ => h.elim
  | .map _ _, _, h, _ => h.elim
  | .lit _, _, h, _ => h.elim
  | .loop .., _, h, _ => h.elim
  | .deferred _, _, h, _ => h.elim
  | .iter .., _, h, _ => h.elim

/-! ### States that tell less -/
structure Wk (s s' : ES) : Prop where
  n : s'.n = s.n
  ds : s'.ds = s.ds
  T : ∀ t, t < s.n → (s'.T.get t).lte (s.T.get t)
  H : ∀ b k', s'.H.get b = some k' → ∃ k, s.H.get b = some k ∧ k'.lte k
  nx : s.nx ≤ s'.nx

section
variable {P : Program} {M : Memo} {K : Knot} {f : FuncId} {rd dfr : Bool} {c : Code} {s s' : ES} {Q : AExit → FS TH → Prop}

theorem srel_wk {E : Env} {ρ : Names} {Z : Frozen} {w : World} (h : Wk s s') (hr : SR E ρ Z (⟨s.H, s.nx⟩ : St TH) w) : SR E ρ Z (⟨s'.H, s'.nx⟩ : St TH) w := by
  have hr : SRel E ρ Z (Hp.get s.H) s.nx w := hr
  show SRel E ρ Z (Hp.get s'.H) s'.nx w
  refine ⟨fun b k' hb => ?_, fun b b' k k' p p' h1 h2 h3 h4 h5 => ?_, fun b p hb => Nat.lt_of_lt_of_le (hr.dom b p hb) h.nx, hr.frozen, hr.keep, hr.bel, hr.disj⟩
  · obtain ⟨k, hk, hl⟩ := h.H b k' hb
    obtain ⟨p, o, h1, h2, h3, h4⟩ := hr.live b k hk
    exact ⟨p, o, h1, h2, ABlk.lte_rel hl h3, h4⟩
  · obtain ⟨k1, g1, _⟩ := h.H b k h1
    obtain ⟨k2, g2, _⟩ := h.H b' k' h2
    exact hr.inj b b' k1 k2 p p' g1 g2 h3 h4 h5
theorem toL_wk (h : Wk s s') : ltes (toL s'.n s'.T) (toL s.n s.T) := by
  rw [h.n]
  refine ltes_of (by simp [toL_length]) fun t y hy => ?_
  rw [toL_get] at hy
  split at hy
  · rename_i ht
    cases hy
    exact ⟨s.T.get t, by rw [toL_get, if_pos ht], h.T t ht⟩
  · cases hy
theorem frel_wk {E : Env} {ρ : Names} {Z : Frozen} {b : Frame} {cs : List Frame} {a : Act} {w : World} (h : Wk s s') (hr : FRel E ρ Z (FSof dfr s) b cs a w) : FRel E ρ Z (FSof dfr s') b cs a w := by
  refine ⟨srel_wk h hr.st, ltes_rels (toL_wk h) hr.tmps, ?_, hr.caller⟩
  show drels ρ Z s'.ds a.defers
  rw [h.ds]; exact hr.defers
theorem execI_wk {it : Item} (h : Wk s s') (he : ExecI P f rd it (FSof dfr s') Q) : ExecI P f rd it (FSof dfr s) Q := by
  intro E ρ Z w a b k cs hr hf hrd
  obtain ⟨e, t, ρ', Z', w', a', cs', h1, h2, h3, h4⟩ := he E ρ Z w a b k cs (frel_wk h hr) hf hrd
  exact ⟨e, t, ρ', Z', w', a', cs', h1, h2, Nat.le_trans h.nx h3, h4⟩
theorem exec_wk (h : Wk s s') (he : Exec P f rd c (FSof dfr s') Q) : Exec P f rd c (FSof dfr s) Q := execI_wk h he
theorem execL_wk (h : Wk s s') (he : ExecL P f rd c (FSof dfr s') Q) : ExecL P f rd c (FSof dfr s) Q := ⟨execI_wk h he.1, execI_wk h he.2⟩
end

/-! ### What is kept of a state, in lists -/
noncomputable section
def lk (ps : List (Nat × AV)) (t : Nat) : AV := List.rec (motive := fun _ => AV) .junk (fun p _ ih => cond (Nat.beq p.1 t) p.2 ih) ps
theorem lk_of : ∀ (ps : List (Nat × AV)) (t : Nat), lk ps t = .junk ∨ ∃ p ∈ ps, p.1 = t ∧ lk ps t = p.2
  | [], t => Or.inl rfl
  | p :: ps, t => by
    have e : lk (p :: ps) t = cond (Nat.beq p.1 t) p.2 (lk ps t) := rfl
    rw [e, nbeq]
    by_cases h : p.1 = t
    · simp only [h, decide_true, cond_true]; exact Or.inr ⟨p, by simp, h, rfl⟩
    · simp only [h, decide_false, cond_false]
      rcases lk_of ps t with h1 | ⟨q, hq, h1, h2⟩
      · exact Or.inl h1
      · exact Or.inr ⟨q, List.mem_cons_of_mem _ hq, h1, h2⟩
def fill (n : Nat) (ps : List (Nat × AV)) : List AV := (List.range n).map (lk ps)
def putsL (L : List (Nat × List AV)) : TH := List.rec (motive := fun _ => TH) .leaf (fun e _ H => Hp.put H e.1 (some (.cells e.2))) L
theorem putsL_get : ∀ (L : List (Nat × List AV)) (b : Nat) (k : ABlk), (putsL L).get b = some k → ∃ cs, (b, cs) ∈ L ∧ k = .cells cs
  | [], b, k, h => by
    have h' : TH.leaf.get b = some k := h
    rw [TH.leaf_get] at h'; cases h'
  | e :: L, b, k, h => by
    have h' : Hp.get (Hp.put (putsL L) e.1 (some (.cells e.2))) b = some k := h
    rw [Hp.get_put, Heap.put_apply] at h'
    split at h'
    · rename_i hb
      cases h'
      exact ⟨e.2, by rw [hb]; simp, rfl⟩
    · obtain ⟨cs, h1, h2⟩ := putsL_get L b k h'
      exact ⟨cs, List.mem_cons_of_mem _ h1, h2⟩
/-- So many temporaries, of which these are known; these blocks. -/
def canon (n : Nat) (ps : List (Nat × AV)) (L : List (Nat × List AV)) (N : Nat) : ES := ⟨n, mkT (fill n ps), [], putsL L, N⟩

def AV.isJ : AV → Bool
  | .junk => true
  | _ => false
theorem AV.isJ_eq {x : AV} (h : x.isJ = true) : x = .junk := by cases x <;> first | rfl | cases h
def lteB : List AV → List AV → Bool
  | [], [] => true
  | y :: ys, x :: xs => cond (y.isJ || y.same x) (lteB ys xs) false
  | _, _ => false
theorem lteB_ok : ∀ {ys xs : List AV}, lteB ys xs = true → ltes ys xs
  | [], [], _ => trivial
  | y :: ys, x :: xs, h => by
    have h' : cond (y.isJ || y.same x) (lteB ys xs) false = true := h
    cases hc : (y.isJ || y.same x) with
    | false => rw [hc] at h'; cases h'
    | true =>
      rw [hc, cond_true] at h'
      refine ⟨?_, lteB_ok h'⟩
      simp only [Bool.or_eq_true] at hc
      rcases hc with hc | hc
      · exact Or.inl (AV.isJ_eq hc)
      · exact Or.inr (AV.same_eq _ _ hc)
  | [], x :: xs, h => by cases h
  | y :: ys, [], h => by cases h
def chkH (H : TH) (L : List (Nat × List AV)) : Bool := List.rec (motive := fun _ => Bool) true (fun e _ ih => match H.get e.1 with
  | some k => (match k.asCells with | some c => cond (lteB e.2 c) ih false | none => false)
  | none => false) L
theorem chkH_at {H : TH} : ∀ (L : List (Nat × List AV)), chkH H L = true → ∀ b cs, (b, cs) ∈ L → ∃ c, H.get b = some (.cells c) ∧ ltes cs c
  | [], h, b, cs, hm => by simp at hm
  | e :: L, h, b, cs, hm => by
    have h' : (match H.get e.1 with | some k => (match k.asCells with | some c => cond (lteB e.2 c) (chkH H L) false | none => false) | none => false) = true := h
    cases hg : H.get e.1 with
    | none => rw [hg] at h'; cases h'
    | some k =>
      rw [hg] at h'
      simp only at h'
      cases hk : k.asCells with
      | none => rw [hk] at h'; cases h'
      | some c =>
        rw [hk] at h'
        simp only at h'
        cases hs : lteB e.2 c with
        | false => rw [hs] at h'; cases h'
        | true =>
          rw [hs, cond_true] at h'
          have e1 := ABlk.asCells_some hk
          rcases List.mem_cons.1 hm with rfl | hm
          · exact ⟨c, by rw [hg, e1], lteB_ok hs⟩
          · exact chkH_at L h' b cs hm

def isNilL {α : Type} (l : List α) : Bool := match l with | [] => true | _ => false
/-- What a state tells. -/
def toldS (n : Nat) (ps : List (Nat × AV)) (L : List (Nat × List AV)) (N : Nat) (s : ES) : Bool × List AV :=
  (cond (Nat.beq s.n n) (cond (isNilL s.ds) (cond (Nat.ble s.nx N) (chkH s.H L) false) false) false, ps.map fun p => s.T.get p.1)
def want (ps : List (Nat × AV)) : Bool × List AV := (true, ps.map fun p => p.2)
theorem toldS_ok {n : Nat} {ps : List (Nat × AV)} {L : List (Nat × List AV)} {N : Nat} {s : ES} (hn : n ≤ 256) (h : toldS n ps L N s = want ps) : Wk s (canon n ps L N) := by
  unfold toldS want at h
  rw [Prod.mk.injEq] at h
  obtain ⟨h1, h2⟩ := h
  cases hc : Nat.beq s.n n with
  | false => rw [hc] at h1; cases h1
  | true =>
  rw [hc, cond_true] at h1
  cases hd : isNilL s.ds with
  | false => rw [hd] at h1; cases h1
  | true =>
  rw [hd, cond_true] at h1
  cases hx : Nat.ble s.nx N with
  | false => rw [hx] at h1; cases h1
  | true =>
  rw [hx, cond_true] at h1
  have e1 := Nat.eq_of_beq_eq_true hc
  have e2 : s.ds = [] := by
    cases hds : s.ds with
    | nil => rfl
    | cons a l => rw [hds] at hd; cases hd
  refine ⟨e1.symm, e2.symm, fun t ht => ?_, fun b k' hb => ?_, Nat.le_of_ble_eq_true hx⟩
  · have ht' : t < n := by omega
    have e3 : (canon n ps L N).T.get t = lk ps t := by
      show (mkT (fill n ps)).get t = _
      rw [mkT_get _ _ (by omega)]
      simp [fill, List.getD_eq_getElem?_getD, List.getElem?_range ht']
    rw [e3]
    rcases lk_of ps t with h3 | ⟨p, hp, h3, h4⟩
    · exact Or.inl h3
    · refine Or.inr ?_
      rw [h4, ← h3]
      exact (List.map_inj_left.1 h2 p hp).symm
  · obtain ⟨cs, h3, rfl⟩ := putsL_get L b k' hb
    obtain ⟨c, h4, h5⟩ := chkH_at L h1 b cs h3
    exact ⟨.cells c, h4, h5⟩
/-- What a piece of code comes to that falls off its end. -/
def told (n : Nat) (ps : List (Nat × AV)) (L : List (Nat × List AV)) (N : Nat) (r : ER) : Bool × List AV := match r with
  | .normal s => toldS n ps L N s
  | _ => (false, [])
/-- The same of one that is left by an exit. -/
def toldX (i : Nat) (n : Nat) (ps : List (Nat × AV)) (L : List (Nat × List AV)) (N : Nat) (r : ER) : Bool × List AV := match r with
  | .exit j s => cond (Nat.beq j i) (toldS n ps L N s) (false, [])
  | _ => (false, [])
theorem want_ne {ps : List (Nat × AV)} : (false, ([] : List AV)) ≠ want ps := by intro h; cases congrArg Prod.fst h
theorem told_ok {n : Nat} {ps : List (Nat × AV)} {L : List (Nat × List AV)} {N : Nat} {r : ER} (hn : n ≤ 256) (h : told n ps L N r = want ps) : ∃ s, r = .normal s ∧ Wk s (canon n ps L N) := by
  unfold told at h
  split at h
  · exact ⟨_, rfl, toldS_ok hn h⟩
  · exact absurd h want_ne
theorem toldX_ok {i : Nat} {n : Nat} {ps : List (Nat × AV)} {L : List (Nat × List AV)} {N : Nat} {r : ER} (hn : n ≤ 256) (h : toldX i n ps L N r = want ps) : ∃ s, r = .exit i s ∧ Wk s (canon n ps L N) := by
  unfold toldX at h
  split at h
  · rename_i j s
    cases hj : Nat.beq j i with
    | false => rw [hj] at h; exact absurd h want_ne
    | true =>
      rw [hj, cond_true] at h
      have := Nat.eq_of_beq_eq_true hj
      subst this
      exact ⟨_, rfl, toldS_ok hn h⟩
  · exact absurd h want_ne
/-- All ways tell true. -/
def trueC (r : CR) : Bool := match r with
  | .ok v _ _ => v.same (.bool true)
  | .many l => l.all fun o => o.v.same (.bool true)
  | .stuck => false
end

section
variable {P : Program} {M : Memo} {K : Knot} {f : FuncId} {c : Code} {s s' : ES} {Q : AExit → FS TH → Prop}

/-- A piece of code that falls off its end, told in part: what comes behind it goes on from there. -/
theorem exec_told (hK : KOK P K) {n : Nat} {ps : List (Nat × AV)} {L : List (Nat × List AV)} {N : Nat} (hs : s.n ≤ 256) (hn : n ≤ 256) (h : told n ps L N (K f false false c s) = want ps)
    {d : Code} (hd : Exec P f false d (FSof false (canon n ps L N)) Q) : Exec P f false (.seq c d) (FSof false s) Q := by
  obtain ⟨s1, h1, h2⟩ := told_ok hn h
  refine exec_seq (hK.exec hs (by simp) (fun e t ht => ?_) (by rw [h1]; simp))
  rw [h1] at ht
  obtain ⟨rfl, rfl, _⟩ := ht
  exact exec_wk h2 hd

/-- From a body's end to its call's. -/
theorem trueC_in {r : CR} {e : AEnd} {st : St TH} (h : trueC r = true) (hi : InC r e st) : e = .ret (.bool true) := by
  unfold trueC at h
  split at h
  · obtain ⟨rfl, _⟩ := hi
    rw [AV.same_eq _ _ h]
  · obtain ⟨o, ho, h1, _⟩ := hi
    rw [h1, AV.same_eq _ _ ((List.all_eq_true.1 h) o ho)]
  · cases h

theorem exec_ends (hK : KOK P K) {g : FuncId} {fn : Func} (hs : s.n ≤ 256) (h : trueC (endOf P fn (dBody P K) (K g false false c s)) = true) :
    Exec P g false c (FSof false s) (bodyEnd P fn fun e _ _ => e = .ret (.bool true)) := by
  have hne : endOf P fn (dBody P K) (K g false false c s) ≠ .stuck := by intro e; rw [e] at h; cases h
  refine hK.exec hs (by simp) ?_ (by intro e; rw [e] at hne; exact hne rfl)
  intro e t ht
  have hc := dBody_sound hK
  have fin : ∀ {e : AEnd} {st : St TH}, InC (endOf P fn (dBody P K) (K g false false c s)) e st → e = .ret (.bool true) := fun hi => trueC_in h hi
  cases hk : K g false false c s with
  | stuck => rw [hk] at ht; exact ht.elim
  | exit i s1 => rw [hk] at hne; exact absurd rfl hne
  | goto l s1 => rw [hk] at hne; exact absurd rfl hne
  | normal s1 =>
    rw [hk] at ht hne fin
    obtain ⟨rfl, rfl, _⟩ := ht
    exact (unw_sound hc _ _ _ hne).mono fun e st he => fin he
  | ret s1 =>
    rw [hk] at ht hne fin
    obtain ⟨rfl, rfl, _⟩ := ht
    exact (unw_sound hc _ _ _ hne).mono fun e st he => fin he
  | many l =>
    rw [hk] at ht hne fin
    obtain ⟨o, ho, hs⟩ := ht
    obtain ⟨h1, h2⟩ := flatC_sound hne o ho
    cases o with
    | exit i s1 => exact absurd rfl h1
    | goto l s1 => exact absurd rfl h1
    | normal s1 => obtain ⟨rfl, rfl, _⟩ := hs; exact (unw_sound hc _ _ _ h1).mono fun e st he => fin (h2 _ _ he)
    | ret s1 => obtain ⟨rfl, rfl, _⟩ := hs; exact (unw_sound hc _ _ _ h1).mono fun e st he => fin (h2 _ _ he)

theorem acall_ends {g : FuncId} {fn : Func} (hfn : Has P g fn c) {args : List AV} (hl : args.length ≤ fn.ntmps) (hl2 : fn.ntmps ≤ 256)
    (h : Exec P g false c (FSof false ⟨fn.ntmps, mkT args, [], .leaf, 0⟩) (bodyEnd P fn fun e _ _ => e = .ret (.bool true))) : ACall P g args (⟨TH.leaf, 0⟩ : St TH) fun e _ => e = .ret (.bool true) := by
  refine acall_of_exec hfn ?_
  have hs : (⟨atmps fn args, [], none, (⟨TH.leaf, 0⟩ : St TH)⟩ : FS TH) = FSof false ⟨fn.ntmps, mkT args, [], .leaf, 0⟩ := by
    simp only [FSof, toL_mkT hl2 hl, atmps]
    simp
  rw [hs]
  exact h
end
end Go.Am

/- The beginning of a body, told in part. -/
namespace Go.Am
open Go.RowKit

noncomputable def runL (K : Knot) (f : FuncId) (l : List Code) : ES → ER := List.rec (motive := fun _ => ES → ER) (fun s => .normal s) (fun c _ ih s => match K f false false c s with
  | .normal s1 => ih s1
  | _ => .stuck) l
def seqs (d : Code) : List Code → Code
  | [] => d
  | c :: l => .seq c (seqs d l)

section
variable {P : Program} {K : Knot} {f : FuncId} {Q : AExit → FS TH → Prop}

/-- What comes behind a beginning goes on from what of it is told. -/
theorem exec_pre (hK : KOK P K) {n : Nat} {ps : List (Nat × AV)} {L : List (Nat × List AV)} {N : Nat} (hn : n ≤ 256) {d : Code} (hd : Exec P f false d (FSof false (canon n ps L N)) Q) :
    ∀ (l : List Code) {s : ES}, s.n ≤ 256 → told n ps L N (runL K f l s) = want ps → Exec P f false (seqs d l) (FSof false s) Q
  | [], s, hs, h => by
    obtain ⟨s1, h1, h2⟩ := told_ok hn h
    have h1 : ER.normal s = .normal s1 := h1
    cases h1
    exact exec_wk h2 hd
  | c :: l, s, hs, h => by
    have e0 : runL K f (c :: l) s = (match K f false false c s with | .normal s1 => runL K f l s1 | _ => .stuck) := rfl
    rw [e0] at h
    cases hk : K f false false c s with
    | normal s1 =>
      rw [hk] at h
      simp only at h
      refine exec_seq (hK.exec hs (by simp) (fun e t ht => ?_) (by rw [hk]; simp))
      rw [hk] at ht
      obtain ⟨rfl, rfl, hn1⟩ := ht
      exact exec_pre hK hn hd l hn1 h
    | stuck => rw [hk] at h; exact absurd h want_ne
    | exit i s1 => rw [hk] at h; exact absurd h want_ne
    | goto i s1 => rw [hk] at h; exact absurd h want_ne
    | ret s1 => rw [hk] at h; exact absurd h want_ne
    | many l => rw [hk] at h; exact absurd h want_ne
end

theorem at_range {α : Type} {f g : Nat → α} {n : Nat} (h : (List.range n).map f = (List.range n).map g) {i : Nat} (hi : i < n) : f i = g i :=
  List.map_inj_left.1 h i (List.mem_range.2 hi)
end Go.Am
