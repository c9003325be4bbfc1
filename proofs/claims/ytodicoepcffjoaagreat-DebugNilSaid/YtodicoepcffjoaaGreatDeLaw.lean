/- Proved here: DebugNil returns true whatever it is given, and what it is given reads as it did. No conditions. -/
import Derived.Test.YtodicoepcffjoaaGreatDeJ
import Derived.Test.YtodicoepcffjoaaGreatDeK
import Derived.Test.YtodicoepcffjoaaGreatDeL
import Derived.WalkKit
import Derived.ProofKit
import Derived.OpenShut
import Derived.ChangeOld
import Derived.Below
set_option linter.unusedVariables false
set_option linter.unusedSimpArgs false
set_option maxRecDepth 100000
set_option maxHeartbeats 0
namespace Go.Proofs.YtodicoepcffjoaaGreat.De
open Go Go.Am Go.Proofs
open Go.ChangeShapes Go.WideShapes Go.ChangeAt Go.RowKit




section cells
variable {W : World} {base : Nat} {t : TypeId} {v : Value}
theorem cell_int {k : IntKind} (ht : Tryz.prog.underlying t = some (.int k)) (h : Cell.okWide Tryz.prog W .any base t v) : ∃ n, v = .int k n := by
  simp only [Cell.okWide, ht] at h
  cases v <;> simp_all [Cell.ok]
end cells

theorem two {W : World} {base : Nat} {t u1 u2 : TypeId} {fs : Array Field} {v : Value} (ht : Tryz.prog.underlying t = some (.struct fs)) (hn : Tryz.prog.cellsOf t = 2) (hts' : Tryz.prog.cellTypes Tryz.prog.depth t = some [u1, u2])
    (h1 : Tryz.prog.underlying u1 = some (.int .i64)) (h2 : Tryz.prog.underlying u2 = some (.int .i64)) (h : Value.okWide Tryz.prog W .any base t v) :
    ∃ a b, (AV.agg [.int .i64 a, .int .i64 b]).rel (fun _ => none) (fun c => W.heap[c]?) v := by
  simp only [Value.okWide, ht] at h
  obtain ⟨cs, rfl, hsz, ts, hts, _, hcs⟩ := h
  rw [hts'] at hts
  cases hts
  rw [hn] at hsz
  have c0 := hcs 0 (cs[0]'(by omega)) (by simp [hsz])
  have c1 := hcs 1 (cs[1]'(by omega)) (by simp [hsz])
  simp only [List.length_cons, List.length_nil, Nat.reduceAdd, Nat.reduceMod, List.getElem?_cons_zero, List.getElem?_cons_succ, Option.some.injEq, exists_eq_left'] at c0 c1
  obtain ⟨a, e0⟩ := cell_int h1 c0
  obtain ⟨b, e1⟩ := cell_int h2 c1
  refine ⟨a, b, ?_⟩
  simp only [AV.rel]
  refine ⟨cs, rfl, ?_⟩
  have hl : cs.toList = [cs[0], cs[1]] := by
    apply List.ext_getElem (by simp [hsz])
    intro i h1 h2
    simp only [Array.length_toList] at h1
    have : i = 0 ∨ i = 1 := by omega
    rcases this with rfl | rfl <;> rfl
  rw [hl, e0, e1]
  exact AV.rels_cons (by simp [AV.rel]) (AV.rels_cons (by simp [AV.rel]) AV.rels_nil)

theorem walk {W : World} {base : Nat} {v0 v1 : Value} (h0 : Value.okWide Tryz.prog W .any base 64 v0) (h1 : Value.okWide Tryz.prog W .any base 66 v1) :
    Calls Tryz.prog 4 #[v0, v1] W fun e W' => e = .returned (.bool true) ∧ Below W.heap.size W W' := by
  obtain ⟨a, b, r0⟩ := two Tryz.underlying64 (by kernel_rfl) (by kernel_rfl) Tryz.underlying62 Tryz.underlying3 h0
  obtain ⟨c, d, r1⟩ := two Tryz.underlying66 (by kernel_rfl) (by kernel_rfl) Tryz.underlying3 Tryz.underlying3 h1
  have ht := called a b c d
  unfold isTrue at ht
  split at ht <;> try (cases ht; done)
  rename_i v H nx hcall
  cases hb : v.asBool with
  | none => rw [hb] at ht; cases ht
  | some t =>
    rw [hb] at ht
    simp only at ht
    subst ht
    have := AV.asBool_some hb
    subst this
    have hM : MemoOK Tryz.prog MK := memoOf_ok (by simp only [List.mem_cons, List.not_mem_nil, or_false, forall_eq]; exact okK)
    have hc := (callN_sound mixed hM hcall).2
    exact law_of (hc.mono fun e st he => he.1) (AV.rels_cons r0 (AV.rels_cons r1 AV.rels_nil))

set_option maxRecDepth 100000 in
theorem lifted (os : Os) (started : os.Started) (H : Type) (enc : TypeId × Value → H) :
    ReturnsInHanded {} Tryz.checked os 4 .any (Rows.debugNilSpec.pre6 enc Tryz.prog Tryz.f4 Rows.debugNilRow.domain false) (Rows.debugNilSpec.post enc Tryz.prog Tryz.f4 false true false false) := by
  refine returnsInHanded_of_change (C := Tryz.checked) Facts.own started (by kernel_rfl) Tryz.func4
    (ChangeSpec.witness6 (enc := enc) (C := Tryz.checked) false ⟨#[], #[.agg #[.int .i64 0, .int .i64 0], .agg #[.int .i64 0, .int .i64 0]], []⟩ 8 (by kernel_rfl) (by kernel_rfl) (by kernel_rfl) (by kernel_rfl)) ?_
  intro W base args ds gs before hval0 hW hcnd _
  have hval : ∀ (j : Nat) t v, Tryz.f4.params[j]? = some t → args[j]? = some v → Value.okWide Tryz.prog W .any base t v := hval0
  have hW' := hW
  obtain ⟨p, q, hA0, hV, rfl, hfz, hnd⟩ := hW
  have hA : DataW.TrodAll enc Tryz.prog W 0 (fun _ => true) true Tryz.f4.params.toList args.toList ds p := hA0
  rw [Tryz.params4] at hA hval
  obtain ⟨v0, v1, d0, d1, p0, p1, rfl, rfl, rfl, h0, h1⟩ := trodAll_two hA
  obtain ⟨rfl, rfl⟩ := trodVars_none hV
  have lt0 : ∀ x ∈ p0, x.block < W.heap.size := by obtain ⟨m, hm⟩ := h0; exact DataW.trod_lt m _ _ _ hm
  have lt1 : ∀ x ∈ p1, x.block < W.heap.size := by obtain ⟨m, hm⟩ := h1; exact DataW.trod_lt m _ _ _ hm
  refine (walk (hval 0 64 v0 rfl rfl) (hval 1 66 v1 rfl rfl)).mono fun e W' ⟨he, bel⟩ => ?_
  subst he
  clear hA0 hval0
  exact ⟨_, rfl, _, _, _, [], _, [], hW', trodAll_mk1 (shut_bool Tryz.underlying4 _),
    (trodAll_cons_mk (Below.trod Facts.laidOut (by kernel_rfl) (of_decide_eq_true (by kernel_rfl)) h0 bel lt0) (trodAll_cons_mk (Below.trod Facts.laidOut (by kernel_rfl) (of_decide_eq_true (by kernel_rfl)) h1 bel lt1) trodAll_mk0)), rfl, bel.frame _, fun h => by cases h⟩

theorem over : Rows.debugNilRow.holds Tryz.pinned (OpenSpec.ofChange Rows.debugNilSpec) :=
  OpenClaim.holds_of_wide 4 Tryz.f4 rfl rfl rfl rfl rfl rfl rfl ⟨rfl, rfl, rfl, rfl, rfl⟩ rfl rfl rfl rfl rfl (by kernel_rfl) Tryz.func4 joined
    (of_decide_eq_true (by kernel_rfl)) (by unfold Func.isWrapper; first | (rw [if_pos (by decide +kernel)]; kernel_rfl) | (rw [if_neg (by decide +kernel)]; exact ⟨rfl, rfl⟩))
    (fun os started H enc _ => lifted os started H enc)
end Go.Proofs.YtodicoepcffjoaaGreat.De
namespace Go.Proofs.YtodicoepcffjoaaGreat
theorem debugNil_holds : Rows.DebugNilSaid := De.over
end Go.Proofs.YtodicoepcffjoaaGreat
