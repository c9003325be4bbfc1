/- Proved here: RaceNil returns true whatever it is given, and what it is given reads as it did. No conditions. -/
import Derived.Test.YtodicoepcffjoaaGreatRaJ
import Derived.Test.YtodicoepcffjoaaGreatRaK
import Derived.Test.YtodicoepcffjoaaGreatRaL
import Derived.WalkKit
import Derived.ProofKit
import Derived.OpenShut
import Derived.ChangeOld
import Derived.Below
set_option linter.unusedVariables false
set_option linter.unusedSimpArgs false
set_option maxRecDepth 100000
set_option maxHeartbeats 0
namespace Go.Proofs.YtodicoepcffjoaaGreat.Ra
open Go Go.Am Go.Proofs
open Go.ChangeShapes Go.WideShapes Go.ChangeAt Go.RowKit




section cells
variable {W : World} {base : Nat} {t : TypeId} {v : Value}
theorem cell_int {k : IntKind} (ht : Tryz.prog.underlying t = some (.int k)) (h : Cell.okWide Tryz.prog W .any base t v) : ∃ n, v = .int k n := by
  simp only [Cell.okWide, ht] at h
  cases v <;> simp_all [Cell.ok]
theorem cell_bool (ht : Tryz.prog.underlying t = some .bool) (h : Cell.okWide Tryz.prog W .any base t v) : ∃ b, v = .bool b := by
  simp only [Cell.okWide, ht] at h
  cases v <;> simp_all [Cell.ok]
theorem cell_slice {e : TypeId} (ht : Tryz.prog.underlying t = some (.slice e)) (h : Cell.okWide Tryz.prog W .any base t v) : ∃ o, (xs o).rel (fun _ => none) (fun c => W.heap[c]?) v := by
  simp only [Cell.okWide, ht] at h
  cases v <;> simp only [Cell.ok, ht] at h
  rename_i a len cap
  cases a with
  | none =>
    refine ⟨none, ?_⟩
    cases len <;> cases cap <;> simp_all [xs, AV.rel]
  | some a =>
    obtain ⟨h1, _, _, hs, row, n, hsh, _⟩ := h
    refine ⟨some len, ?_⟩
    obtain ⟨b, o, s⟩ := a
    simp only at hs hsh
    subst hs
    unfold World.shape? at hsh
    split at hsh <;> try (cases hsh; done)
    rename_i c el fr hc
    simp only [xs, AV.rel]
    exact ⟨b, o, cap, c, el, fr, hc, rfl, h1, by simp, by simp [AV.rels]⟩
end cells

theorem walk {W : World} {base : Nat} {v0 v1 : Value} (h0 : Value.okWide Tryz.prog W .any base 26 v0) (h1 : Value.okWide Tryz.prog W .any base 3 v1) :
    Calls Tryz.prog 3 #[v0, v1] W fun e W' => e = .returned (.bool true) ∧ Below W.heap.size W W' := by
  obtain ⟨n, rfl⟩ := okWide_int Tryz.underlying3 h1
  simp only [Value.okWide, Tryz.underlying26] at h0
  obtain ⟨cs, rfl, hsz, ts, hts, _, hcs⟩ := h0
  have hts' : Tryz.prog.cellTypes Tryz.prog.depth 26 = some [3, 3, 4, 22, 23, 4, 2, 2, 24] := by kernel_rfl
  rw [hts'] at hts
  cases hts
  have hn : Tryz.prog.cellsOf 26 = 9 := by kernel_rfl
  rw [hn] at hsz
  have at_ : ∀ i (h : i < 9), cs[i]? = some (cs[i]'(by omega)) := fun i h => by simp [hsz, h]
  have c0 := hcs 0 _ (at_ 0 (by omega))
  have c1 := hcs 1 _ (at_ 1 (by omega))
  have c2 := hcs 2 _ (at_ 2 (by omega))
  have c3 := hcs 3 _ (at_ 3 (by omega))
  have c4 := hcs 4 _ (at_ 4 (by omega))
  have c5 := hcs 5 _ (at_ 5 (by omega))
  have c6 := hcs 6 _ (at_ 6 (by omega))
  have c7 := hcs 7 _ (at_ 7 (by omega))
  have c8 := hcs 8 _ (at_ 8 (by omega))
  simp only [List.length_cons, List.length_nil, Nat.reduceAdd, Nat.reduceMod, List.getElem?_cons_zero, List.getElem?_cons_succ, Option.some.injEq, exists_eq_left'] at c0 c1 c2 c3 c4 c5 c6 c7 c8
  obtain ⟨a, e0⟩ := cell_int Tryz.underlying3 c0
  obtain ⟨b, e1⟩ := cell_int Tryz.underlying3 c1
  obtain ⟨w, e2⟩ := cell_bool Tryz.underlying4 c2
  obtain ⟨c, e3⟩ := cell_int Tryz.underlying22 c3
  obtain ⟨o4, e4⟩ := cell_slice Tryz.underlying23 c4
  obtain ⟨d, e5⟩ := cell_bool Tryz.underlying4 c5
  obtain ⟨e, e6⟩ := cell_int Tryz.underlying2 c6
  obtain ⟨g, e7⟩ := cell_int Tryz.underlying2 c7
  obtain ⟨o8, e8⟩ := cell_slice Tryz.underlying24 c8
  have hl : cs.toList = [cs[0], cs[1], cs[2], cs[3], cs[4], cs[5], cs[6], cs[7], cs[8]] := by
    apply List.ext_getElem (by simp [hsz])
    intro i h1 h2
    simp only [Array.length_toList] at h1
    have : i = 0 ∨ i = 1 ∨ i = 2 ∨ i = 3 ∨ i = 4 ∨ i = 5 ∨ i = 6 ∨ i = 7 ∨ i = 8 := by omega
    rcases this with rfl | rfl | rfl | rfl | rfl | rfl | rfl | rfl | rfl <;> rfl
  have ht := called a b w c d e g n o4 o8
  unfold isTrue at ht
  split at ht <;> try (cases ht; done)
  rename_i v H nx hcall
  cases hb : v.asBool with
  | none => rw [hb] at ht; cases ht
  | some t =>
    rw [hb] at ht
    simp only at ht
    subst ht
    have := AV.asBool_some hb
    subst this
    have hM : MemoOK Tryz.prog MK := memoOf_ok (by simp only [List.mem_cons, List.not_mem_nil, or_false, forall_eq]; exact okK)
    have hc := (callN_sound mixed hM hcall).2
    refine law_of (hc.mono fun e st he => he.1) ?_
    refine AV.rels_cons ?_ (AV.rels_cons (by simp [AV.rel]) AV.rels_nil)
    simp only [AV.rel]
    refine ⟨cs, rfl, ?_⟩
    rw [hl, e0, e1, e2, e3, e5, e6, e7]
    unfold cells
    exact AV.rels_cons (by simp [AV.rel]) (AV.rels_cons (by simp [AV.rel]) (AV.rels_cons (by simp [AV.rel]) (AV.rels_cons (by simp [AV.rel]) (AV.rels_cons e4 (AV.rels_cons (by simp [AV.rel]) (AV.rels_cons (by simp [AV.rel]) (AV.rels_cons (by simp [AV.rel]) (AV.rels_cons e8 AV.rels_nil))))))))

set_option maxRecDepth 100000 in
theorem lifted (os : Os) (started : os.Started) (H : Type) (enc : TypeId × Value → H) :
    ReturnsInHanded {} Tryz.checked os 3 .any (Rows.raceNilSpec.pre6 enc Tryz.prog Tryz.f3 Rows.raceNilRow.domain false) (Rows.raceNilSpec.post enc Tryz.prog Tryz.f3 false true false false) := by
  refine returnsInHanded_of_change (C := Tryz.checked) Facts.own started (by kernel_rfl) Tryz.func3
    (ChangeSpec.witness6 (enc := enc) (C := Tryz.checked) false ⟨#[], #[.agg #[.int .i64 0, .int .i64 0, .bool false, .int .i64 0, .slice none 0 0, .bool false, .int .i64 0, .int .i64 0, .slice none 0 0], .int .i64 0], []⟩ 8 (by kernel_rfl) (by kernel_rfl) (by kernel_rfl) (by kernel_rfl)) ?_
  intro W base args ds gs before hval0 hW hcnd _
  have hval : ∀ (j : Nat) t v, Tryz.f3.params[j]? = some t → args[j]? = some v → Value.okWide Tryz.prog W .any base t v := hval0
  have hW' := hW
  obtain ⟨p, q, hA0, hV, rfl, hfz, hnd⟩ := hW
  have hA : DataW.TrodAll enc Tryz.prog W 0 (fun _ => true) true Tryz.f3.params.toList args.toList ds p := hA0
  rw [Tryz.params3] at hA hval
  obtain ⟨v0, v1, d0, d1, p0, p1, rfl, rfl, rfl, h0, h1⟩ := trodAll_two hA
  obtain ⟨rfl, rfl⟩ := trodVars_none hV
  have lt0 : ∀ x ∈ p0, x.block < W.heap.size := by obtain ⟨m, hm⟩ := h0; exact DataW.trod_lt m _ _ _ hm
  have lt1 : ∀ x ∈ p1, x.block < W.heap.size := by obtain ⟨m, hm⟩ := h1; exact DataW.trod_lt m _ _ _ hm
  refine (walk (hval 0 26 v0 rfl rfl) (hval 1 3 v1 rfl rfl)).mono fun e W' ⟨he, bel⟩ => ?_
  subst he
  clear hA0 hval0
  exact ⟨_, rfl, _, _, _, [], _, [], hW', trodAll_mk1 (shut_bool Tryz.underlying4 _),
    (trodAll_cons_mk (Below.trod Facts.laidOut (by kernel_rfl) (of_decide_eq_true (by kernel_rfl)) h0 bel lt0) (trodAll_cons_mk (Below.trod Facts.laidOut (by kernel_rfl) (of_decide_eq_true (by kernel_rfl)) h1 bel lt1) trodAll_mk0)), rfl, bel.frame _, fun h => by cases h⟩

theorem over : Rows.raceNilRow.holds Tryz.pinned (OpenSpec.ofChange Rows.raceNilSpec) :=
  OpenClaim.holds_of_wide 3 Tryz.f3 rfl rfl rfl rfl rfl rfl rfl ⟨rfl, rfl, rfl, rfl, rfl⟩ rfl rfl rfl rfl rfl (by kernel_rfl) Tryz.func3 joined
    (of_decide_eq_true (by kernel_rfl)) (by unfold Func.isWrapper; first | (rw [if_pos (by decide +kernel)]; kernel_rfl) | (rw [if_neg (by decide +kernel)]; exact ⟨rfl, rfl⟩))
    (fun os started H enc _ => lifted os started H enc)
end Go.Proofs.YtodicoepcffjoaaGreat.Ra
namespace Go.Proofs.YtodicoepcffjoaaGreat
theorem raceNil_holds : Rows.RaceNilSaid := Ra.over
end Go.Proofs.YtodicoepcffjoaaGreat
