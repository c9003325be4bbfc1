/- Proved here: whatever a call of DebugNil is given, the abstract machine comes to true. No conditions. -/
import Derived.Test.YtodicoepcffjoaaGreatDeE
set_option linter.unusedVariables false
set_option maxHeartbeats 0
set_option maxRecDepth 100000
namespace Go.Proofs.YtodicoepcffjoaaGreat.De
open Go Go.Am Go.Proofs
noncomputable abbrev MK : Memo := memoOf 100 [entK]
noncomputable abbrev KN (n : Nat) : Knot := knot Tryz.prog MK n
noncomputable def isTrue (r : CR) : Bool := match r with | .ok v _ _ => (match v.asBool with | some b => b | none => false) | .stuck => false

noncomputable def c0 : Code := match Tryz.f4.body with | some (.seq a _) => a | _ => .skip
noncomputable def c1 : Code := match Tryz.f4.body with | some (.seq _ (.seq a _)) => a | _ => .skip
noncomputable def c2 : Code := match Tryz.f4.body with | some (.seq _ (.seq _ (.seq a _))) => a | _ => .skip
noncomputable def c3 : Code := match Tryz.f4.body with | some (.seq _ (.seq _ (.seq _ (.seq a _)))) => a | _ => .skip
noncomputable def c4 : Code := match Tryz.f4.body with | some (.seq _ (.seq _ (.seq _ (.seq _ (.seq a _))))) => a | _ => .skip
noncomputable def c5 : Code := match Tryz.f4.body with | some (.seq _ (.seq _ (.seq _ (.seq _ (.seq _ a))))) => a | _ => .skip
noncomputable def ops : Array Oper := match c4 with | .region _ o _ => o | _ => #[]
noncomputable def id4 : Nat := match c4 with | .region i _ _ => i | _ => 0
theorem body4 : Tryz.f4.body = some (.seq c0 (.seq c1 (.seq c2 (.seq c3 (.seq (.region id4 ops true) c5))))) := by kernel_rfl
theorem seq1 (x y : Code) (s : ES) : KN 1000000 4 false false (.seq x y) s = cSeq (KN 999999) 4 false false y (KN 999999 4 false false x s) := by kernel_rfl
theorem seq2 (x y : Code) (s : ES) : KN 999999 4 false false (.seq x y) s = cSeq (KN 999998) 4 false false y (KN 999998 4 false false x s) := by kernel_rfl
theorem seq3 (x y : Code) (s : ES) : KN 999998 4 false false (.seq x y) s = cSeq (KN 999997) 4 false false y (KN 999997 4 false false x s) := by kernel_rfl
theorem seq4 (x y : Code) (s : ES) : KN 999997 4 false false (.seq x y) s = cSeq (KN 999996) 4 false false y (KN 999996 4 false false x s) := by kernel_rfl
theorem seq5 (x y : Code) (s : ES) : KN 999996 4 false false (.seq x y) s = cSeq (KN 999995) 4 false false y (KN 999995 4 false false x s) := by kernel_rfl
theorem reg (s : ES) : KN 999995 4 false false (.region id4 ops true) s = drawGo Tryz.prog MK (KN 999994) ops s := by kernel_rfl
theorem seqN (K : Knot) (b : Code) (s : ES) : cSeq K 4 false false b (.normal s) = K 4 false false b s := rfl

noncomputable def stN (r : ER) (s0 : ES) : ES := match r with | .normal s => s | _ => s0
noncomputable def optX (o : Option XS) (x0 : XS) : XS := match o with | some x => x | none => x0
noncomputable def pl : Plan := planOf ops
noncomputable def o4 : Oper := match ops[4]? with | some o => o | none => opOf (.move (.tmp 0))

theorem quiet_two {P : Program} {ev : Operand → AV} {o : Oper} {m : Nat} {v : AV} {H0 H : TH} {a : Nat} {bs : List (Nat × TH)} (hbs : bs = [(a, H)]) (h1 : aqF o.op P ev (Hp.get H) = some v) (h2 : aqF o.op P ev (Hp.get H0) = some v) (hs : v.same v = true) :
    quietVal P ev o m H0 bs = some v := by
  subst hbs
  have hr : readsSame P ev o m v H0 [] = true := by
    show (match aqF o.op P ev (Hp.get H0) with | some v' => v.same v' | none => false) = true
    rw [h2]; exact hs
  unfold quietVal
  simp only [h1, hr]
  cases noMem o <;> cases tb m a <;> rfl
theorem step_quiet_of {P : Program} {M : Memo} {K : Knot} {ops : Array Oper} {p : Plan} {i : Nat} {o : Oper} {x : XS} {v : AV} (ho : ops[i]? = some o) (hw : wantT ops x.n x.T o = some true) (hk : kindOf ops p.W p.lits i o = .quiet)
    (hq : quietVal P (evT x.n x.T) o (natD (p.ms.get i)) x.H0 x.bs = some v) : stepX P M K ops p i x = some ⟨x.n, putT x.T o.dst v, x.H, x.nx, x.q + 1, x.bs, x.H0, x.lit, .quiet, v⟩ := by
  obtain ⟨n, T, H, nx, q, bs, H0, l, w, u⟩ := x
  unfold stepX
  rw [ho]
  show stepX2 P M K ops p i o n T H nx q bs H0 l = _
  unfold stepX2
  rw [hw, hk]
  simp only at hq ⊢
  rw [hq]
  show nextX n T H0 q o v H nx bs l .quiet = _
  rw [nextX_eq]

theorem single {P : Program} {M : Memo} {K : Knot} {ops : Array Oper} {p : Plan} {i : Nat} {x y : XS} (h : stepX P M K ops p i x = some y) : goX P M K ops p [i] x = some y := by
  show (match stepX P M K ops p i x with | some x' => some x' | none => none) = _
  rw [h]
noncomputable def outR (P : Program) (M : Memo) (n : Nat) (fn : Func) (r : ER) : CR := match r with
  | .normal s => unw P fn s.n s.T (dBody P (knot P M n)) s.ds s.H s.nx
  | .ret s => unw P fn s.n s.T (dBody P (knot P M n)) s.ds s.H s.nx
  | _ => .stuck
theorem fin_of {P : Program} {M : Memo} {n : Nat} {g : FuncId} {args : List AV} {fn : Func} {cd : Code} (hf : P.funcs[g]? = some fn) (hb : fn.body = some cd) (h1 : (fn.name == "runtime.NumGoroutine") = false) (h2 : Nat.ble args.length fn.ntmps = true) (h3 : Nat.ble fn.ntmps 256 = true) :
    callN P M n g args .leaf 0 = outR P M n fn (knot P M n g false false cd ⟨fn.ntmps, mkT args, [], .leaf, 0⟩) := by
  unfold callN cBody bareBody
  rw [hf]
  simp only [hb]
  rw [h1, cond_false, h2, cond_true, h3, cond_true]
  simp only [bodyOf, TT.strict_eq, fnat_eq]
  unfold outR
  cases knot P M n g false false cd ⟨fn.ntmps, mkT args, [], .leaf, 0⟩ <;> rfl

section
variable (a b c d : Int)
noncomputable def s0 : ES := ⟨106, mkT [.agg [.int .i64 a, .int .i64 b], .agg [.int .i64 c, .int .i64 d]], [], .leaf, 0⟩
noncomputable def s1 : ES := stN (KN 999999 4 false false c0 (s0 a b c d)) (s0 a b c d)
noncomputable def s2 : ES := stN (KN 999998 4 false false c1 (s1 a b c d)) (s0 a b c d)
noncomputable def s3 : ES := stN (KN 999997 4 false false c2 (s2 a b c d)) (s0 a b c d)
noncomputable def s4 : ES := stN (KN 999996 4 false false c3 (s3 a b c d)) (s0 a b c d)
theorem go0 : KN 999999 4 false false c0 (s0 a b c d) = .normal (s1 a b c d) := by kernel_rfl
theorem go1 : KN 999998 4 false false c1 (s1 a b c d) = .normal (s2 a b c d) := by kernel_rfl
theorem go2 : KN 999997 4 false false c2 (s2 a b c d) = .normal (s3 a b c d) := by kernel_rfl
theorem go3 : KN 999996 4 false false c3 (s3 a b c d) = .normal (s4 a b c d) := by kernel_rfl
noncomputable def x0 : XS := XS.of (s4 a b c d)
noncomputable def x3 : XS := optX (goX Tryz.prog MK (KN 999994) ops pl [0, 1, 2, 3] (x0 a b c d)) (x0 a b c d)
theorem gx3 : goX Tryz.prog MK (KN 999994) ops pl [0, 1, 2, 3] (x0 a b c d) = some (x3 a b c d) := by kernel_rfl
def v4 : AV := .agg [.int .i64 c, .int .i64 d]
theorem v4_same : (v4 c d).same (v4 c d) = true := by simp [v4, AV.same, AV.sames]
theorem gx4 : stepX Tryz.prog MK (KN 999994) ops pl 4 (x3 a b c d) = some ⟨(x3 a b c d).n, putT (x3 a b c d).T o4.dst (v4 c d), (x3 a b c d).H, (x3 a b c d).nx, (x3 a b c d).q + 1, (x3 a b c d).bs, (x3 a b c d).H0, (x3 a b c d).lit, .quiet, v4 c d⟩ := by
  refine step_quiet_of (by kernel_rfl) (by kernel_rfl) (by kernel_rfl) ?_
  exact quiet_two (a := 2) (H := (x3 a b c d).H) (by kernel_rfl) (by kernel_rfl) (by kernel_rfl) (v4_same c d)
noncomputable def x4 : XS := ⟨(x3 a b c d).n, putT (x3 a b c d).T o4.dst (v4 c d), (x3 a b c d).H, (x3 a b c d).nx, (x3 a b c d).q + 1, (x3 a b c d).bs, (x3 a b c d).H0, (x3 a b c d).lit, .quiet, v4 c d⟩
noncomputable def x7 : XS := optX (goX Tryz.prog MK (KN 999994) ops pl [5, 6, 7] (x4 a b c d)) (x4 a b c d)
theorem gx7 : goX Tryz.prog MK (KN 999994) ops pl [5, 6, 7] (x4 a b c d) = some (x7 a b c d) := by kernel_rfl
theorem plan : pl.π = [0, 1, 2, 3] ++ ([4] ++ [5, 6, 7]) := by kernel_rfl
theorem base : okBase ops pl = true := by kernel_rfl
theorem okf : okFor ops pl.ms pl.W pl.lits pl.π = true := by kernel_rfl
theorem gx : goX Tryz.prog MK (KN 999994) ops pl pl.π (x0 a b c d) = some (x7 a b c d) := by
  rw [plan, goX_append, gx3, Option.bind_some, goX_append]
  have h : goX Tryz.prog MK (KN 999994) ops pl [4] (x3 a b c d) = some (x4 a b c d) := by
    exact single (gx4 a b c d)
  rw [h, Option.bind_some, gx7]
noncomputable def s5 : ES := stN (XS.out (s4 a b c d) (x7 a b c d)) (s0 a b c d)
theorem out5 : XS.out (s4 a b c d) (x7 a b c d) = .normal (s5 a b c d) := by kernel_rfl
theorem go4 : drawGo Tryz.prog MK (KN 999994) ops (s4 a b c d) = .normal (s5 a b c d) := by
  have hb := base
  have hf := okf
  have hg := gx a b c d
  unfold pl at hb hf hg
  unfold x0 at hg
  unfold drawGo
  rw [hb, cond_true, hf, cond_true, hg]
  exact out5 a b c d
noncomputable def fin (r : ER) : Bool := isTrue (outR Tryz.prog MK 1000000 Tryz.f4 r)
theorem go5 : fin (KN 999995 4 false false c5 (s5 a b c d)) = true := by kernel_rfl
theorem all : fin (KN 1000000 4 false false (.seq c0 (.seq c1 (.seq c2 (.seq c3 (.seq (.region id4 ops true) c5))))) (s0 a b c d)) = true := by
  have e1 := seq1 c0 (.seq c1 (.seq c2 (.seq c3 (.seq (.region id4 ops true) c5)))) (s0 a b c d)
  rw [go0, seqN] at e1
  have e2 := seq2 c1 (.seq c2 (.seq c3 (.seq (.region id4 ops true) c5))) (s1 a b c d)
  rw [go1, seqN] at e2
  have e3 := seq3 c2 (.seq c3 (.seq (.region id4 ops true) c5)) (s2 a b c d)
  rw [go2, seqN] at e3
  have e4 := seq4 c3 (.seq (.region id4 ops true) c5) (s3 a b c d)
  rw [go3, seqN] at e4
  have e5 := seq5 (.region id4 ops true) c5 (s4 a b c d)
  rw [reg, go4, seqN] at e5
  exact (congrArg fin (e1.trans (e2.trans (e3.trans (e4.trans e5))))).trans (go5 a b c d)
theorem called : isTrue (callN Tryz.prog MK 1000000 4 [.agg [.int .i64 a, .int .i64 b], .agg [.int .i64 c, .int .i64 d]] .leaf 0) = true := by
  have h := all a b c d
  have h4 : Tryz.f4.ntmps = 106 := by kernel_rfl
  have e := fin_of (P := Tryz.prog) (M := MK) (n := 1000000) (args := [.agg [.int .i64 a, .int .i64 b], .agg [.int .i64 c, .int .i64 d]]) Tryz.func4 body4 (by kernel_rfl) (by kernel_rfl) (by kernel_rfl)
  rw [h4] at e
  rw [e]
  unfold fin s0 at h
  exact h
end
end Go.Proofs.YtodicoepcffjoaaGreat.De
