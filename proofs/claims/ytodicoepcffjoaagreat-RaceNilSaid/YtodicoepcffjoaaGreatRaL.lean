/- Proved here: whatever a call of RaceNil is given, the abstract machine comes to true. No conditions. -/
import Derived.Test.YtodicoepcffjoaaGreatRaE
set_option linter.unusedVariables false
namespace Go.Proofs.YtodicoepcffjoaaGreat.Ra
open Go Go.Am Go.Proofs

noncomputable def cA : Code := match Tryz.f3.body with | some (.seq a _) => a | _ => .skip
noncomputable def cB : Code := match Tryz.f3.body with | some (.seq _ (.seq (.seq b _) _)) => b | _ => .skip
noncomputable def cC : Code := match Tryz.f3.body with | some (.seq _ (.seq (.seq _ c) _)) => c | _ => .skip
noncomputable def cD : Code := match Tryz.f3.body with | some (.seq _ (.seq _ d)) => d | _ => .skip
theorem body3 : Tryz.f3.body = some (.seq cA (.seq (.seq cB cC) cD)) := by kernel_rfl

def xs (o : Option Nat) : AV := match o with | none => .nilSlice | some l => .vec [] l false
def ln (o : Option Nat) : Nat := match o with | none => 0 | some l => l
def cells (a b : Int) (w : Bool) (c : Int) (o4 : Option Nat) (d : Bool) (e g : Int) (o8 : Option Nat) : List AV := [.int .i64 a, .int .i64 b, .bool w, .int .i64 c, xs o4, .bool d, .int .i64 e, .int .i64 g, xs o8]

noncomputable abbrev MK : Memo := memoOf 100 [entK]
noncomputable abbrev KN (n : Nat) : Knot := knot Tryz.prog MK n
noncomputable def isTrue (r : CR) : Bool := match r with | .ok v _ _ => (match v.asBool with | some b => b | none => false) | .stuck => false
noncomputable def out (s : ES) : CR := unw Tryz.prog Tryz.f3 s.n s.T (dBody Tryz.prog (KN 1000000)) s.ds s.H s.nx
noncomputable def fin (r : ER) : Bool := isTrue (match r with | .normal s => out s | .ret s => out s | _ => .stuck)
noncomputable def s0 (cs : List AV) (n : Int) : ES := ⟨94, mkT [.agg cs, .int .i64 n], [], .leaf, 0⟩
noncomputable def sA (cs : List AV) (n : Int) : ES := ⟨94, ((mkT [.agg cs, .int .i64 n]).put 2 (.ptr 0 0)).put 4 (.bool false), [], TH.leaf.put 0 (some (.cells cs)), 1⟩
noncomputable def s1 (cs : List AV) (n : Int) (o4 o8 : Option Nat) : ES :=
  ⟨94, ((((((((((((mkT [.agg cs, .int .i64 n]).put 2 (.ptr 0 0)).put 4 (.bool false)).put 15 (.ptr 0 4)).put 16 (xs o4)).put 17 (.int .i64 (Int.ofNat (ln o4)))).put 18 (.bool false)).put 19 (.bool false)).put 20 (.ptr 0 8)).put 21 (xs o8)).put 22 (.int .i64 (Int.ofNat (ln o8)))).put 23 (.bool false)).put 24 (.bool false), [], TH.leaf.put 0 (some (.cells cs)), 1⟩

section
variable (a b : Int) (w : Bool) (c : Int) (d : Bool) (e g n : Int)
theorem goA (o4 o8 : Option Nat) : KN 999999 3 false false cA (s0 (cells a b w c o4 d e g o8) n) = .normal (sA (cells a b w c o4 d e g o8) n) := by
  cases o4 <;> cases o8 <;> kernel_rfl
theorem goBC (o4 o8 : Option Nat) (h4 : ln o4 ≤ 6) (h8 : ln o8 ≤ 6) : KN 999998 3 false false (.seq cB cC) (sA (cells a b w c o4 d e g o8) n) = .normal (s1 (cells a b w c o4 d e g o8) n o4 o8) := by
  rcases o4 with _ | _ | _ | _ | _ | _ | _ | _ | k <;> rcases o8 with _ | _ | _ | _ | _ | _ | _ | _ | k <;> first | (exfalso; simp only [ln] at h4 h8; omega) | kernel_rfl
/-- Behind the first question: nothing looks at what the event holds. -/
theorem goD (o4 o8 : Option Nat) : fin (KN 999998 3 false false cD (s1 (cells a b w c o4 d e g o8) n o4 o8)) = true := by
  cases o4 <;> cases o8 <;> rcases n with (_ | m) | (_ | m) <;> kernel_rfl
/-- The first question answered with yes. -/
theorem big4 (k : Nat) (o8 : Option Nat) : fin (KN 1000000 3 false false (.seq cA (.seq (.seq cB cC) cD)) (s0 (cells a b w c (some (k + 7)) d e g o8) n)) = true := by
  cases o8 <;> kernel_rfl
theorem big8 (o4 : Option Nat) (h4 : ln o4 ≤ 6) (k : Nat) : fin (KN 1000000 3 false false (.seq cA (.seq (.seq cB cC) cD)) (s0 (cells a b w c o4 d e g (some (k + 7))) n)) = true := by
  rcases o4 with _ | _ | _ | _ | _ | _ | _ | _ | j <;> first | (exfalso; simp only [ln] at h4; omega) | kernel_rfl
theorem seqN (K : Knot) (b : Code) (s : ES) : cSeq K 3 false false b (.normal s) = K 3 false false b s := rfl
theorem seq1 (x y : Code) (s : ES) : KN 1000000 3 false false (.seq x y) s = cSeq (KN 999999) 3 false false y (KN 999999 3 false false x s) := by kernel_rfl
theorem seq2 (x y : Code) (s : ES) : KN 999999 3 false false (.seq x y) s = cSeq (KN 999998) 3 false false y (KN 999998 3 false false x s) := by kernel_rfl
theorem all (o4 o8 : Option Nat) : fin (KN 1000000 3 false false (.seq cA (.seq (.seq cB cC) cD)) (s0 (cells a b w c o4 d e g o8) n)) = true := by
  by_cases h4 : ln o4 ≤ 6
  · by_cases h8 : ln o8 ≤ 6
    · have e1 := seq1 cA (.seq (.seq cB cC) cD) (s0 (cells a b w c o4 d e g o8) n)
      rw [goA, seqN] at e1
      have e2 := seq2 (.seq cB cC) cD (sA (cells a b w c o4 d e g o8) n)
      rw [goBC a b w c d e g n o4 o8 h4 h8, seqN] at e2
      exact (congrArg fin (e1.trans e2)).trans (goD a b w c d e g n o4 o8)
    · cases o8 with
      | none => simp [ln] at h8
      | some l =>
        obtain ⟨k, rfl⟩ : ∃ k, l = k + 7 := ⟨l - 7, by simp only [ln] at h8; omega⟩
        exact big8 a b w c d e g n o4 h4 k
  · cases o4 with
    | none => simp [ln] at h4
    | some l =>
      obtain ⟨k, rfl⟩ : ∃ k, l = k + 7 := ⟨l - 7, by simp only [ln] at h4; omega⟩
      exact big4 a b w c d e g n k o8
theorem called (o4 o8 : Option Nat) : isTrue (callN Tryz.prog MK 1000000 3 [.agg (cells a b w c o4 d e g o8), .int .i64 n] .leaf 0) = true := by
  have h := all a b w c d e g n o4 o8
  unfold callN cBody bareBody
  rw [Tryz.func3]
  simp only [body3]
  have h1 : (Tryz.f3.name == "runtime.NumGoroutine") = false := by kernel_rfl
  have h2 : Nat.ble [AV.agg (cells a b w c o4 d e g o8), .int .i64 n].length Tryz.f3.ntmps = true := by kernel_rfl
  have h3 : Nat.ble Tryz.f3.ntmps 256 = true := by kernel_rfl
  have h4 : Tryz.f3.ntmps = 94 := by kernel_rfl
  rw [h1, cond_false, h2, cond_true, h3, cond_true]
  simp only [bodyOf, TT.strict_eq, fnat_eq, h4]
  exact h
end
end Go.Proofs.YtodicoepcffjoaaGreat.Ra
