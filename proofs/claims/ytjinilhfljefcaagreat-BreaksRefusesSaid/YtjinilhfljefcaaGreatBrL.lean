/- Proved here: whatever a call of BreaksRefuses is given, the abstract machine comes to true. No conditions. -/
import Derived.Test.YtjinilhfljefcaaGreatBrA
import Derived.Test.YtjinilhfljefcaaGreatBrO
import Derived.Test.YtjinilhfljefcaaGreatBrC
import Derived.Test.YtjinilhfljefcaaGreatBrD
import Derived.Test.YtjinilhfljefcaaGreatBrX
import Derived.Test.YtjinilhfljefcaaGreatBrBm
import Derived.Test.YtjinilhfljefcaaGreatBrB0
import Derived.Test.YtjinilhfljefcaaGreatBrB1
import Derived.Test.YtjinilhfljefcaaGreatBrK
set_option linter.unusedVariables false
namespace Go.Proofs.YtjinilhfljefcaaGreat.Br
open Go Go.Am Go.Proofs
set_option maxHeartbeats 0
set_option maxRecDepth 100000

theorem kok : KOK Tryz.prog KN := knot_sound mixed (memoOf_ok (by simp only [List.mem_cons, List.not_mem_nil, or_false, forall_eq]; exact okK)) 1000000

/-- The call comes to true. -/
def Fine : AExit → FS TH → Prop := bodyEnd Tryz.prog Tryz.f3 fun e _ _ => e = .ret (.bool true)
theorem le219 : 219 ≤ 256 := by omega
theorem of_fin {c : Code} {s : ES} (hs : s.n ≤ 256) (h : fin c s = true) : Exec Tryz.prog 3 false c (FSof false s) Fine := exec_ends kok hs h

theorem tail_all : ∀ n : Int, fin r7 (sT n 2950) = true
  | .negSucc 0 => tail_m
  | .negSucc (k + 1) => tail_lo k
  | .ofNat k => by
    by_cases h : k < 6
    · exact at_range tail_n h
    · obtain ⟨j, rfl⟩ : ∃ j, k = j + 6 := ⟨k - 6, by omega⟩
      exact tail_hi j
theorem tailX_all : ∀ n : Int, fin r7 (sT n 701) = true
  | .negSucc 0 => tailX_m
  | .negSucc (k + 1) => tailX_lo k
  | .ofNat k => by
    by_cases h : k < 6
    · exact at_range tailX_n h
    · obtain ⟨j, rfl⟩ : ∃ j, k = j + 6 := ⟨k - 6, by omega⟩
      exact tailX_hi j
theorem tail (n : Int) : Exec Tryz.prog 3 false r7 (FSof false (sT n 2950)) Fine := of_fin le219 (tail_all n)
theorem tailX (n : Int) : Exec Tryz.prog 3 false r7 (FSof false (sT n 701)) Fine := of_fin le219 (tailX_all n)

/-- What the loop, what its block must come to. -/
def Next : AExit → FS TH → Prop := AExit.then (fun s => Exec Tryz.prog 3 false r7 s Fine) Fine
def Out : AExit → FS TH → Prop := fun e s => match e with
  | .normal => Next .normal s
  | .exit i => if i = 0 then Next .normal s else Next e s
  | e => Next e s

theorem loop (n : Int) : ∀ (d i : Nat), i + d ≤ 70 → ExecL Tryz.prog 3 false lb (FSof false (sC (.ofNat (i + d)) n i)) Out
  | 0, i, h => by
    refine exec_round ?_
    have hi := at_range (leaves n) (i := i) (by omega)
    obtain ⟨s1, h1, h2⟩ := toldX_ok le219 hi
    refine kok.exec le219 (by simp) (fun e t ht => ?_) (by rw [Nat.add_zero, h1]; simp)
    rw [Nat.add_zero, h1] at ht
    obtain ⟨rfl, rfl, _⟩ := ht
    show (if 0 = 0 then Next .normal (FSof false s1) else Next (.exit 0) (FSof false s1))
    rw [if_pos rfl]
    exact exec_wk h2 (tail n)
  | d + 1, i, h => by
    refine exec_round ?_
    have hi := at_range (rounds d n) (i := i) (by omega)
    have e : i + (d + 1) = d + (i + 1) := by omega
    rw [e]
    obtain ⟨s1, h1, h2⟩ := told_ok le219 hi
    refine kok.exec le219 (by simp) (fun e t ht => ?_) (by rw [h1]; simp)
    rw [h1] at ht
    obtain ⟨rfl, rfl, _⟩ := ht
    have ih := loop n d (i + 1) (by omega)
    rw [Nat.add_comm (i + 1) d] at ih
    exact execL_wk h2 ih

theorem afterB (m : Nat) (n : Int) (hm : m ≤ 70) : Exec Tryz.prog 3 false r6 (FSof false (sB (.ofNat m) n)) Fine := by
  rw [r6_seq]
  refine exec_seq ?_
  show Exec Tryz.prog 3 false c6 _ Next
  rw [c6_is]
  refine exec_told kok le219 le219 (begins (.ofNat m) n) ?_
  refine exec_block ?_
  have h := (loop n m 0 (by omega)).2
  rw [Nat.zero_add] at h
  exact h.mono fun e s hs => by cases e <;> exact hs

theorem afterX (m : Nat) (n : Int) (hm : m ≤ 70) : Exec Tryz.prog 3 false r6 (FSof false (canon 219 (psX (.ofNat m) n) LX 3000)) Fine := by
  rw [r6_seq]
  exact exec_told kok le219 le219 (at_range (passes n) (i := m) (by omega)) (tailX n)

theorem afterA_m (m : Nat) (n : Int) (hm : m ≤ 70) : Exec Tryz.prog 3 false r2 (FSof false (canon 219 (psA (-1) (.ofNat m) n) LA 1)) Fine := by
  rw [r2_seqs]
  exact exec_pre kokB le219 (afterB m n hm) _ le219 (b_m (.ofNat m) n)
theorem afterA_0 (m : Nat) (n : Int) (hm : m ≤ 70) : Exec Tryz.prog 3 false r2 (FSof false (canon 219 (psA 0 (.ofNat m) n) LA 1)) Fine := by
  rw [r2_seqs]
  exact exec_pre kokB le219 (afterB m n hm) _ le219 (b_0 (.ofNat m) n)
theorem afterA_1 (m : Nat) (n : Int) (hm : m ≤ 70) : Exec Tryz.prog 3 false r2 (FSof false (canon 219 (psA 1 (.ofNat m) n) LA 1)) Fine := by
  rw [r2_seqs]
  exact exec_pre kokB le219 (afterX m n hm) _ le219 (b_1 (.ofNat m) n)

theorem start_m (m : Nat) (n : Int) (hm : m ≤ 70) : Exec Tryz.prog 3 false body (FSof false (sA (-1) (.ofNat m) n)) Fine := by
  rw [body_seqs]
  exact exec_pre kok le219 (afterA_m m n hm) _ le219 (at_range (in_m n) (i := m) (by omega))
theorem start_0 (m : Nat) (n : Int) (hm : m ≤ 70) : Exec Tryz.prog 3 false body (FSof false (sA 0 (.ofNat m) n)) Fine := by
  rw [body_seqs]
  exact exec_pre kok le219 (afterA_0 m n hm) _ le219 (at_range (in_0 n) (i := m) (by omega))
theorem start_1 (m : Nat) (n : Int) (hm : m ≤ 70) : Exec Tryz.prog 3 false body (FSof false (sA 1 (.ofNat m) n)) Fine := by
  rw [body_seqs]
  exact exec_pre kok le219 (afterA_1 m n hm) _ le219 (at_range (in_1 n) (i := m) (by omega))

theorem many_m (n : Int) : ∀ m : Int, Exec Tryz.prog 3 false body (FSof false (sA (-1) m n)) Fine
  | .negSucc 0 => of_fin le219 (lo1_m n)
  | .negSucc (k + 1) => of_fin le219 (lo_m k n)
  | .ofNat k => by
    by_cases h : k ≤ 70
    · exact start_m k n h
    · obtain ⟨j, rfl⟩ : ∃ j, k = j + 71 := ⟨k - 71, by omega⟩
      exact of_fin le219 (hi_m j n)
theorem many_0 (n : Int) : ∀ m : Int, Exec Tryz.prog 3 false body (FSof false (sA 0 m n)) Fine
  | .negSucc 0 => of_fin le219 (lo1_0 n)
  | .negSucc (k + 1) => of_fin le219 (lo_0 k n)
  | .ofNat k => by
    by_cases h : k ≤ 70
    · exact start_0 k n h
    · obtain ⟨j, rfl⟩ : ∃ j, k = j + 71 := ⟨k - 71, by omega⟩
      exact of_fin le219 (hi_0 j n)
theorem many_1 (n : Int) : ∀ m : Int, Exec Tryz.prog 3 false body (FSof false (sA 1 m n)) Fine
  | .negSucc 0 => of_fin le219 (lo1_1 n)
  | .negSucc (k + 1) => of_fin le219 (lo_1 k n)
  | .ofNat k => by
    by_cases h : k ≤ 70
    · exact start_1 k n h
    · obtain ⟨j, rfl⟩ : ∃ j, k = j + 71 := ⟨k - 71, by omega⟩
      exact of_fin le219 (hi_1 j n)
theorem all (m n : Int) : ∀ a : Int, Exec Tryz.prog 3 false body (FSof false (sA a m n)) Fine
  | .negSucc 0 => many_m n m
  | .negSucc (k + 1) => of_fin le219 (out_lo k m n)
  | .ofNat 0 => many_0 n m
  | .ofNat 1 => many_1 n m
  | .ofNat (k + 2) => of_fin le219 (out_hi k m n)

theorem called (a m n : Int) : ACall Tryz.prog 3 [.int .i64 a, .int .i64 m, .int .i64 n] (⟨TH.leaf, 0⟩ : St TH) fun e _ => e = .ret (.bool true) := by
  refine acall_ends (fn := Tryz.f3) (c := body) ⟨Tryz.func3, body_is, by kernel_rfl⟩ (by rw [nt]; simp) (by rw [nt]; omega) ?_
  rw [nt]
  exact all m n a
end Go.Proofs.YtjinilhfljefcaaGreat.Br
