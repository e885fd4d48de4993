/- A small verified interpreter over names, its proofs, and what was proved with it. No condition. -/
import Derived.Test.YtfhkfifjbgcpiaaDoorC3
set_option linter.all false
set_option linter.deprecated false
section
namespace Go.Ai
open Go.Proofs
set_option maxRecDepth 10000
theorem w64_in {n : Int} (h1 : -9223372036854775808 ≤ n) (h2 : n ≤ 9223372036854775807) : w64 n = n := wrap_i64 ⟨h1, h2⟩
def bitI (n : Int) : Prop := n = 0 ∨ n = 1
theorem truth_bit (b : Bool) : bitI (truthM b) := by cases b <;> simp [bitI, truthM]
theorem out_bit {is : Bool} {n : Int} (h : bitI n) : bitI (outM is n).1 := by
  unfold outM; split
  · exact h
  · exact .inl rfl
theorem doM_eq {op : Nat} {a b : Int} (h2 : 2 ≤ op) (h12 : op < 12) (hb : 9 ≤ op → bitI a ∧ (10 ≤ op → bitI b)) : rdoM op a b = doM op a b := by
  have hop : op = 2 ∨ op = 3 ∨ op = 4 ∨ op = 5 ∨ op = 6 ∨ op = 7 ∨ op = 8 ∨ op = 9 ∨ op = 10 ∨ op = 11 := by omega
  rcases hop with rfl | rfl | rfl | rfl | rfl | rfl | rfl | rfl | rfl | rfl
  · simp [rdoM, doM]
  · rfl
  · rfl
  · rfl
  · rfl
  · rfl
  · rfl
  · obtain ⟨h, _⟩ := hb (by omega)
    rcases h with rfl | rfl <;> simp [rdoM, doM, truthM] <;> rfl
  · obtain ⟨h, h'⟩ := hb (by omega)
    rcases h with rfl | rfl <;> rcases h' (by omega) with rfl | rfl <;> simp [rdoM, doM, truthM] <;> rfl
  · obtain ⟨h, h'⟩ := hb (by omega)
    rcases h with rfl | rfl <;> rcases h' (by omega) with rfl | rfl <;> simp [rdoM, doM, truthM]
theorem doM_bit {op : Nat} {a b : Int} (h6 : 6 ≤ op) (h12 : op < 12) (hb : 9 ≤ op → bitI a ∧ (10 ≤ op → bitI b)) : bitI (doM op a b) := by
  rw [← doM_eq (by omega) h12 hb]
  have hop : op = 6 ∨ op = 7 ∨ op = 8 ∨ op = 9 ∨ op = 10 ∨ op = 11 := by omega
  rcases hop with rfl | rfl | rfl | rfl | rfl | rfl <;> exact truth_bit _
theorem numbers_op (op : Nat) (h2 : 2 ≤ op) (h12 : op < 12) : (rowAt op).numbers = decide (op < 9) := by
  have hop : op = 2 ∨ op = 3 ∨ op = 4 ∨ op = 5 ∨ op = 6 ∨ op = 7 ∨ op = 8 ∨ op = 9 ∨ op = 10 ∨ op = 11 := by omega
  rcases hop with rfl | rfl | rfl | rfl | rfl | rfl | rfl | rfl | rfl | rfl <;> rfl
/-- Each value lies within what is allowed. -/
def fitV (vals : List Int) : Prop := ∀ v ∈ vals, -2147483648 ≤ v ∧ v ≤ 2147483648
theorem ref_eval {vals : List Int} (hv : fitV vals) : ∀ (m : Nat) (x : NodeM), sizeN x ≤ m → shapedM vals.length x = true → typedM x = true → rEvalM vals x = evalM vals x ∧ (6 ≤ x.op → bitI (evalM vals x).1) := by
  intro m
  induction m with
  | zero => intro x hx; cases x; unfold sizeN at hx; omega
  | succ m ih =>
    intro x hx hs ht
    cases x with
    | mk op q subs =>
      simp only [shapedM, Bool.and_eq_true, decide_eq_true_eq] at hs
      obtain ⟨h12, hsubs, hq0, hq1, hshl⟩ := hs
      have h3 := most_iff.1 hq1
      unfold typedM at ht
      have hsz : sizeL subs ≤ m := by unfold sizeN at hx; omega
      by_cases h0 : op = 0
      · subst h0
        have hz : subs = [] := List.length_eq_zero_iff.1 (by have := subs0 0 (by omega); omega)
        subst hz
        refine ⟨?_, fun h => absurd h (by simp [NodeM.op])⟩
        have h4 : -2147483648 ≤ q ∧ q ≤ 2147483648 := by omega
        simp [rEvalM, evalM, rEvalL, outM, h4.1, h4.2]
      by_cases h1 : op = 1
      · subst h1
        have hz : subs = [] := List.length_eq_zero_iff.1 (by have := subs0 1 (by omega); omega)
        subst hz
        refine ⟨?_, fun h => absurd h (by simp [NodeM.op])⟩
        have hk : q.toNat < vals.length := by omega
        have h4 := hv vals[q.toNat] (List.getElem_mem hk)
        simp [rEvalM, evalM, rEvalL, outM, hk, h4.1, h4.2]
      have h2 : 2 ≤ op := by omega
      rw [numbers_op op h2 h12] at ht
      have key : ∀ l : List NodeM, sizeL l ≤ m → shapedL vals.length l = true → typedL (decide (op < 9)) l = true → rEvalL vals l = evalL vals l ∧ ∀ p ∈ evalL vals l, 9 ≤ op → bitI p.1 := by
        intro l
        induction l with
        | nil => intro _ _ _; exact ⟨rfl, fun p hp => by simp [evalL] at hp⟩
        | cons y l ihl =>
          intro h4 h5 h6
          simp only [shapedL, Bool.and_eq_true] at h5
          simp only [typedL, Bool.and_eq_true] at h6
          have hy := ih y (by unfold sizeL at h4; omega) h5.1 h6.2.1
          have hl := ihl (by unfold sizeL at h4; omega) h5.2 h6.2.2
          refine ⟨by unfold rEvalL evalL; rw [hy.1, hl.1], fun p hp h9 => ?_⟩
          unfold evalL at hp
          rcases List.mem_cons.1 hp with rfl | hp
          · refine hy.2 ?_
            have := h6.1
            simp [condM, show ¬op < 9 by omega] at this
            omega
          · exact hl.2 p hp h9
      obtain ⟨k1, k2⟩ := key subs hsz hshl ht
      have hb : 9 ≤ op → bitI (argM (evalL vals subs) 0) ∧ (10 ≤ op → bitI (argM (evalL vals subs) 1)) := by
        intro h9
        have arg : ∀ i, bitI (argM (evalL vals subs) i) := by
          intro i
          unfold argM
          rw [List.getD_eq_getElem?_getD]
          cases hi : (evalL vals subs)[i]? with
          | none => exact .inl rfl
          | some p => exact k2 p (List.mem_of_getElem? hi) h9
        exact ⟨arg 0, fun _ => arg 1⟩
      refine ⟨?_, fun h6 => ?_⟩
      · rw [rEvalM, evalM, if_neg h0, if_neg h1, if_neg h0, if_neg h1, k1, doM_eq h2 h12 hb]
      · rw [evalM, if_neg h0, if_neg h1]
        exact out_bit (doM_bit h6 h12 hb)
end Go.Ai
end

section
namespace Go.Ai
open Go.Proofs
set_option maxRecDepth 10000
set_option maxHeartbeats 4000000
theorem refCond_w (x : NodeM) (g : Nat → Option Blk) (n : Nat) (cs : List AV) (hrep : repN g n x cs) :
    WC 6 Tryd.prog 19 [.agg cs] ⟨.fn g, n⟩ fun r => r = .ret (.lit (.int .i64 (truthM (decide (6 ≤ x.op))))) ⟨.fn g, n⟩ := by
  refine WC.drop1 rfl ?_
  obtain ⟨k2, sv2, hcy, h1c, hop2⟩ := repN_op hrep
  subst hcy
  have h1a : allOne [.lit (.int .u8 x.op), .lit (.int .i64 k2), sv2] = true := by simp [h1c]
  clear hrep
  generalize x.op = op at h1a hop2
  by_cases h6 : 6 ≤ op
  · have h6i : (6 : Int) ≤ (op : Int) := by omega
    refine WC.enterP (noO_ok _ _) hG6 [] Tryd.func19 rfl (by decide +kernel) (Nat.le_of_ble_eq_true (by kernel_rfl)) ?_
    iterate 12 (all_goals try (first | with_reducible refine splitI (fun h => ?_) (fun h => ?_) | with_reducible refine splitBI (fun h => ?_) (fun h => ?_) | simp (disch := first | assumption | omega | (simp; done) | fail) [Tryd.results19, *]))
    all_goals exact ⟨Nat.le_succ _, fun b hb => gput_lt hb⟩
  · have h6i : ¬(6 : Int) ≤ (op : Int) := by omega
    refine WC.enterP (noO_ok _ _) hG6 [] Tryd.func19 rfl (by decide +kernel) (Nat.le_of_ble_eq_true (by kernel_rfl)) ?_
    iterate 12 (all_goals try (first | with_reducible refine splitI (fun h => ?_) (fun h => ?_) | with_reducible refine splitBI (fun h => ?_) (fun h => ?_) | simp (disch := first | assumption | omega | (simp; done) | fail) [Tryd.results19, *]))
    all_goals exact ⟨Nat.le_succ _, fun b hb => gput_lt hb⟩
def nmX : ByteArray := ⟨#[120]⟩
def nmY : ByteArray := ⟨#[121]⟩
def nmB : ByteArray := ⟨#[98, 105, 103, 95, 49]⟩
/-- The variables of the examples. -/
def varsE : List VarM := [⟨nmX, 0, 9⟩, ⟨nmY, -5, 5⟩, ⟨nmB, -2147483648, 2147483648⟩]
theorem Vars_w (g : Nat → Option Blk) (n : Nat) : WC 6 Tryd.prog 12 [] ⟨.fn g, n⟩ fun r => r = .ret (.sl n 0 3 3) ⟨.fn (gput g n (some (.cells (varsE.flatMap VarM.cells) true 0))), n + 1⟩ := by
  refine WC.enterP (noO_ok _ _) hG6 [] Tryd.func12 rfl (by decide +kernel) (Nat.le_of_ble_eq_true (by kernel_rfl)) ?_
  iterate 12 (all_goals try (first | with_reducible refine splitI (fun h => ?_) (fun h => ?_) | with_reducible refine splitBI (fun h => ?_) (fun h => ?_) | simp (disch := first | assumption | omega | (simp; done) | fail) [Tryd.results12, *]))
  rfl
/-- The values of the examples. -/
def valX (a : Int) : Int := if a.tmod 10 < 0 then -(a.tmod 10) else a.tmod 10
def valsE (a b c : Int) : List Int := [valX a, b.tmod 6, c]
theorem Values_w (g : Nat → Option Blk) (n : Nat) (a b c : Int) (ha : -2147483648 ≤ a ∧ a ≤ 2147483647) (hb : -2147483648 ≤ b ∧ b ≤ 2147483647) (hc : -2147483648 ≤ c ∧ c ≤ 2147483647) :
    WC 6 Tryd.prog 18 [.agg [.lit (.int .i32 a), .lit (.int .i32 b), .lit (.int .i32 c)]] ⟨.fn g, n⟩ fun r => r = .ret (.sl (n + 1) 0 3 3) ⟨.fn (gput (gput g n (some (.cells [.lit (.int .i32 a), .lit (.int .i32 b), .lit (.int .i32 c)] true 0))) (n + 1) (some (.cells (intCells (valsE a b c)) true 0))), n + 1 + 1⟩ := by
  refine WC.enterP (noO_ok _ _) hG6 pl18 Tryd.func18 rfl (by decide +kernel) (Nat.le_of_ble_eq_true (by kernel_rfl)) ?_
  iterate 14 (all_goals try (first | with_reducible refine splitI (fun h => ?_) (fun h => ?_) | with_reducible refine splitBI (fun h => ?_) (fun h => ?_) | simp (disch := first | assumption | omega | (simp; done) | fail) [Tryd.results18, *]))
  · have h1 := Int.tmod_lt_of_pos a (show (0 : Int) < 10 by omega)
    have h2 := Int.lt_tmod_of_pos a (show (0 : Int) < 10 by omega)
    rw [wrap_i64 ⟨by omega, by omega⟩]
    simp [valsE, valX, intCells, h]
  · simp [valsE, valX, intCells, h]
theorem vals_in (a b c : Int) (hc : -2147483648 ≤ c ∧ c ≤ 2147483647) : inM varsE (valsE a b c) = true ∧ fitV (valsE a b c) := by
  have h1 := Int.tmod_lt_of_pos a (show (0 : Int) < 10 by omega)
  have h2 := Int.lt_tmod_of_pos a (show (0 : Int) < 10 by omega)
  have h3 := Int.tmod_lt_of_pos b (show (0 : Int) < 6 by omega)
  have h4 := Int.lt_tmod_of_pos b (show (0 : Int) < 6 by omega)
  have hx : 0 ≤ valX a ∧ valX a ≤ 9 := by unfold valX; split <;> omega
  constructor
  · simp only [varsE, valsE, inM, Bool.and_true, Bool.and_eq_true, decide_eq_true_eq]
    omega
  · intro v hv
    simp only [valsE, List.mem_cons, List.not_mem_nil, or_false] at hv
    rcases hv with rfl | rfl | rfl <;> omega
theorem varsE_ok : checkVarsM varsE = 0 := by decide +kernel
theorem vals_ok (a b c : Int) (hc : -2147483648 ≤ c ∧ c ≤ 2147483647) : checkValuesM varsE (valsE a b c) = 0 := by
  unfold checkValuesM
  rw [if_neg (by rw [varsE_ok]; simp), if_neg (by simp [valsE, varsE]), if_pos (vals_in a b c hc).1]
end Go.Ai
end
