/- A small verified interpreter over names, its proofs, and what was proved with it. No condition. -/
import Derived.Test.YtfhkfifjbgcpiaaDoorED3
set_option linter.all false
set_option linter.deprecated false
section
namespace Go.Ai
open Go.Proofs
set_option maxRecDepth 10000
set_option maxHeartbeats 40000000
end Go.Ai
end

section
namespace Go.Ai
open Go.Proofs
set_option maxRecDepth 10000
set_option maxHeartbeats 40000000
def smallsB : ByteArray := ⟨List.toArray ((48 : UInt8) :: 48 :: 48 :: 49 :: 48 :: 50 :: 48 :: 51 :: 48 :: 52 :: 48 :: 53 :: 48 :: 54 :: 48 :: 55 :: 48 :: 56 :: 48 :: 57 :: 49 :: 48 :: 49 :: 49 :: 49 :: 50 :: 49 :: 51 :: 49 :: 52 :: 49 :: 53 :: 49 :: 54 :: 49 :: 55 :: 49 :: 56 :: 49 :: 57 :: 50 :: 48 :: 50 :: 49 :: 50 :: 50 :: 50 :: 51 :: 50 :: 52 :: 50 :: 53 :: 50 :: 54 :: 50 :: 55 :: 50 :: 56 :: 50 :: 57 :: 51 :: 48 :: 51 :: 49 :: 51 :: 50 :: 51 :: 51 :: 51 :: 52 :: 51 :: 53 :: 51 :: 54 :: 51 :: 55 :: 51 :: 56 :: 51 :: 57 :: 52 :: 48 :: 52 :: 49 :: 52 :: 50 :: 52 :: 51 :: 52 :: 52 :: 52 :: 53 :: 52 :: 54 :: 52 :: 55 :: 52 :: 56 :: 52 :: 57 :: 53 :: 48 :: 53 :: 49 :: 53 :: 50 :: 53 :: 51 :: 53 :: 52 :: 53 :: 53 :: 53 :: 54 :: 53 :: 55 :: 53 :: 56 :: 53 :: 57 :: 54 :: 48 :: 54 :: 49 :: 54 :: 50 :: 54 :: 51 :: 54 :: 52 :: 54 :: 53 :: 54 :: 54 :: 54 :: 55 :: 54 :: 56 :: 54 :: 57 :: 55 :: 48 :: 55 :: 49 :: 55 :: 50 :: 55 :: 51 :: 55 :: 52 :: 55 :: 53 :: 55 :: 54 :: 55 :: 55 :: 55 :: 56 :: 55 :: 57 :: 56 :: 48 :: 56 :: 49 :: 56 :: 50 :: 56 :: 51 :: 56 :: 52 :: 56 :: 53 :: 56 :: 54 :: 56 :: 55 :: 56 :: 56 :: 56 :: 57 :: 57 :: 48 :: 57 :: 49 :: 57 :: 50 :: 57 :: 51 :: 57 :: 52 :: 57 :: 53 :: 57 :: 54 :: 57 :: 55 :: 57 :: 56 :: 57 :: 57 :: [])⟩
def smallsOk : Bool := (List.range 100).all fun r => decide (bAt smallsB (r * 2) = 48 + (r / 10 : Nat)) && decide (bAt smallsB (r * 2 + 1) = 48 + (r % 10 : Nat)) && decide (9 < r → smallsB.extract (r * 2) (r * 2 + 2) = digB (r / 10) ++ digB (r % 10))
theorem smalls_ok : smallsOk = true := by decide +kernel
theorem smalls_at {r : Nat} (h : r < 100) : bAt smallsB (r * 2) = 48 + (r / 10 : Nat) ∧ bAt smallsB (r * 2 + 1) = 48 + (r % 10 : Nat) ∧ (9 < r → smallsB.extract (r * 2) (r * 2 + 2) = digB (r / 10) ++ digB (r % 10)) := by
  have := List.all_eq_true.1 smalls_ok r (List.mem_range.2 h)
  simp only [Bool.and_eq_true, decide_eq_true_eq] at this
  exact ⟨this.1.1, this.1.2, this.2⟩
theorem dec_small {k : Nat} (h : k ≤ 9) : decB k = digB k := by rw [decB, dif_neg (by omega)]
theorem dec_two {k : Nat} (h : 9 < k) (h2 : k < 100) : decB k = digB (k / 10) ++ digB (k % 10) := by rw [decB, dif_pos h, dec_small (by omega)]
def digs36 : ByteArray := ⟨List.toArray ((48 : UInt8) :: 49 :: 50 :: 51 :: 52 :: 53 :: 54 :: 55 :: 56 :: 57 :: 97 :: 98 :: 99 :: 100 :: 101 :: 102 :: 103 :: 104 :: 105 :: 106 :: 107 :: 108 :: 109 :: 110 :: 111 :: 112 :: 113 :: 114 :: 115 :: 116 :: 117 :: 118 :: 119 :: 120 :: 121 :: 122 :: [])⟩
theorem small_w71 (k : Nat) (hk : k < 100) (H : Mem) : WC 6 Tryd.prog 71 [.lit (.int .i64 k)] H fun r => r = .ret (.lit (.string (decB k))) H := by
  by_cases h9 : k ≤ 9
  · have h10 : (k : Int) < 10 := by omega
    rw [dec_small h9]
    have hex0 : digs36.extract k (k + 1) = digB k := by
      have hn : k = 0 ∨ k = 1 ∨ k = 2 ∨ k = 3 ∨ k = 4 ∨ k = 5 ∨ k = 6 ∨ k = 7 ∨ k = 8 ∨ k = 9 := by omega
      rcases hn with rfl | rfl | rfl | rfl | rfl | rfl | rfl | rfl | rfl | rfl <;> decide +kernel
    have hex : digs36.extract k ((k : Int) + 1).toNat = digB k := by
      rw [show ((k : Int) + 1).toNat = k + 1 by omega]; exact hex0
    have hsz : digs36.size = 36 := rfl
    unfold digs36 at hex hex0 hsz
    refine WC.enterP (noO_ok _ _) hG6 [] Tryd.func71 rfl (by decide +kernel) (Nat.le_of_ble_eq_true (by kernel_rfl)) ?_
    iterate 12 (all_goals try (first | with_reducible refine splitI (fun h => ?_) (fun h => ?_) | with_reducible refine splitBI (fun h => ?_) (fun h => ?_) | simp (disch := first | assumption | omega | (simp; done) | fail) [Tryd.results71, *]))
  · have h10 : ¬(k : Int) < 10 := by omega
    rw [dec_two (by omega) hk]
    have hex : smallsB.extract ((k : Int) * 2).toNat ((k : Int) * 2 + 2).toNat = digB (k / 10) ++ digB (k % 10) := by
      rw [show ((k : Int) * 2).toNat = k * 2 by omega, show ((k : Int) * 2 + 2).toNat = k * 2 + 2 by omega]
      exact (smalls_at hk).2.2 (by omega)
    have hsz : smallsB.size = 200 := rfl
    unfold smallsB at hex hsz
    refine WC.enterP (noO_ok _ _) hG6 [] Tryd.func71 rfl (by decide +kernel) (Nat.le_of_ble_eq_true (by kernel_rfl)) ?_
    iterate 12 (all_goals try (first | with_reducible refine splitI (fun h => ?_) (fun h => ?_) | with_reducible refine splitBI (fun h => ?_) (fun h => ?_) | simp (disch := first | assumption | omega | (simp; done) | fail) [Tryd.results71, *]))
def lenB : ByteArray := ⟨List.toArray ((0 : UInt8) :: 1 :: 2 :: 2 :: 3 :: 3 :: 3 :: 3 :: 4 :: 4 :: 4 :: 4 :: 4 :: 4 :: 4 :: 4 :: 5 :: 5 :: 5 :: 5 :: 5 :: 5 :: 5 :: 5 :: 5 :: 5 :: 5 :: 5 :: 5 :: 5 :: 5 :: 5 :: 6 :: 6 :: 6 :: 6 :: 6 :: 6 :: 6 :: 6 :: 6 :: 6 :: 6 :: 6 :: 6 :: 6 :: 6 :: 6 :: 6 :: 6 :: 6 :: 6 :: 6 :: 6 :: 6 :: 6 :: 6 :: 6 :: 6 :: 6 :: 6 :: 6 :: 6 :: 6 :: 7 :: 7 :: 7 :: 7 :: 7 :: 7 :: 7 :: 7 :: 7 :: 7 :: 7 :: 7 :: 7 :: 7 :: 7 :: 7 :: 7 :: 7 :: 7 :: 7 :: 7 :: 7 :: 7 :: 7 :: 7 :: 7 :: 7 :: 7 :: 7 :: 7 :: 7 :: 7 :: 7 :: 7 :: 7 :: 7 :: 7 :: 7 :: 7 :: 7 :: 7 :: 7 :: 7 :: 7 :: 7 :: 7 :: 7 :: 7 :: 7 :: 7 :: 7 :: 7 :: 7 :: 7 :: 7 :: 7 :: 7 :: 7 :: 7 :: 7 :: 7 :: 7 :: 7 :: 7 :: 8 :: 8 :: 8 :: 8 :: 8 :: 8 :: 8 :: 8 :: 8 :: 8 :: 8 :: 8 :: 8 :: 8 :: 8 :: 8 :: 8 :: 8 :: 8 :: 8 :: 8 :: 8 :: 8 :: 8 :: 8 :: 8 :: 8 :: 8 :: 8 :: 8 :: 8 :: 8 :: 8 :: 8 :: 8 :: 8 :: 8 :: 8 :: 8 :: 8 :: 8 :: 8 :: 8 :: 8 :: 8 :: 8 :: 8 :: 8 :: 8 :: 8 :: 8 :: 8 :: 8 :: 8 :: 8 :: 8 :: 8 :: 8 :: 8 :: 8 :: 8 :: 8 :: 8 :: 8 :: 8 :: 8 :: 8 :: 8 :: 8 :: 8 :: 8 :: 8 :: 8 :: 8 :: 8 :: 8 :: 8 :: 8 :: 8 :: 8 :: 8 :: 8 :: 8 :: 8 :: 8 :: 8 :: 8 :: 8 :: 8 :: 8 :: 8 :: 8 :: 8 :: 8 :: 8 :: 8 :: 8 :: 8 :: 8 :: 8 :: 8 :: 8 :: 8 :: 8 :: 8 :: 8 :: 8 :: 8 :: 8 :: 8 :: 8 :: 8 :: 8 :: 8 :: 8 :: 8 :: 8 :: 8 :: 8 :: 8 :: 8 :: 8 :: 8 :: 8 :: 8 :: 8 :: 8 :: 8 :: [])⟩
def lenOk : Bool := (List.range 256).all fun r => decide (0 < r → (List.range 9).any (fun L => decide (1 ≤ L) && decide (bAt lenB r = (L : Nat)) && decide (2 ^ (L - 1) ≤ r) && decide (r < 2 ^ L)) = true)
theorem len_ok : lenOk = true := by decide +kernel
theorem len_at {r : Nat} (h : r < 256) (h0 : 0 < r) : ∃ L : Nat, 1 ≤ L ∧ L ≤ 8 ∧ bAt lenB r = L ∧ 2 ^ (L - 1) ≤ r ∧ r < 2 ^ L := by
  have := List.all_eq_true.1 len_ok r (List.mem_range.2 h)
  obtain ⟨L, h1, h2⟩ := List.any_eq_true.1 ((of_decide_eq_true this) h0)
  simp only [Bool.and_eq_true, decide_eq_true_eq] at h2
  have := List.mem_range.1 h1
  exact ⟨L, h2.1.1.1, by omega, h2.1.1.2, h2.1.2, h2.2⟩
theorem bool2_w (b : Bool) (H : Mem) : WC 6 Tryd.prog 82 [.lit (.bool b)] H fun r => r = .ret (.lit (.int .i64 (truthM b))) H := by
  cases b
  all_goals
    refine WC.enterP (noO_ok _ _) hG6 [] Tryd.func82 rfl (by decide +kernel) (Nat.le_of_ble_eq_true (by kernel_rfl)) ?_
    iterate 12 (all_goals try (first | with_reducible refine splitI (fun h => ?_) (fun h => ?_) | with_reducible refine splitBI (fun h => ?_) (fun h => ?_) | simp (disch := first | assumption | omega | (simp; done) | fail) [Tryd.results82, truthM, *]))
theorem log10_w (L : Nat) (hL : L ≤ 64) (H : Mem) : WC 6 Tryd.prog 80 [.lit (.int .i64 L)] H fun r => r = .ret (.lit (.int .i64 (L * 78913 / 262144 : Nat))) H := by
  refine WC.enterP (noO_ok _ _) hG6 [] Tryd.func80 rfl (by decide +kernel) (Nat.le_of_ble_eq_true (by kernel_rfl)) ?_
  iterate 12 (all_goals try (first | with_reducible refine splitI (fun h => ?_) (fun h => ?_) | with_reducible refine splitBI (fun h => ?_) (fun h => ?_) | simp (disch := first | assumption | omega | (simp; done) | fail) [Tryd.results80, *]))
/-- How many bits. -/
def bitsOk (k L : Nat) : Prop := 1 ≤ L ∧ L ≤ 32 ∧ 2 ^ (L - 1) ≤ k ∧ k < 2 ^ L
theorem len64_w (k : Nat) (h0 : 0 < k) (hk : k ≤ 2147483648) (H : Mem) : WC 6 Tryd.prog 81 [.lit (.int .u64 k)] H fun r => ∃ L, bitsOk k L ∧ r = .ret (.lit (.int .i64 (L : Nat))) H := by
  have h32 : ¬(4294967296 : Int) ≤ (k : Int) := by omega
  have hsz : lenB.size = 256 := rfl
  obtain ⟨s, hs⟩ : ∃ s : Nat, Hide ((k < 256 ∧ s = 0) ∨ (256 ≤ k ∧ k < 65536 ∧ s = 8) ∨ (65536 ≤ k ∧ k < 16777216 ∧ s = 16) ∨ (16777216 ≤ k ∧ s = 24)) := by
    by_cases c1 : k < 256
    · exact ⟨0, ⟨.inl ⟨c1, rfl⟩⟩⟩
    by_cases c2 : k < 65536
    · exact ⟨8, ⟨.inr (.inl ⟨by omega, c2, rfl⟩)⟩⟩
    by_cases c3 : k < 16777216
    · exact ⟨16, ⟨.inr (.inr (.inl ⟨by omega, c3, rfl⟩))⟩⟩
    · exact ⟨24, ⟨.inr (.inr (.inr ⟨by omega, rfl⟩))⟩⟩
  have fin : ∀ r s : Nat, (s = 0 ∨ s = 8 ∨ s = 16 ∨ s = 24) → r = k / 2 ^ s → 0 < r → r < 256 → ∃ L : Nat, bAt lenB r = L ∧ bitsOk k (s + L) := by
    intro r s hs hr hp hlt
    obtain ⟨L, h1, h2, h3, h4, h5⟩ := len_at hlt hp
    refine ⟨L, h3, by omega, by rcases hs with rfl | rfl | rfl | rfl <;> omega, ?_⟩
    have hL : L = 1 ∨ L = 2 ∨ L = 3 ∨ L = 4 ∨ L = 5 ∨ L = 6 ∨ L = 7 ∨ L = 8 := by omega
    rcases hs with rfl | rfl | rfl | rfl <;> rcases hL with rfl | rfl | rfl | rfl | rfl | rfl | rfl | rfl <;> simp at hr h4 h5 ⊢ <;> omega
  rcases hs.out with ⟨c1, rfl⟩ | ⟨c1, c2, rfl⟩ | ⟨c1, c2, rfl⟩ | ⟨c1, rfl⟩
  · obtain ⟨L, e1, e2⟩ := fin (k) 0 (by omega) (by simp) (by omega) (by omega)
    have e3 : bAt lenB ((k : Int)).toNat = L := by rw [show ((k : Int)).toNat = k by omega]; exact e1
    have hti : ((k : Int)).toNat < 256 := by omega
    have HF := Hide.mk e2
    have hLb := e2.2.1
    have t16 : ¬(65536 : Int) ≤ (k : Int) := by omega
    have t8 : ¬(256 : Int) ≤ (k : Int) := by omega
    clear fin hs e2
    unfold lenB at e1 e3 hsz
    refine WC.enterP (noO_ok _ _) hG6 [] Tryd.func81 rfl (by decide +kernel) (Nat.le_of_ble_eq_true (by kernel_rfl)) ?_
    iterate 16 (all_goals try (first | with_reducible refine splitI (fun h => ?_) (fun h => ?_) | with_reducible refine splitBI (fun h => ?_) (fun h => ?_) | simp (disch := first | assumption | omega | (simp; done) | fail) [Tryd.results81, *]))
    exact ⟨0 + L, by simpa using HF.out, by omega⟩
  · obtain ⟨L, e1, e2⟩ := fin (k / 256) 8 (by omega) (by simp) (by omega) (by omega)
    have e3 : bAt lenB ((k : Int) / 256).toNat = L := by rw [show ((k : Int) / 256).toNat = k / 256 by omega]; exact e1
    have hti : ((k : Int) / 256).toNat < 256 := by omega
    have HF := Hide.mk e2
    have hLb := e2.2.1
    have t16 : ¬(65536 : Int) ≤ (k : Int) := by omega
    have t8 : (256 : Int) ≤ (k : Int) := by omega
    clear fin hs e2
    unfold lenB at e1 e3 hsz
    refine WC.enterP (noO_ok _ _) hG6 [] Tryd.func81 rfl (by decide +kernel) (Nat.le_of_ble_eq_true (by kernel_rfl)) ?_
    iterate 16 (all_goals try (first | with_reducible refine splitI (fun h => ?_) (fun h => ?_) | with_reducible refine splitBI (fun h => ?_) (fun h => ?_) | simp (disch := first | assumption | omega | (simp; done) | fail) [Tryd.results81, *]))
    exact ⟨8 + L, HF.out, by omega⟩
  · obtain ⟨L, e1, e2⟩ := fin (k / 65536) 16 (by omega) (by simp) (by omega) (by omega)
    have e3 : bAt lenB ((k : Int) / 65536).toNat = L := by rw [show ((k : Int) / 65536).toNat = k / 65536 by omega]; exact e1
    have hti : ((k : Int) / 65536).toNat < 256 := by omega
    have HF := Hide.mk e2
    have hLb := e2.2.1
    have t16 : (65536 : Int) ≤ (k : Int) := by omega
    have t8 : ¬(256 : Int) ≤ (k : Int) / 65536 := by omega
    clear fin hs e2
    unfold lenB at e1 e3 hsz
    refine WC.enterP (noO_ok _ _) hG6 [] Tryd.func81 rfl (by decide +kernel) (Nat.le_of_ble_eq_true (by kernel_rfl)) ?_
    iterate 16 (all_goals try (first | with_reducible refine splitI (fun h => ?_) (fun h => ?_) | with_reducible refine splitBI (fun h => ?_) (fun h => ?_) | simp (disch := first | assumption | omega | (simp; done) | fail) [Tryd.results81, *]))
    exact ⟨16 + L, HF.out, by omega⟩
  · obtain ⟨L, e1, e2⟩ := fin (k / 16777216) 24 (by omega) (by simp) (by omega) (by omega)
    have e3 : bAt lenB ((k : Int) / 65536 / 256).toNat = L := by rw [show ((k : Int) / 65536 / 256).toNat = k / 16777216 by omega]; exact e1
    have hti : ((k : Int) / 65536 / 256).toNat < 256 := by omega
    have HF := Hide.mk e2
    have hLb := e2.2.1
    have t16 : (65536 : Int) ≤ (k : Int) := by omega
    have t8 : (256 : Int) ≤ (k : Int) / 65536 := by omega
    clear fin hs e2
    unfold lenB at e1 e3 hsz
    refine WC.enterP (noO_ok _ _) hG6 [] Tryd.func81 rfl (by decide +kernel) (Nat.le_of_ble_eq_true (by kernel_rfl)) ?_
    iterate 16 (all_goals try (first | with_reducible refine splitI (fun h => ?_) (fun h => ?_) | with_reducible refine splitBI (fun h => ?_) (fun h => ?_) | simp (disch := first | assumption | omega | (simp; done) | fail) [Tryd.results81, *]))
    exact ⟨24 + L, HF.out, by omega⟩
def powOk : Bool := (List.range 20).all fun t => match bP[t]? with | some (.lit (.int .u64 v)) => decide (v = ((10 ^ t : Nat) : Int)) | _ => false
theorem pow_ok : powOk = true := by decide +kernel
theorem pow_at {t s : Nat} (h : t < 20) : loadB (some (false, s)) (some (.cells bP false 0)) t = some (.lit (.int .u64 ((10 ^ t : Nat) : Int))) := by
  have := List.all_eq_true.1 pow_ok t (List.mem_range.2 h)
  rw [loadB_one]
  split at this
  · rename_i v hv
    rw [hv, of_decide_eq_true this]
  · cases this
/-- How many digits. -/
def digsOk (k nd : Nat) : Prop := 3 ≤ nd ∧ nd ≤ 10 ∧ 10 ^ (nd - 1) ≤ k ∧ k < 10 ^ nd
theorem digs_of {k L t : Nat} (h0 : 100 ≤ k) (hk : k ≤ 2147483648) (hL : bitsOk k L) (ht : t = L * 78913 / 262144) : t < 10 ∧ (10 ^ t ≤ k → digsOk k (t + 1)) ∧ (¬10 ^ t ≤ k → digsOk k t) := by
  obtain ⟨h1, h2, h3, h4⟩ := hL
  have hL7 : 7 ≤ L := by
    rcases Nat.lt_or_ge L 7 with h | h
    · exfalso
      have : 2 ^ L ≤ 2 ^ 6 := Nat.pow_le_pow_right (by omega) (by omega)
      omega
    · exact h
  have hc : L = 7 ∨ L = 8 ∨ L = 9 ∨ L = 10 ∨ L = 11 ∨ L = 12 ∨ L = 13 ∨ L = 14 ∨ L = 15 ∨ L = 16 ∨ L = 17 ∨ L = 18 ∨ L = 19 ∨ L = 20 ∨ L = 21 ∨ L = 22 ∨ L = 23 ∨ L = 24 ∨ L = 25 ∨ L = 26 ∨ L = 27 ∨ L = 28 ∨ L = 29 ∨ L = 30 ∨ L = 31 ∨ L = 32 := by omega
  unfold digsOk
  rcases hc with rfl | rfl | rfl | rfl | rfl | rfl | rfl | rfl | rfl | rfl | rfl | rfl | rfl | rfl | rfl | rfl | rfl | rfl | rfl | rfl | rfl | rfl | rfl | rfl | rfl | rfl
  all_goals
    simp at ht
    subst ht
    simp at h3 h4 ⊢
    omega
theorem digits_w (k : Nat) (h0 : 100 ≤ k) (hk : k ≤ 2147483648) (g : Nat → Option Blk) (n : Nat) (hg : g 1 = some (.cells bP false 0)) (hn : 1 < n) : WC 6 Tryd.prog 72 [.lit (.int .u64 k)] ⟨.fn g, n⟩ fun r => ∃ nd, digsOk k nd ∧ r = .ret (.lit (.int .i64 (nd : Nat))) ⟨.fn g, n⟩ := by
  refine WC.enterP (noO_ok _ _) hG6 [] Tryd.func72 rfl (by decide +kernel) (Nat.le_of_ble_eq_true (by kernel_rfl)) ?_
  iterate 12 (all_goals try (first | with_reducible refine splitI (fun h => ?_) (fun h => ?_) | with_reducible refine splitBI (fun h => ?_) (fun h => ?_) | simp (disch := first | assumption | omega | (simp; done) | fail) [Tryd.results72, *]))
  refine WC.mono (len64_w k (by omega) hk _) ?_
  rintro _ ⟨L, hL, rfl⟩
  iterate 12 (all_goals try (first | with_reducible refine splitI (fun h => ?_) (fun h => ?_) | with_reducible refine splitBI (fun h => ?_) (fun h => ?_) | simp (disch := first | assumption | omega | (simp; done) | fail) [Tryd.results72, *]))
  refine WC.mono (log10_w L (by have := hL.2.1; omega) _) ?_
  rintro _ rfl
  obtain ⟨t, ht⟩ : ∃ t, t = L * 78913 / 262144 := ⟨_, rfl⟩
  obtain ⟨d1, d2, d3⟩ := digs_of h0 hk hL ht
  rw [← ht]
  have hp := pow_at (s := 1) (show t < 20 by omega)
  have D2 := Hide.mk d2
  have D3 := Hide.mk d3
  have HT := Hide.mk ht
  clear d2 d3 ht hL
  iterate 12 (all_goals try (first | with_reducible refine splitI (fun h => ?_) (fun h => ?_) | with_reducible refine splitBI (fun h => ?_) (fun h => ?_) | simp (disch := first | assumption | omega | (simp; done) | fail) [Tryd.results72, *]))
  · refine WC.mono (bool2_w _ _) ?_
    rintro _ rfl
    iterate 12 (all_goals try (first | with_reducible refine splitI (fun h => ?_) (fun h => ?_) | with_reducible refine splitBI (fun h => ?_) (fun h => ?_) | simp (disch := first | assumption | omega | (simp; done) | fail) [Tryd.results72, *]))
    exact ⟨t + 1, D2.out (by exact_mod_cast h), by omega⟩
  · refine WC.mono (bool2_w _ _) ?_
    rintro _ rfl
    iterate 12 (all_goals try (first | with_reducible refine splitI (fun h => ?_) (fun h => ?_) | with_reducible refine splitBI (fun h => ?_) (fun h => ?_) | simp (disch := first | assumption | omega | (simp; done) | fail) [Tryd.results72, *]))
    exact ⟨t, D3.out (by exact_mod_cast h), rfl⟩
end Go.Ai
end

section
namespace Go.Ai
open Go.Proofs
set_option maxRecDepth 10000
set_option maxHeartbeats 40000000
theorem smalls_lo {x : Int} (h0 : 0 ≤ x) (h1 : x < 100) : bAt smallsB (x * 2).toNat = 48 + x / 10 := by
  obtain ⟨r, rfl⟩ := Int.eq_ofNat_of_zero_le h0
  rw [show ((r : Int) * 2).toNat = r * 2 by omega, (smalls_at (by omega)).1]
  omega
theorem smalls_hi {x : Int} (h0 : 0 ≤ x) (h1 : x < 100) : bAt smallsB (x * 2 + 1).toNat = 48 + x % 10 := by
  obtain ⟨r, rfl⟩ := Int.eq_ofNat_of_zero_le h0
  rw [show ((r : Int) * 2 + 1).toNat = r * 2 + 1 by omega, (smalls_at (by omega)).2.1]
  omega
theorem smalls_size : smallsB.size = 200 := rfl
def dg (n : Nat) : UInt8 := UInt8.ofNat (48 + n)
def digL (n : Nat) : List UInt8 := if h : 9 < n then digL (n / 10) ++ [dg (n % 10)] else [dg n]
termination_by n
decreasing_by omega
theorem digL_step {n : Nat} (h : 9 < n) : digL n = digL (n / 10) ++ [dg (n % 10)] := by rw [digL, dif_pos h]
theorem digL_one {n : Nat} (h : n ≤ 9) : digL n = [dg n] := by rw [digL, dif_neg (by omega)]
theorem ba_app (a b : List UInt8) : (⟨a.toArray⟩ : ByteArray) ++ ⟨b.toArray⟩ = ⟨(a ++ b).toArray⟩ := by
  apply ByteArray.ext
  rw [ByteArray.data_append]
  simp
theorem dec_list (n : Nat) : decB n = ⟨(digL n).toArray⟩ := by
  induction n using Nat.strongRecOn with
  | _ n ih =>
    by_cases h : 9 < n
    · rw [decB, dif_pos h, digL_step h, ih (n / 10) (by omega), ← ba_app]; rfl
    · rw [decB, dif_neg h, digL_one (by omega)]; rfl
theorem by_list {l : List UInt8} {n : Nat} (h : l = digL n) : (⟨l.toArray⟩ : ByteArray) = decB n := by rw [dec_list, h]
theorem fmt_3 (k : Nat) (h0 : 100 ≤ k) (h1 : k < 1000) (g : Nat → Option Blk) (n : Nat) (hk : k ≤ 2147483648) (hg : g 1 = some (.cells bP false 0)) (hn : 1 < n) : WC 6 Tryd.prog 68 [.lit (.int .i64 k), .lit (.int .i64 10)] ⟨.fn g, n⟩ fun r => r = .ret (.lit (.string (decB k))) ⟨.fn g, n⟩ := by
  refine WC.drop1 rfl ?_
  have e1 : ¬(k : Int) < 100 := by omega
  have e2 : ¬(k : Int) < 0 := by omega
  have SLO := @smalls_lo
  have SHI := @smalls_hi
  have SSZ := smalls_size
  unfold smallsB at SLO SHI SSZ
  refine WC.enterP (noO_ok _ _) hG6 [] Tryd.func68 rfl (by decide +kernel) (Nat.le_of_ble_eq_true (by kernel_rfl)) ?_
  iterate 20 (all_goals try (first | with_reducible refine splitI (fun h => ?_) (fun h => ?_) | with_reducible refine splitBI (fun h => ?_) (fun h => ?_) | simp (config := { maxSteps := 1000000 }) (disch := first | assumption | omega | (simp; done) | fail) [Tryd.results68, Int.tdiv_eq_ediv_of_nonneg, Int.tmod_eq_emod_of_nonneg, *]))
  refine WC.mono (digits_w k (by omega) hk _ _ (by simp (disch := omega) only [gput_lt]; exact hg) (by omega)) ?_
  rintro _ ⟨nd, hnd, rfl⟩
  have hd3 : nd = 3 := by
    obtain ⟨q1, q2, q3, q4⟩ := hnd
    have hc : nd = 3 ∨ nd = 4 ∨ nd = 5 ∨ nd = 6 ∨ nd = 7 ∨ nd = 8 ∨ nd = 9 ∨ nd = 10 := by omega
    rcases hc with rfl | rfl | rfl | rfl | rfl | rfl | rfl | rfl <;> simp at q3 q4 <;> omega
  clear hnd
  subst hd3
  iterate 20 (all_goals try (first | with_reducible refine splitI (fun h => ?_) (fun h => ?_) | with_reducible refine splitBI (fun h => ?_) (fun h => ?_) | simp (config := { maxSteps := 1000000 }) (disch := first | assumption | omega | (simp; done) | fail) [Tryd.results68, Int.tdiv_eq_ediv_of_nonneg, Int.tmod_eq_emod_of_nonneg, *]))
  refine WC.enterP (noO_ok _ _) hG6 pl73 Tryd.func73 rfl (by decide +kernel) (Nat.le_of_ble_eq_true (by kernel_rfl)) ?_
  iterate 20 (all_goals try (first | with_reducible refine splitI (fun h => ?_) (fun h => ?_) | with_reducible refine splitBI (fun h => ?_) (fun h => ?_) | simp (config := { maxSteps := 1000000 }) (disch := first | assumption | omega | (simp; done) | fail) [Tryd.results73, Int.tdiv_eq_ediv_of_nonneg, Int.tmod_eq_emod_of_nonneg, *]))
  refine LX.roundP (noO_ok _ _) hG6 pl73 (by decide +kernel) ?_
  iterate 20 (all_goals try (first | with_reducible refine splitI (fun h => ?_) (fun h => ?_) | with_reducible refine splitBI (fun h => ?_) (fun h => ?_) | simp (config := { maxSteps := 1000000 }) (disch := first | assumption | omega | (simp; done) | fail) [Tryd.results73, Int.tdiv_eq_ediv_of_nonneg, Int.tmod_eq_emod_of_nonneg, *]))
  refine ⟨_, ⟨by_list ?_, rfl⟩, ⟨Nat.le_succ _, fun b hb => gput_lt hb⟩⟩
  rw [digL_step (by omega), digL_step (by omega), digL_one (by omega)]
  simp only [List.append_assoc, List.cons_append, List.nil_append]
  exact List.cons_eq_cons.2 ⟨congrArg UInt8.ofNat (by omega), List.cons_eq_cons.2 ⟨congrArg UInt8.ofNat (by omega), List.cons_eq_cons.2 ⟨congrArg UInt8.ofNat (by omega), rfl⟩⟩⟩
theorem fmt_4 (k : Nat) (h0 : 1000 ≤ k) (h1 : k < 10000) (g : Nat → Option Blk) (n : Nat) (hk : k ≤ 2147483648) (hg : g 1 = some (.cells bP false 0)) (hn : 1 < n) : WC 6 Tryd.prog 68 [.lit (.int .i64 k), .lit (.int .i64 10)] ⟨.fn g, n⟩ fun r => r = .ret (.lit (.string (decB k))) ⟨.fn g, n⟩ := by
  refine WC.drop1 rfl ?_
  have e1 : ¬(k : Int) < 100 := by omega
  have e2 : ¬(k : Int) < 0 := by omega
  have SLO := @smalls_lo
  have SHI := @smalls_hi
  have SSZ := smalls_size
  unfold smallsB at SLO SHI SSZ
  refine WC.enterP (noO_ok _ _) hG6 [] Tryd.func68 rfl (by decide +kernel) (Nat.le_of_ble_eq_true (by kernel_rfl)) ?_
  iterate 20 (all_goals try (first | with_reducible refine splitI (fun h => ?_) (fun h => ?_) | with_reducible refine splitBI (fun h => ?_) (fun h => ?_) | simp (config := { maxSteps := 1000000 }) (disch := first | assumption | omega | (simp; done) | fail) [Tryd.results68, Int.tdiv_eq_ediv_of_nonneg, Int.tmod_eq_emod_of_nonneg, *]))
  refine WC.mono (digits_w k (by omega) hk _ _ (by simp (disch := omega) only [gput_lt]; exact hg) (by omega)) ?_
  rintro _ ⟨nd, hnd, rfl⟩
  have hd3 : nd = 4 := by
    obtain ⟨q1, q2, q3, q4⟩ := hnd
    have hc : nd = 3 ∨ nd = 4 ∨ nd = 5 ∨ nd = 6 ∨ nd = 7 ∨ nd = 8 ∨ nd = 9 ∨ nd = 10 := by omega
    rcases hc with rfl | rfl | rfl | rfl | rfl | rfl | rfl | rfl <;> simp at q3 q4 <;> omega
  clear hnd
  subst hd3
  iterate 20 (all_goals try (first | with_reducible refine splitI (fun h => ?_) (fun h => ?_) | with_reducible refine splitBI (fun h => ?_) (fun h => ?_) | simp (config := { maxSteps := 1000000 }) (disch := first | assumption | omega | (simp; done) | fail) [Tryd.results68, Int.tdiv_eq_ediv_of_nonneg, Int.tmod_eq_emod_of_nonneg, *]))
  refine WC.enterP (noO_ok _ _) hG6 pl73 Tryd.func73 rfl (by decide +kernel) (Nat.le_of_ble_eq_true (by kernel_rfl)) ?_
  iterate 20 (all_goals try (first | with_reducible refine splitI (fun h => ?_) (fun h => ?_) | with_reducible refine splitBI (fun h => ?_) (fun h => ?_) | simp (config := { maxSteps := 1000000 }) (disch := first | assumption | omega | (simp; done) | fail) [Tryd.results73, Int.tdiv_eq_ediv_of_nonneg, Int.tmod_eq_emod_of_nonneg, *]))
  refine LX.roundP (noO_ok _ _) hG6 pl73 (by decide +kernel) ?_
  iterate 20 (all_goals try (first | with_reducible refine splitI (fun h => ?_) (fun h => ?_) | with_reducible refine splitBI (fun h => ?_) (fun h => ?_) | simp (config := { maxSteps := 1000000 }) (disch := first | assumption | omega | (simp; done) | fail) [Tryd.results73, Int.tdiv_eq_ediv_of_nonneg, Int.tmod_eq_emod_of_nonneg, *]))
  refine ⟨_, ⟨by_list ?_, rfl⟩, ⟨Nat.le_succ _, fun b hb => gput_lt hb⟩⟩
  rw [digL_step (by omega), digL_step (by omega), digL_step (by omega), digL_one (by omega)]
  simp only [List.append_assoc, List.cons_append, List.nil_append]
  exact List.cons_eq_cons.2 ⟨congrArg UInt8.ofNat (by omega), List.cons_eq_cons.2 ⟨congrArg UInt8.ofNat (by omega), List.cons_eq_cons.2 ⟨congrArg UInt8.ofNat (by omega), List.cons_eq_cons.2 ⟨congrArg UInt8.ofNat (by omega), rfl⟩⟩⟩⟩
theorem fmt_5 (k : Nat) (h0 : 10000 ≤ k) (h1 : k < 100000) (g : Nat → Option Blk) (n : Nat) (hk : k ≤ 2147483648) (hg : g 1 = some (.cells bP false 0)) (hn : 1 < n) : WC 6 Tryd.prog 68 [.lit (.int .i64 k), .lit (.int .i64 10)] ⟨.fn g, n⟩ fun r => r = .ret (.lit (.string (decB k))) ⟨.fn g, n⟩ := by
  refine WC.drop1 rfl ?_
  have e1 : ¬(k : Int) < 100 := by omega
  have e2 : ¬(k : Int) < 0 := by omega
  have SLO := @smalls_lo
  have SHI := @smalls_hi
  have SSZ := smalls_size
  unfold smallsB at SLO SHI SSZ
  refine WC.enterP (noO_ok _ _) hG6 [] Tryd.func68 rfl (by decide +kernel) (Nat.le_of_ble_eq_true (by kernel_rfl)) ?_
  iterate 20 (all_goals try (first | with_reducible refine splitI (fun h => ?_) (fun h => ?_) | with_reducible refine splitBI (fun h => ?_) (fun h => ?_) | simp (config := { maxSteps := 1000000 }) (disch := first | assumption | omega | (simp; done) | fail) [Tryd.results68, Int.tdiv_eq_ediv_of_nonneg, Int.tmod_eq_emod_of_nonneg, *]))
  refine WC.mono (digits_w k (by omega) hk _ _ (by simp (disch := omega) only [gput_lt]; exact hg) (by omega)) ?_
  rintro _ ⟨nd, hnd, rfl⟩
  have hd3 : nd = 5 := by
    obtain ⟨q1, q2, q3, q4⟩ := hnd
    have hc : nd = 3 ∨ nd = 4 ∨ nd = 5 ∨ nd = 6 ∨ nd = 7 ∨ nd = 8 ∨ nd = 9 ∨ nd = 10 := by omega
    rcases hc with rfl | rfl | rfl | rfl | rfl | rfl | rfl | rfl <;> simp at q3 q4 <;> omega
  clear hnd
  subst hd3
  iterate 20 (all_goals try (first | with_reducible refine splitI (fun h => ?_) (fun h => ?_) | with_reducible refine splitBI (fun h => ?_) (fun h => ?_) | simp (config := { maxSteps := 1000000 }) (disch := first | assumption | omega | (simp; done) | fail) [Tryd.results68, Int.tdiv_eq_ediv_of_nonneg, Int.tmod_eq_emod_of_nonneg, *]))
  refine WC.enterP (noO_ok _ _) hG6 pl73 Tryd.func73 rfl (by decide +kernel) (Nat.le_of_ble_eq_true (by kernel_rfl)) ?_
  iterate 20 (all_goals try (first | with_reducible refine splitI (fun h => ?_) (fun h => ?_) | with_reducible refine splitBI (fun h => ?_) (fun h => ?_) | simp (config := { maxSteps := 1000000 }) (disch := first | assumption | omega | (simp; done) | fail) [Tryd.results73, Int.tdiv_eq_ediv_of_nonneg, Int.tmod_eq_emod_of_nonneg, *]))
  refine LX.roundP (noO_ok _ _) hG6 pl73 (by decide +kernel) ?_
  iterate 20 (all_goals try (first | with_reducible refine splitI (fun h => ?_) (fun h => ?_) | with_reducible refine splitBI (fun h => ?_) (fun h => ?_) | simp (config := { maxSteps := 1000000 }) (disch := first | assumption | omega | (simp; done) | fail) [Tryd.results73, Int.tdiv_eq_ediv_of_nonneg, Int.tmod_eq_emod_of_nonneg, *]))
  refine ⟨_, ⟨by_list ?_, rfl⟩, ⟨Nat.le_succ _, fun b hb => gput_lt hb⟩⟩
  rw [digL_step (by omega), digL_step (by omega), digL_step (by omega), digL_step (by omega), digL_one (by omega)]
  simp only [List.append_assoc, List.cons_append, List.nil_append]
  exact List.cons_eq_cons.2 ⟨congrArg UInt8.ofNat (by omega), List.cons_eq_cons.2 ⟨congrArg UInt8.ofNat (by omega), List.cons_eq_cons.2 ⟨congrArg UInt8.ofNat (by omega), List.cons_eq_cons.2 ⟨congrArg UInt8.ofNat (by omega), List.cons_eq_cons.2 ⟨congrArg UInt8.ofNat (by omega), rfl⟩⟩⟩⟩⟩
theorem fmt_6 (k : Nat) (h0 : 100000 ≤ k) (h1 : k < 1000000) (g : Nat → Option Blk) (n : Nat) (hk : k ≤ 2147483648) (hg : g 1 = some (.cells bP false 0)) (hn : 1 < n) : WC 6 Tryd.prog 68 [.lit (.int .i64 k), .lit (.int .i64 10)] ⟨.fn g, n⟩ fun r => r = .ret (.lit (.string (decB k))) ⟨.fn g, n⟩ := by
  refine WC.drop1 rfl ?_
  have e1 : ¬(k : Int) < 100 := by omega
  have e2 : ¬(k : Int) < 0 := by omega
  have SLO := @smalls_lo
  have SHI := @smalls_hi
  have SSZ := smalls_size
  unfold smallsB at SLO SHI SSZ
  refine WC.enterP (noO_ok _ _) hG6 [] Tryd.func68 rfl (by decide +kernel) (Nat.le_of_ble_eq_true (by kernel_rfl)) ?_
  iterate 20 (all_goals try (first | with_reducible refine splitI (fun h => ?_) (fun h => ?_) | with_reducible refine splitBI (fun h => ?_) (fun h => ?_) | simp (config := { maxSteps := 1000000 }) (disch := first | assumption | omega | (simp; done) | fail) [Tryd.results68, Int.tdiv_eq_ediv_of_nonneg, Int.tmod_eq_emod_of_nonneg, *]))
  refine WC.mono (digits_w k (by omega) hk _ _ (by simp (disch := omega) only [gput_lt]; exact hg) (by omega)) ?_
  rintro _ ⟨nd, hnd, rfl⟩
  have hd3 : nd = 6 := by
    obtain ⟨q1, q2, q3, q4⟩ := hnd
    have hc : nd = 3 ∨ nd = 4 ∨ nd = 5 ∨ nd = 6 ∨ nd = 7 ∨ nd = 8 ∨ nd = 9 ∨ nd = 10 := by omega
    rcases hc with rfl | rfl | rfl | rfl | rfl | rfl | rfl | rfl <;> simp at q3 q4 <;> omega
  clear hnd
  subst hd3
  iterate 20 (all_goals try (first | with_reducible refine splitI (fun h => ?_) (fun h => ?_) | with_reducible refine splitBI (fun h => ?_) (fun h => ?_) | simp (config := { maxSteps := 1000000 }) (disch := first | assumption | omega | (simp; done) | fail) [Tryd.results68, Int.tdiv_eq_ediv_of_nonneg, Int.tmod_eq_emod_of_nonneg, *]))
  refine WC.enterP (noO_ok _ _) hG6 pl73 Tryd.func73 rfl (by decide +kernel) (Nat.le_of_ble_eq_true (by kernel_rfl)) ?_
  iterate 20 (all_goals try (first | with_reducible refine splitI (fun h => ?_) (fun h => ?_) | with_reducible refine splitBI (fun h => ?_) (fun h => ?_) | simp (config := { maxSteps := 1000000 }) (disch := first | assumption | omega | (simp; done) | fail) [Tryd.results73, Int.tdiv_eq_ediv_of_nonneg, Int.tmod_eq_emod_of_nonneg, *]))
  refine LX.roundP (noO_ok _ _) hG6 pl73 (by decide +kernel) ?_
  iterate 20 (all_goals try (first | with_reducible refine splitI (fun h => ?_) (fun h => ?_) | with_reducible refine splitBI (fun h => ?_) (fun h => ?_) | simp (config := { maxSteps := 1000000 }) (disch := first | assumption | omega | (simp; done) | fail) [Tryd.results73, Int.tdiv_eq_ediv_of_nonneg, Int.tmod_eq_emod_of_nonneg, *]))
  refine ⟨_, ⟨by_list ?_, rfl⟩, ⟨Nat.le_succ _, fun b hb => gput_lt hb⟩⟩
  rw [digL_step (by omega), digL_step (by omega), digL_step (by omega), digL_step (by omega), digL_step (by omega), digL_one (by omega)]
  simp only [List.append_assoc, List.cons_append, List.nil_append]
  exact List.cons_eq_cons.2 ⟨congrArg UInt8.ofNat (by omega), List.cons_eq_cons.2 ⟨congrArg UInt8.ofNat (by omega), List.cons_eq_cons.2 ⟨congrArg UInt8.ofNat (by omega), List.cons_eq_cons.2 ⟨congrArg UInt8.ofNat (by omega), List.cons_eq_cons.2 ⟨congrArg UInt8.ofNat (by omega), List.cons_eq_cons.2 ⟨congrArg UInt8.ofNat (by omega), rfl⟩⟩⟩⟩⟩⟩
theorem fmt_7 (k : Nat) (h0 : 1000000 ≤ k) (h1 : k < 10000000) (g : Nat → Option Blk) (n : Nat) (hk : k ≤ 2147483648) (hg : g 1 = some (.cells bP false 0)) (hn : 1 < n) : WC 6 Tryd.prog 68 [.lit (.int .i64 k), .lit (.int .i64 10)] ⟨.fn g, n⟩ fun r => r = .ret (.lit (.string (decB k))) ⟨.fn g, n⟩ := by
  refine WC.drop1 rfl ?_
  have e1 : ¬(k : Int) < 100 := by omega
  have e2 : ¬(k : Int) < 0 := by omega
  have SLO := @smalls_lo
  have SHI := @smalls_hi
  have SSZ := smalls_size
  unfold smallsB at SLO SHI SSZ
  refine WC.enterP (noO_ok _ _) hG6 [] Tryd.func68 rfl (by decide +kernel) (Nat.le_of_ble_eq_true (by kernel_rfl)) ?_
  iterate 20 (all_goals try (first | with_reducible refine splitI (fun h => ?_) (fun h => ?_) | with_reducible refine splitBI (fun h => ?_) (fun h => ?_) | simp (config := { maxSteps := 1000000 }) (disch := first | assumption | omega | (simp; done) | fail) [Tryd.results68, Int.tdiv_eq_ediv_of_nonneg, Int.tmod_eq_emod_of_nonneg, *]))
  refine WC.mono (digits_w k (by omega) hk _ _ (by simp (disch := omega) only [gput_lt]; exact hg) (by omega)) ?_
  rintro _ ⟨nd, hnd, rfl⟩
  have hd3 : nd = 7 := by
    obtain ⟨q1, q2, q3, q4⟩ := hnd
    have hc : nd = 3 ∨ nd = 4 ∨ nd = 5 ∨ nd = 6 ∨ nd = 7 ∨ nd = 8 ∨ nd = 9 ∨ nd = 10 := by omega
    rcases hc with rfl | rfl | rfl | rfl | rfl | rfl | rfl | rfl <;> simp at q3 q4 <;> omega
  clear hnd
  subst hd3
  iterate 20 (all_goals try (first | with_reducible refine splitI (fun h => ?_) (fun h => ?_) | with_reducible refine splitBI (fun h => ?_) (fun h => ?_) | simp (config := { maxSteps := 1000000 }) (disch := first | assumption | omega | (simp; done) | fail) [Tryd.results68, Int.tdiv_eq_ediv_of_nonneg, Int.tmod_eq_emod_of_nonneg, *]))
  refine WC.enterP (noO_ok _ _) hG6 pl73 Tryd.func73 rfl (by decide +kernel) (Nat.le_of_ble_eq_true (by kernel_rfl)) ?_
  iterate 20 (all_goals try (first | with_reducible refine splitI (fun h => ?_) (fun h => ?_) | with_reducible refine splitBI (fun h => ?_) (fun h => ?_) | simp (config := { maxSteps := 1000000 }) (disch := first | assumption | omega | (simp; done) | fail) [Tryd.results73, Int.tdiv_eq_ediv_of_nonneg, Int.tmod_eq_emod_of_nonneg, *]))
  refine LX.roundP (noO_ok _ _) hG6 pl73 (by decide +kernel) ?_
  iterate 20 (all_goals try (first | with_reducible refine splitI (fun h => ?_) (fun h => ?_) | with_reducible refine splitBI (fun h => ?_) (fun h => ?_) | simp (config := { maxSteps := 1000000 }) (disch := first | assumption | omega | (simp; done) | fail) [Tryd.results73, Int.tdiv_eq_ediv_of_nonneg, Int.tmod_eq_emod_of_nonneg, *]))
  refine ⟨_, ⟨by_list ?_, rfl⟩, ⟨Nat.le_succ _, fun b hb => gput_lt hb⟩⟩
  rw [digL_step (by omega), digL_step (by omega), digL_step (by omega), digL_step (by omega), digL_step (by omega), digL_step (by omega), digL_one (by omega)]
  simp only [List.append_assoc, List.cons_append, List.nil_append]
  exact List.cons_eq_cons.2 ⟨congrArg UInt8.ofNat (by omega), List.cons_eq_cons.2 ⟨congrArg UInt8.ofNat (by omega), List.cons_eq_cons.2 ⟨congrArg UInt8.ofNat (by omega), List.cons_eq_cons.2 ⟨congrArg UInt8.ofNat (by omega), List.cons_eq_cons.2 ⟨congrArg UInt8.ofNat (by omega), List.cons_eq_cons.2 ⟨congrArg UInt8.ofNat (by omega), List.cons_eq_cons.2 ⟨congrArg UInt8.ofNat (by omega), rfl⟩⟩⟩⟩⟩⟩⟩
theorem fmt_8 (k : Nat) (h0 : 10000000 ≤ k) (h1 : k < 100000000) (g : Nat → Option Blk) (n : Nat) (hk : k ≤ 2147483648) (hg : g 1 = some (.cells bP false 0)) (hn : 1 < n) : WC 6 Tryd.prog 68 [.lit (.int .i64 k), .lit (.int .i64 10)] ⟨.fn g, n⟩ fun r => r = .ret (.lit (.string (decB k))) ⟨.fn g, n⟩ := by
  refine WC.drop1 rfl ?_
  have e1 : ¬(k : Int) < 100 := by omega
  have e2 : ¬(k : Int) < 0 := by omega
  have SLO := @smalls_lo
  have SHI := @smalls_hi
  have SSZ := smalls_size
  unfold smallsB at SLO SHI SSZ
  refine WC.enterP (noO_ok _ _) hG6 [] Tryd.func68 rfl (by decide +kernel) (Nat.le_of_ble_eq_true (by kernel_rfl)) ?_
  iterate 20 (all_goals try (first | with_reducible refine splitI (fun h => ?_) (fun h => ?_) | with_reducible refine splitBI (fun h => ?_) (fun h => ?_) | simp (config := { maxSteps := 1000000 }) (disch := first | assumption | omega | (simp; done) | fail) [Tryd.results68, Int.tdiv_eq_ediv_of_nonneg, Int.tmod_eq_emod_of_nonneg, *]))
  refine WC.mono (digits_w k (by omega) hk _ _ (by simp (disch := omega) only [gput_lt]; exact hg) (by omega)) ?_
  rintro _ ⟨nd, hnd, rfl⟩
  have hd3 : nd = 8 := by
    obtain ⟨q1, q2, q3, q4⟩ := hnd
    have hc : nd = 3 ∨ nd = 4 ∨ nd = 5 ∨ nd = 6 ∨ nd = 7 ∨ nd = 8 ∨ nd = 9 ∨ nd = 10 := by omega
    rcases hc with rfl | rfl | rfl | rfl | rfl | rfl | rfl | rfl <;> simp at q3 q4 <;> omega
  clear hnd
  subst hd3
  iterate 20 (all_goals try (first | with_reducible refine splitI (fun h => ?_) (fun h => ?_) | with_reducible refine splitBI (fun h => ?_) (fun h => ?_) | simp (config := { maxSteps := 1000000 }) (disch := first | assumption | omega | (simp; done) | fail) [Tryd.results68, Int.tdiv_eq_ediv_of_nonneg, Int.tmod_eq_emod_of_nonneg, *]))
  refine WC.enterP (noO_ok _ _) hG6 pl73 Tryd.func73 rfl (by decide +kernel) (Nat.le_of_ble_eq_true (by kernel_rfl)) ?_
  iterate 20 (all_goals try (first | with_reducible refine splitI (fun h => ?_) (fun h => ?_) | with_reducible refine splitBI (fun h => ?_) (fun h => ?_) | simp (config := { maxSteps := 1000000 }) (disch := first | assumption | omega | (simp; done) | fail) [Tryd.results73, Int.tdiv_eq_ediv_of_nonneg, Int.tmod_eq_emod_of_nonneg, *]))
  refine LX.roundP (noO_ok _ _) hG6 pl73 (by decide +kernel) ?_
  iterate 20 (all_goals try (first | with_reducible refine splitI (fun h => ?_) (fun h => ?_) | with_reducible refine splitBI (fun h => ?_) (fun h => ?_) | simp (config := { maxSteps := 1000000 }) (disch := first | assumption | omega | (simp; done) | fail) [Tryd.results73, Int.tdiv_eq_ediv_of_nonneg, Int.tmod_eq_emod_of_nonneg, *]))
  refine LX.roundP (noO_ok _ _) hG6 pl73 (by decide +kernel) ?_
  iterate 20 (all_goals try (first | with_reducible refine splitI (fun h => ?_) (fun h => ?_) | with_reducible refine splitBI (fun h => ?_) (fun h => ?_) | simp (config := { maxSteps := 1000000 }) (disch := first | assumption | omega | (simp; done) | fail) [Tryd.results73, Int.tdiv_eq_ediv_of_nonneg, Int.tmod_eq_emod_of_nonneg, *]))
  refine ⟨_, ⟨by_list ?_, rfl⟩, ⟨Nat.le_succ _, fun b hb => gput_lt hb⟩⟩
  rw [digL_step (by omega), digL_step (by omega), digL_step (by omega), digL_step (by omega), digL_step (by omega), digL_step (by omega), digL_step (by omega), digL_one (by omega)]
  simp only [List.append_assoc, List.cons_append, List.nil_append]
  exact List.cons_eq_cons.2 ⟨congrArg UInt8.ofNat (by omega), List.cons_eq_cons.2 ⟨congrArg UInt8.ofNat (by omega), List.cons_eq_cons.2 ⟨congrArg UInt8.ofNat (by omega), List.cons_eq_cons.2 ⟨congrArg UInt8.ofNat (by omega), List.cons_eq_cons.2 ⟨congrArg UInt8.ofNat (by omega), List.cons_eq_cons.2 ⟨congrArg UInt8.ofNat (by omega), List.cons_eq_cons.2 ⟨congrArg UInt8.ofNat (by omega), List.cons_eq_cons.2 ⟨congrArg UInt8.ofNat (by omega), rfl⟩⟩⟩⟩⟩⟩⟩⟩
theorem fmt_9 (k : Nat) (h0 : 100000000 ≤ k) (h1 : k < 1000000000) (g : Nat → Option Blk) (n : Nat) (hk : k ≤ 2147483648) (hg : g 1 = some (.cells bP false 0)) (hn : 1 < n) : WC 6 Tryd.prog 68 [.lit (.int .i64 k), .lit (.int .i64 10)] ⟨.fn g, n⟩ fun r => r = .ret (.lit (.string (decB k))) ⟨.fn g, n⟩ := by
  refine WC.drop1 rfl ?_
  have e1 : ¬(k : Int) < 100 := by omega
  have e2 : ¬(k : Int) < 0 := by omega
  have SLO := @smalls_lo
  have SHI := @smalls_hi
  have SSZ := smalls_size
  unfold smallsB at SLO SHI SSZ
  refine WC.enterP (noO_ok _ _) hG6 [] Tryd.func68 rfl (by decide +kernel) (Nat.le_of_ble_eq_true (by kernel_rfl)) ?_
  iterate 20 (all_goals try (first | with_reducible refine splitI (fun h => ?_) (fun h => ?_) | with_reducible refine splitBI (fun h => ?_) (fun h => ?_) | simp (config := { maxSteps := 1000000 }) (disch := first | assumption | omega | (simp; done) | fail) [Tryd.results68, Int.tdiv_eq_ediv_of_nonneg, Int.tmod_eq_emod_of_nonneg, *]))
  refine WC.mono (digits_w k (by omega) hk _ _ (by simp (disch := omega) only [gput_lt]; exact hg) (by omega)) ?_
  rintro _ ⟨nd, hnd, rfl⟩
  have hd3 : nd = 9 := by
    obtain ⟨q1, q2, q3, q4⟩ := hnd
    have hc : nd = 3 ∨ nd = 4 ∨ nd = 5 ∨ nd = 6 ∨ nd = 7 ∨ nd = 8 ∨ nd = 9 ∨ nd = 10 := by omega
    rcases hc with rfl | rfl | rfl | rfl | rfl | rfl | rfl | rfl <;> simp at q3 q4 <;> omega
  clear hnd
  subst hd3
  iterate 20 (all_goals try (first | with_reducible refine splitI (fun h => ?_) (fun h => ?_) | with_reducible refine splitBI (fun h => ?_) (fun h => ?_) | simp (config := { maxSteps := 1000000 }) (disch := first | assumption | omega | (simp; done) | fail) [Tryd.results68, Int.tdiv_eq_ediv_of_nonneg, Int.tmod_eq_emod_of_nonneg, *]))
  refine WC.enterP (noO_ok _ _) hG6 pl73 Tryd.func73 rfl (by decide +kernel) (Nat.le_of_ble_eq_true (by kernel_rfl)) ?_
  iterate 20 (all_goals try (first | with_reducible refine splitI (fun h => ?_) (fun h => ?_) | with_reducible refine splitBI (fun h => ?_) (fun h => ?_) | simp (config := { maxSteps := 1000000 }) (disch := first | assumption | omega | (simp; done) | fail) [Tryd.results73, Int.tdiv_eq_ediv_of_nonneg, Int.tmod_eq_emod_of_nonneg, *]))
  refine LX.roundP (noO_ok _ _) hG6 pl73 (by decide +kernel) ?_
  iterate 20 (all_goals try (first | with_reducible refine splitI (fun h => ?_) (fun h => ?_) | with_reducible refine splitBI (fun h => ?_) (fun h => ?_) | simp (config := { maxSteps := 1000000 }) (disch := first | assumption | omega | (simp; done) | fail) [Tryd.results73, Int.tdiv_eq_ediv_of_nonneg, Int.tmod_eq_emod_of_nonneg, *]))
  refine LX.roundP (noO_ok _ _) hG6 pl73 (by decide +kernel) ?_
  iterate 20 (all_goals try (first | with_reducible refine splitI (fun h => ?_) (fun h => ?_) | with_reducible refine splitBI (fun h => ?_) (fun h => ?_) | simp (config := { maxSteps := 1000000 }) (disch := first | assumption | omega | (simp; done) | fail) [Tryd.results73, Int.tdiv_eq_ediv_of_nonneg, Int.tmod_eq_emod_of_nonneg, *]))
  refine ⟨_, ⟨by_list ?_, rfl⟩, ⟨Nat.le_succ _, fun b hb => gput_lt hb⟩⟩
  rw [digL_step (by omega), digL_step (by omega), digL_step (by omega), digL_step (by omega), digL_step (by omega), digL_step (by omega), digL_step (by omega), digL_step (by omega), digL_one (by omega)]
  simp only [List.append_assoc, List.cons_append, List.nil_append]
  exact List.cons_eq_cons.2 ⟨congrArg UInt8.ofNat (by omega), List.cons_eq_cons.2 ⟨congrArg UInt8.ofNat (by omega), List.cons_eq_cons.2 ⟨congrArg UInt8.ofNat (by omega), List.cons_eq_cons.2 ⟨congrArg UInt8.ofNat (by omega), List.cons_eq_cons.2 ⟨congrArg UInt8.ofNat (by omega), List.cons_eq_cons.2 ⟨congrArg UInt8.ofNat (by omega), List.cons_eq_cons.2 ⟨congrArg UInt8.ofNat (by omega), List.cons_eq_cons.2 ⟨congrArg UInt8.ofNat (by omega), List.cons_eq_cons.2 ⟨congrArg UInt8.ofNat (by omega), rfl⟩⟩⟩⟩⟩⟩⟩⟩⟩
theorem fmt_10 (k : Nat) (h0 : 1000000000 ≤ k) (h1 : k < 10000000000) (g : Nat → Option Blk) (n : Nat) (hk : k ≤ 2147483648) (hg : g 1 = some (.cells bP false 0)) (hn : 1 < n) : WC 6 Tryd.prog 68 [.lit (.int .i64 k), .lit (.int .i64 10)] ⟨.fn g, n⟩ fun r => r = .ret (.lit (.string (decB k))) ⟨.fn g, n⟩ := by
  refine WC.drop1 rfl ?_
  have e1 : ¬(k : Int) < 100 := by omega
  have e2 : ¬(k : Int) < 0 := by omega
  have SLO := @smalls_lo
  have SHI := @smalls_hi
  have SSZ := smalls_size
  unfold smallsB at SLO SHI SSZ
  refine WC.enterP (noO_ok _ _) hG6 [] Tryd.func68 rfl (by decide +kernel) (Nat.le_of_ble_eq_true (by kernel_rfl)) ?_
  iterate 20 (all_goals try (first | with_reducible refine splitI (fun h => ?_) (fun h => ?_) | with_reducible refine splitBI (fun h => ?_) (fun h => ?_) | simp (config := { maxSteps := 1000000 }) (disch := first | assumption | omega | (simp; done) | fail) [Tryd.results68, Int.tdiv_eq_ediv_of_nonneg, Int.tmod_eq_emod_of_nonneg, *]))
  refine WC.mono (digits_w k (by omega) hk _ _ (by simp (disch := omega) only [gput_lt]; exact hg) (by omega)) ?_
  rintro _ ⟨nd, hnd, rfl⟩
  have hd3 : nd = 10 := by
    obtain ⟨q1, q2, q3, q4⟩ := hnd
    have hc : nd = 3 ∨ nd = 4 ∨ nd = 5 ∨ nd = 6 ∨ nd = 7 ∨ nd = 8 ∨ nd = 9 ∨ nd = 10 := by omega
    rcases hc with rfl | rfl | rfl | rfl | rfl | rfl | rfl | rfl <;> simp at q3 q4 <;> omega
  clear hnd
  subst hd3
  iterate 20 (all_goals try (first | with_reducible refine splitI (fun h => ?_) (fun h => ?_) | with_reducible refine splitBI (fun h => ?_) (fun h => ?_) | simp (config := { maxSteps := 1000000 }) (disch := first | assumption | omega | (simp; done) | fail) [Tryd.results68, Int.tdiv_eq_ediv_of_nonneg, Int.tmod_eq_emod_of_nonneg, *]))
  refine WC.enterP (noO_ok _ _) hG6 pl73 Tryd.func73 rfl (by decide +kernel) (Nat.le_of_ble_eq_true (by kernel_rfl)) ?_
  iterate 20 (all_goals try (first | with_reducible refine splitI (fun h => ?_) (fun h => ?_) | with_reducible refine splitBI (fun h => ?_) (fun h => ?_) | simp (config := { maxSteps := 1000000 }) (disch := first | assumption | omega | (simp; done) | fail) [Tryd.results73, Int.tdiv_eq_ediv_of_nonneg, Int.tmod_eq_emod_of_nonneg, *]))
  refine LX.roundP (noO_ok _ _) hG6 pl73 (by decide +kernel) ?_
  iterate 20 (all_goals try (first | with_reducible refine splitI (fun h => ?_) (fun h => ?_) | with_reducible refine splitBI (fun h => ?_) (fun h => ?_) | simp (config := { maxSteps := 1000000 }) (disch := first | assumption | omega | (simp; done) | fail) [Tryd.results73, Int.tdiv_eq_ediv_of_nonneg, Int.tmod_eq_emod_of_nonneg, *]))
  refine LX.roundP (noO_ok _ _) hG6 pl73 (by decide +kernel) ?_
  iterate 20 (all_goals try (first | with_reducible refine splitI (fun h => ?_) (fun h => ?_) | with_reducible refine splitBI (fun h => ?_) (fun h => ?_) | simp (config := { maxSteps := 1000000 }) (disch := first | assumption | omega | (simp; done) | fail) [Tryd.results73, Int.tdiv_eq_ediv_of_nonneg, Int.tmod_eq_emod_of_nonneg, *]))
  refine ⟨_, ⟨by_list ?_, rfl⟩, ⟨Nat.le_succ _, fun b hb => gput_lt hb⟩⟩
  rw [digL_step (by omega), digL_step (by omega), digL_step (by omega), digL_step (by omega), digL_step (by omega), digL_step (by omega), digL_step (by omega), digL_step (by omega), digL_step (by omega), digL_one (by omega)]
  simp only [List.append_assoc, List.cons_append, List.nil_append]
  exact List.cons_eq_cons.2 ⟨congrArg UInt8.ofNat (by omega), List.cons_eq_cons.2 ⟨congrArg UInt8.ofNat (by omega), List.cons_eq_cons.2 ⟨congrArg UInt8.ofNat (by omega), List.cons_eq_cons.2 ⟨congrArg UInt8.ofNat (by omega), List.cons_eq_cons.2 ⟨congrArg UInt8.ofNat (by omega), List.cons_eq_cons.2 ⟨congrArg UInt8.ofNat (by omega), List.cons_eq_cons.2 ⟨congrArg UInt8.ofNat (by omega), List.cons_eq_cons.2 ⟨congrArg UInt8.ofNat (by omega), List.cons_eq_cons.2 ⟨congrArg UInt8.ofNat (by omega), List.cons_eq_cons.2 ⟨congrArg UInt8.ofNat (by omega), rfl⟩⟩⟩⟩⟩⟩⟩⟩⟩⟩
theorem fmt_w (k : Nat) (hk : k ≤ 2147483648) (g : Nat → Option Blk) (n : Nat) (hg : g 1 = some (.cells bP false 0)) (hn : 1 < n) : WC 6 Tryd.prog 68 [.lit (.int .i64 k), .lit (.int .i64 10)] ⟨.fn g, n⟩ fun r => r = .ret (.lit (.string (decB k))) ⟨.fn g, n⟩ := by
  by_cases c2 : k < 100
  · have e1 : (k : Int) < 100 := by omega
    refine WC.enterP (noO_ok _ _) hG6 [] Tryd.func68 rfl (by decide +kernel) (Nat.le_of_ble_eq_true (by kernel_rfl)) ?_
    iterate 12 (all_goals try (first | with_reducible refine splitI (fun h => ?_) (fun h => ?_) | with_reducible refine splitBI (fun h => ?_) (fun h => ?_) | simp (disch := first | assumption | omega | (simp; done) | fail) [Tryd.results68, *]))
    refine WC.mono (small_w71 k c2 _) ?_
    rintro _ rfl
    iterate 12 (all_goals try (first | with_reducible refine splitI (fun h => ?_) (fun h => ?_) | with_reducible refine splitBI (fun h => ?_) (fun h => ?_) | simp (disch := first | assumption | omega | (simp; done) | fail) [Tryd.results68, *]))
  by_cases c3 : k < 1000
  · exact fmt_3 k (by omega) c3 g n hk hg hn
  by_cases c4 : k < 10000
  · exact fmt_4 k (by omega) c4 g n hk hg hn
  by_cases c5 : k < 100000
  · exact fmt_5 k (by omega) c5 g n hk hg hn
  by_cases c6 : k < 1000000
  · exact fmt_6 k (by omega) c6 g n hk hg hn
  by_cases c7 : k < 10000000
  · exact fmt_7 k (by omega) c7 g n hk hg hn
  by_cases c8 : k < 100000000
  · exact fmt_8 k (by omega) c8 g n hk hg hn
  by_cases c9 : k < 1000000000
  · exact fmt_9 k (by omega) c9 g n hk hg hn
  exact fmt_10 k (by omega) (by omega) g n hk hg hn
/-- WRITING A NUMBER. -/
theorem itoa_ok : ItoaOK := by
  intro k hk g n hg hn
  refine WC.enterP (noO_ok _ _) hG6 [] Tryd.func53 rfl (by decide +kernel) (Nat.le_of_ble_eq_true (by kernel_rfl)) ?_
  iterate 12 (all_goals try (first | with_reducible refine splitI (fun h => ?_) (fun h => ?_) | with_reducible refine splitBI (fun h => ?_) (fun h => ?_) | simp (disch := first | assumption | omega | (simp; done) | fail) [Tryd.results53, *]))
  refine WC.enterP (noO_ok _ _) hG6 [] Tryd.func64 rfl (by decide +kernel) (Nat.le_of_ble_eq_true (by kernel_rfl)) ?_
  iterate 12 (all_goals try (first | with_reducible refine splitI (fun h => ?_) (fun h => ?_) | with_reducible refine splitBI (fun h => ?_) (fun h => ?_) | simp (disch := first | assumption | omega | (simp; done) | fail) [Tryd.results64, *]))
  refine WC.mono (fmt_w k hk g n hg hn) ?_
  rintro _ rfl
  iterate 12 (all_goals try (first | with_reducible refine splitI (fun h => ?_) (fun h => ?_) | with_reducible refine splitBI (fun h => ?_) (fun h => ?_) | simp (disch := first | assumption | omega | (simp; done) | fail) [Tryd.results64, *]))
end Go.Ai
end

section
namespace Go.Ai
open Go.Proofs
set_option maxRecDepth 10000
set_option maxHeartbeats 4000000
theorem varsM_short : ∀ (l : List VarM) (seen : List ByteArray), varsM seen l = true → shortV l
  | [], _, _ => fun v hv => by cases hv
  | x :: l, seen, h => by
    simp only [varsM, Bool.and_eq_true] at h
    intro v hv
    rcases List.mem_cons.1 hv with rfl | hv
    · have h1 := h.1.1
      simp only [VarM.ok, namedM, Bool.and_eq_true, decide_eq_true_eq] at h1
      have := h1.1.1.1.1.1.1.2
      omega
    · exact varsM_short l _ h.2 v hv
theorem checkVars_short {vs : List VarM} (h : checkVarsM vs = 0) : shortV vs := by
  unfold checkVarsM at h
  split at h
  · omega
  · split at h
    · rename_i h2; exact varsM_short vs [] h2
    · omega
theorem checkM_vars {vs : List VarM} {x : NodeM} (h : checkM vs x = 0) : checkVarsM vs = 0 := by
  unfold checkM at h
  split at h
  · rename_i h1; exact absurd h h1
  · rename_i h1; simpa using h1
theorem rank_pos (op : Nat) : ¬rankM op < 0 := by
  unfold rankM
  repeat' split
  all_goals omega
def textTop (vs : List VarM) (x : NodeM) : ByteArray × Int := if checkM vs x ≠ 0 then (⟨#[]⟩, checkM vs x) else (textM vs x, 0)
theorem Text_w (vs : List VarM) (x : NodeM) (g : Nat → Option Blk) (n : Nat) (sv : AV) (cs : List AV) (hg : g 0 = some opsB) (hgp : g 1 = some (.cells bP false 0)) (hn0 : 1 < n) (hsv : SliceV g n sv vs.length (vs.flatMap VarM.cells)) (hn : vs.length ≤ 1000000) (hx : sizeN x ≤ 1000000) (hrep : repN g n x cs) :
    WC 6 Tryd.prog 11 [sv, .agg cs] ⟨.fn g, n⟩ fun r => r = .ret (.tup [.lit (.string (textTop vs x).1), .lit (.int .i64 (textTop vs x).2)]) ⟨.fn g, n⟩ := by
  refine WC.drop1 rfl ?_
  generalize hret : textTop vs x = ret
  have HRET := Hide.mk hret
  clear hret
  obtain ⟨k2, sv2, hcy, h1c, hop2⟩ := repN_op hrep
  subst hcy
  have h1a : allOne [.lit (.int .u8 x.op), .lit (.int .i64 k2), sv2] = true := by simp [h1c]
  have HSV := Hide.mk hsv
  have HREP := Hide.mk hrep
  clear hsv hrep
  refine WC.enterP (noO_ok _ _) hG6 [] Tryd.func11 rfl (by decide +kernel) (Nat.le_of_ble_eq_true (by kernel_rfl)) ?_
  iterate 12 (all_goals try (first | with_reducible refine splitI (fun h => ?_) (fun h => ?_) | with_reducible refine splitBI (fun h => ?_) (fun h => ?_) | simp (disch := first | assumption | omega | (simp; done) | fail) [Tryd.results11, *]))
  refine WC.mono (check_w vs x _ _ _ _ (by simp (disch := omega) only [gput_lt]; exact hg) (by omega) (HSV.out.mono (by omega) (fun a ha => by simp (disch := omega) only [gput_lt])) hn hx (repN_mono (by omega) (fun a ha => by simp (disch := omega) only [gput_lt]) HREP.out)) ?_
  rintro _ rfl
  by_cases hck : checkM vs x = 0
  · have hr : ret = (textM vs x, 0) := by rw [← HRET.out, textTop, if_neg (by rw [hck]; simp)]
    have hsh := checkM_ok hck
    have hshort := checkVars_short (checkM_vars hck)
    rw [hck]
    have HW := Hide.mk (fun g n h1 h2 h3 h4 h5 => write_w itoa_ok vs hshort hn 1000000 (Nat.le_refl _) x hx g n sv [.lit (.int .u8 x.op), .lit (.int .i64 k2), sv2] 0 h1 h2 h3 h4 h5 hsh)
    have hp : parM (textM vs x) (rankM x.op) 0 = textM vs x := by unfold parM; rw [if_neg (rank_pos x.op)]
    rw [hp] at HW
    subst hr
    clear hck hp hsh hshort HRET
    iterate 12 (all_goals try (first | with_reducible refine splitI (fun h => ?_) (fun h => ?_) | with_reducible refine splitBI (fun h => ?_) (fun h => ?_) | simp (disch := first | assumption | omega | (simp; done) | fail) [Tryd.results11, *]))
    refine WC.mono (HW.out _ _ (by simp (disch := omega) only [gput_lt]; exact hg) (by simp (disch := omega) only [gput_lt]; exact hgp) (by omega) (repN_mono (by omega) (fun a ha => by simp (disch := omega) only [gput_lt]) HREP.out) (HSV.out.mono (by omega) (fun a ha => by simp (disch := omega) only [gput_lt]))) ?_
    rintro _ rfl
    iterate 12 (all_goals try (first | with_reducible refine splitI (fun h => ?_) (fun h => ?_) | with_reducible refine splitBI (fun h => ?_) (fun h => ?_) | simp (disch := first | assumption | omega | (simp; done) | fail) [Tryd.results11, *]))
    all_goals exact ⟨Nat.le_succ _, fun b hb => gput_lt hb⟩
  · have hr : ret = (⟨#[]⟩, checkM vs x) := by rw [← HRET.out, textTop, if_pos hck]
    generalize checkM vs x = ck at hck hr
    subst hr
    iterate 12 (all_goals try (first | with_reducible refine splitI (fun h => ?_) (fun h => ?_) | with_reducible refine splitBI (fun h => ?_) (fun h => ?_) | simp (disch := first | assumption | omega | (simp; done) | fail) [Tryd.results11, *]))
    all_goals exact ⟨Nat.le_succ _, fun b hb => gput_lt hb⟩
end Go.Ai
end
