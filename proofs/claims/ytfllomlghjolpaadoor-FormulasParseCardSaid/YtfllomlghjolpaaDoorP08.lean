/- A small verified interpreter over names, its proofs, and what was proved with it. No condition. -/
import Derived.Test.YtfllomlghjolpaaDoorP07
set_option linter.all false
set_option linter.deprecated false
section
namespace Go.Ai
open Go.Proofs
set_option maxRecDepth 10000
set_option maxHeartbeats 40000000
theorem if_144 : ifaceT Tryd.prog 144 = true := by kernel_rfl
attribute [simp] if_144
/-- A parser in memory. -/
def parB (s : ByteArray) (k : Nat) : Blk := .cells [.lit (.string s), .lit (.string (tokB s k)), .lit (.int .i64 (k : Nat))] true 0
structure PAt (s : ByteArray) (p : Nat) (g : Nat → Option Blk) (n k : Nat) : Prop where
  ops : g 0 = some opsB
  pw : g 1 = some (.cells bP false 0)
  e2 : g 2 = some (.cells bX false 0)
  e3 : g 3 = some (.cells bY false 0)
  p0 : 3 < p
  pn : p < n
  cell : g p = some (parB s k)
  le : k ≤ s.size
theorem PAt.step {s : ByteArray} {p n n' k k' : Nat} {g g' : Nat → Option Blk} (h : PAt s p g n k) (hn : n ≤ n') (hg : ∀ a, a < n → a ≠ p → g' a = g a) (hc : g' p = some (parB s k')) (hk : k' ≤ s.size) : PAt s p g' n' k' := by
  have h1 := h.p0
  have h2 := h.pn
  exact ⟨(hg 0 (by omega) (by omega)).trans h.ops, (hg 1 (by omega) (by omega)).trans h.pw, (hg 2 (by omega) (by omega)).trans h.e2, (hg 3 (by omega) (by omega)).trans h.e3, h1, by omega, hc, hk⟩
theorem PAt.keep {s : ByteArray} {p n n' k : Nat} {g g' : Nat → Option Blk} (h : PAt s p g n k) (hn : n ≤ n') (hg : ∀ a, a < n → g' a = g a) : PAt s p g' n' k :=
  h.step hn (fun a ha _ => hg a ha) ((hg p h.pn).trans h.cell) h.le
theorem next_par {s : ByteArray} {p n k : Nat} {g : Nat → Option Blk} (h : PAt s p g n k) (hs : s.size ≤ 1000000) : WC 6 Tryd.prog 41 [.ptr p 0] ⟨.fn g, n⟩ fun r => ∃ g' n', r = .ret (.tup []) ⟨.fn g', n'⟩ ∧ n ≤ n' ∧ (∀ a, a < n → a ≠ p → g' a = g a) ∧ g' p = some (parB s (nxtM s k)) :=
  next_w s (tokB s k) k p g n hs h.cell h.pn (tok_le h.le)
theorem tok_at {s : ByteArray} {k j : Nat} (hk : k < s.size) (h : j < (tokB s k).size) : bAt (tokB s k) j = bAt s (k + j) := by
  rw [tok_size hk] at h
  unfold tokB
  rw [if_neg (by omega)]
  exact bAt_extract h (tokN_le hk).2
theorem tok_minus {s : ByteArray} {k : Nat} (hk : k ≤ s.size) (h : bAt (tokB s k) 0 = 45) : (tokB s k).size ≤ 1 := by
  by_cases h1 : k = s.size
  · rw [(tok_empty hk).2 h1]; decide
  · have h2 := tok_size (s := s) (k := k) (by omega)
    have h3 := tokN_le (s := s) (k := k) (by omega)
    rw [tok_at (by omega) (by omega), Nat.add_zero] at h
    rw [h2]
    unfold tokN
    rw [h, if_neg (by decide), if_neg (by decide)]
    exact Nat.le_refl 1
theorem atoi_pos {t : ByteArray} {v : Int} (h : Lib.atoiAll t.data.toList = .ok v) (ht : bAt t 0 = 45 → t.size ≤ 1) : 0 ≤ v := by
  have hsz := tl_len t
  cases hl : t.data.toList with
  | nil => rw [hl] at h; cases h
  | cons c r =>
    rw [hl] at h hsz
    by_cases h45 : c.toNat = 45
    · have h0 : 0 < t.size := by rw [← hsz]; simp
      have hb : bAt t 0 = 45 := by
        rw [bAt_list h0]
        simp only [hl, List.getElem_cons_zero, h45]
        rfl
      have h1 := ht hb
      have hr : r = [] := by
        rw [← hsz, List.length_cons] at h1
        exact List.length_eq_zero_iff.1 (by omega)
      subst hr
      exfalso
      unfold Lib.atoiAll at h
      dsimp only at h
      rw [if_pos (.inr h45)] at h
      cases h
    · unfold Lib.atoiAll at h
      dsimp only at h
      split at h
      · cases h
      · cases h
      · rename_i u e
        simp only [h45, not_false_eq_true, true_and, false_and, if_false] at h
        split at h
        · cases h
        · cases h; omega
theorem take_w {s : ByteArray} {p n k : Nat} {g : Nat → Option Blk} (h : PAt s p g n k) (hs : s.size ≤ 1000000) (t : ByteArray) : WC 6 Tryd.prog 61 [.ptr p 0, .lit (.string t)] ⟨.fn g, n⟩ fun r =>
    (tokB s k = t ∧ ∃ g' n', r = .ret (.lit (.bool true)) ⟨.fn g', n'⟩ ∧ n ≤ n' ∧ (∀ a, a < n → a ≠ p → g' a = g a) ∧ g' p = some (parB s (nxtM s k))) ∨ (¬tokB s k = t ∧ r = .ret (.lit (.bool false)) ⟨.fn g, n⟩) := by
  have hp := h.cell
  have hpn := h.pn
  have HN := Hide.mk (next_par h hs)
  clear h
  unfold parB at hp
  by_cases ht : tokB s k = t
  · have HT := Hide.mk ht
    rw [ht] at hp
    clear ht
    refine WC.enterP (noO_ok _ _) hG [] Tryd.func61 rfl (by decide +kernel) (Nat.le_of_ble_eq_true (by kernel_rfl)) ?_
    iterate 8 (all_goals try (first | with_reducible refine splitI (fun h => ?_) (fun h => ?_) | with_reducible refine splitBI (fun h => ?_) (fun h => ?_) | simp (config := { maxSteps := 1000000 }) (disch := first | assumption | omega | (simp; done) | fail) [Tryd.results61, *]))
    refine WC.mono HN.out ?_
    rintro _ ⟨g', n', rfl, h1, h2, h3⟩
    iterate 8 (all_goals try (first | with_reducible refine splitI (fun h => ?_) (fun h => ?_) | with_reducible refine splitBI (fun h => ?_) (fun h => ?_) | simp (config := { maxSteps := 1000000 }) (disch := first | assumption | omega | (simp; done) | fail) [Tryd.results61, *]))
    exact ⟨HT.out, _, _, ⟨rfl, rfl⟩, h1, h2, h3⟩
  · have ht' := ht
    refine WC.enterP (noO_ok _ _) hG [] Tryd.func61 rfl (by decide +kernel) (Nat.le_of_ble_eq_true (by kernel_rfl)) ?_
    iterate 8 (all_goals try (first | with_reducible refine splitI (fun h => ?_) (fun h => ?_) | with_reducible refine splitBI (fun h => ?_) (fun h => ?_) | simp (config := { maxSteps := 1000000 }) (disch := first | assumption | omega | (simp; done) | fail) [Tryd.results61, *]))
theorem need_w {s : ByteArray} {p n k : Nat} {g : Nat → Option Blk} (h : PAt s p g n k) (hs : s.size ≤ 1000000) (t : ByteArray) : WC 6 Tryd.prog 73 [.ptr p 0, .lit (.string t)] ⟨.fn g, n⟩ fun r =>
    (tokB s k = t ∧ ∃ g' n', r = .ret (.tup []) ⟨.fn g', n'⟩ ∧ n ≤ n' ∧ (∀ a, a < n → a ≠ p → g' a = g a) ∧ g' p = some (parB s (nxtM s k))) ∨ (¬tokB s k = t ∧ r = .panic (.iface 91 (.agg [])) ⟨.fn g, n⟩) := by
  have HT := Hide.mk (take_w h hs t)
  clear h
  refine WC.enterP (noO_ok _ _) hG [] Tryd.func73 rfl (by decide +kernel) (Nat.le_of_ble_eq_true (by kernel_rfl)) ?_
  iterate 8 (all_goals try (first | with_reducible refine splitI (fun h => ?_) (fun h => ?_) | with_reducible refine splitBI (fun h => ?_) (fun h => ?_) | simp (config := { maxSteps := 1000000 }) (disch := first | assumption | omega | (simp; done) | fail) [Tryd.results73, *]))
  refine WC.mono HT.out ?_
  rintro _ (⟨ht, g', n', rfl, h1, h2, h3⟩ | ⟨ht, rfl⟩)
  · have HTT := Hide.mk ht
    clear ht
    iterate 8 (all_goals try (first | with_reducible refine splitI (fun h => ?_) (fun h => ?_) | with_reducible refine splitBI (fun h => ?_) (fun h => ?_) | simp (config := { maxSteps := 1000000 }) (disch := first | assumption | omega | (simp; done) | fail) [Tryd.results73, *]))
    exact ⟨HTT.out, _, _, ⟨rfl, rfl⟩, h1, h2, h3⟩
  · have HTT := Hide.mk ht
    clear ht
    iterate 8 (all_goals try (first | with_reducible refine splitI (fun h => ?_) (fun h => ?_) | with_reducible refine splitBI (fun h => ?_) (fun h => ?_) | simp (config := { maxSteps := 1000000 }) (disch := first | assumption | omega | (simp; done) | fail) [Tryd.results73, *]))
    exact HTT.out
theorem number_w {s : ByteArray} {p n k : Nat} {g : Nat → Option Blk} (h : PAt s p g n k) (hs : s.size ≤ 1000000) : WC 6 Tryd.prog 74 [.ptr p 0] ⟨.fn g, n⟩ fun r =>
    (∃ a g' n', numM (tokB s k) = some a ∧ r = .ret (.lit (.int .i64 (a : Nat))) ⟨.fn g', n'⟩ ∧ n ≤ n' ∧ (∀ a, a < n → a ≠ p → g' a = g a) ∧ g' p = some (parB s (nxtM s k))) ∨ (numM (tokB s k) = none ∧ ∃ g' n', r = .panic (.iface 91 (.agg [])) ⟨.fn g', n'⟩ ∧ n ≤ n' ∧ (∀ a, a < n → g' a = g a)) := by
  have hp := h.cell
  have hpn := h.pn
  have hle := tok_le h.le
  have hmin := tok_minus h.le
  have HN := Hide.mk (fun g n (h : PAt s p g n k) => next_par h hs)
  have HAT := Hide.mk (atoi_w (tokB s k) (by omega) g n h.e2 h.e3 (by have := h.p0; omega))
  have HH := Hide.mk h
  clear h
  unfold parB at hp
  generalize htt : tokB s k = t at hp HAT hmin
  have HTT := Hide.mk htt
  clear htt
  have HY := Hide.mk (fun a (h : numM t = some a) => numM_yes h)
  have HNO := Hide.mk (fun (h : numM t = none) (v : Int) (hv : v < 10000) => numM_no h hmin hv)
  have HPOS := Hide.mk (fun v (h : Lib.atoiAll t.data.toList = .ok v) => atoi_pos h hmin)
  clear hmin
  refine WC.enterP (noO_ok _ _) hG pl74 Tryd.func74 rfl (by decide +kernel) (Nat.le_of_ble_eq_true (by kernel_rfl)) ?_
  iterate 8 (all_goals try (first | with_reducible refine splitI (fun h => ?_) (fun h => ?_) | with_reducible refine splitBI (fun h => ?_) (fun h => ?_) | simp (config := { maxSteps := 1000000 }) (disch := first | assumption | omega | (simp; done) | fail) [Tryd.results74, *]))
  refine WC.mono HAT.out ?_
  rintro _ ⟨v, e, g1, n1, rfl, hn1, hg1, ⟨hat, rfl⟩ | ⟨hat, T, a, o, rfl⟩⟩
  · have HG1 := Hide.mk hg1
    have hv0 := HPOS.out v hat
    obtain ⟨u, rfl⟩ := Int.eq_ofNat_of_zero_le hv0
    have hp1 := (hg1 p hpn).trans hp
    have P1 : PAt s p g1 n1 k := HH.out.keep hn1 hg1
    have HP1 := Hide.mk P1
    have HI := Hide.mk (fun (hu : u < 10000) => itoa_w u hu g1 n1 P1.pw (by have := P1.p0; have := P1.pn; omega))
    clear hg1 P1
    by_cases hu : u < 10000
    · have huI : ¬(10000 : Int) ≤ (u : Int) := by omega
      have hitoa : Lib.itoa (u : Int) = (decB u).data.toList := by
        unfold Lib.itoa decB
        rw [if_neg (by omega)]
        simp
      iterate 8 (all_goals try (first | with_reducible refine splitI (fun h => ?_) (fun h => ?_) | with_reducible refine splitBI (fun h => ?_) (fun h => ?_) | simp (config := { maxSteps := 1000000 }) (disch := first | assumption | omega | (simp; done) | fail) [Tryd.results74, *]))
      refine WC.mono (HI.out hu) ?_
      rintro _ rfl
      cases hnum : numM t with
      | some a =>
        obtain ⟨y1, y2, y3⟩ := HY.out a hnum
        have hua : u = a := by
          rw [hat] at y1
          cases y1; rfl
        have hde : decB u = t := by
          apply ByteArray.ext
          apply Array.ext'
          rw [← hitoa, hua, y2]
        have HNUM := Hide.mk hnum
        rw [hde]
        clear hnum hat hitoa hde y1 y2
        iterate 8 (all_goals try (first | with_reducible refine splitI (fun h => ?_) (fun h => ?_) | with_reducible refine splitBI (fun h => ?_) (fun h => ?_) | simp (config := { maxSteps := 1000000 }) (disch := first | assumption | omega | (simp; done) | fail) [Tryd.results74, *]))
        refine WC.mono (HN.out _ _ HP1.out) ?_
        rintro _ ⟨g2, n2, rfl, hn2, hg2, hp2⟩
        have HG2 := Hide.mk hg2
        clear hg2
        iterate 8 (all_goals try (first | with_reducible refine splitI (fun h => ?_) (fun h => ?_) | with_reducible refine splitBI (fun h => ?_) (fun h => ?_) | simp (config := { maxSteps := 1000000 }) (disch := first | assumption | omega | (simp; done) | fail) [Tryd.results74, *]))
        exact ⟨_, _, ⟨rfl, rfl⟩, by omega, fun b hb hne => (HG2.out b (by omega) hne).trans (HG1.out b hb), hp2⟩
      | none =>
        have hde : ¬decB u = t := fun e => HNO.out hnum (u : Int) (by omega) (by rw [hitoa, e])
        have HNUM := Hide.mk hnum
        clear hnum hat hitoa
        iterate 8 (all_goals try (first | with_reducible refine splitI (fun h => ?_) (fun h => ?_) | with_reducible refine splitBI (fun h => ?_) (fun h => ?_) | simp (config := { maxSteps := 1000000 }) (disch := first | assumption | omega | (simp; done) | fail) [Tryd.results74, *]))
        first | exact ⟨_, _, ⟨rfl, rfl⟩, hn1, HG1.out⟩ | exact ⟨HNUM.out, _, _, ⟨rfl, rfl⟩, hn1, HG1.out⟩
    · have huI : (10000 : Int) ≤ (u : Int) := by omega
      have hnum : numM t = none := by
        cases hq : numM t with
        | none => rfl
        | some a =>
          obtain ⟨y1, y2, y3⟩ := HY.out a hq
          rw [hat] at y1
          cases y1; omega
      have HNUM := Hide.mk hnum
      clear hnum hat
      iterate 8 (all_goals try (first | with_reducible refine splitI (fun h => ?_) (fun h => ?_) | with_reducible refine splitBI (fun h => ?_) (fun h => ?_) | simp (config := { maxSteps := 1000000 }) (disch := first | assumption | omega | (simp; done) | fail) [Tryd.results74, *]))
      first | exact ⟨_, _, ⟨rfl, rfl⟩, hn1, HG1.out⟩ | exact ⟨HNUM.out, _, _, ⟨rfl, rfl⟩, hn1, HG1.out⟩
  · have HG1 := Hide.mk hg1
    have hnum : numM t = none := by
      cases hq : numM t with
      | none => rfl
      | some a => exact absurd (HY.out a hq).1 (hat _)
    have HNUM := Hide.mk hnum
    clear hnum hat hg1
    iterate 8 (all_goals try (first | with_reducible refine splitI (fun h => ?_) (fun h => ?_) | with_reducible refine splitBI (fun h => ?_) (fun h => ?_) | simp (config := { maxSteps := 1000000 }) (disch := first | assumption | omega | (simp; done) | fail) [Tryd.results74, *]))
    first | exact ⟨_, _, ⟨rfl, rfl⟩, hn1, HG1.out⟩ | exact ⟨HNUM.out, _, _, ⟨rfl, rfl⟩, hn1, HG1.out⟩
end Go.Ai
end

section
namespace Go.Ai
open Go.Proofs
set_option maxRecDepth 10000
set_option maxHeartbeats 40000000
/-- How a call of the parser ends. -/
def PEnd (s : ByteArray) (p : Nat) (g : Nat → Option Blk) (n : Nat) (res : ParR) (r : COut) : Prop :=
  match res with
  | .ok x k => ∃ (op : Nat) (a b : Int) (sv : AV) (g' : Nat → Option Blk) (n' : Nat), r = .ret (.agg [.lit (.int .u8 op), .lit (.int .i64 a), .lit (.int .i64 b), sv]) ⟨.fn g', n'⟩ ∧ n ≤ n' ∧ (∀ a, a < n → a ≠ p → g' a = g a) ∧ g' p = some (parB s k) ∧ k ≤ s.size ∧ FreshN g' n n' x [.lit (.int .u8 op), .lit (.int .i64 a), .lit (.int .i64 b), sv]
  | .err k => ∃ g' n', r = .panic (.iface 91 (.agg [])) ⟨.fn g', n'⟩ ∧ n ≤ n' ∧ (∀ a, a < n → a ≠ p → g' a = g a) ∧ g' p = some (parB s k) ∧ k ≤ s.size
def ReadOK (s : ByteArray) (p m : Nat) : Prop := ∀ (rank k : Nat) (g : Nat → Option Blk) (n : Nat), PAt s p g n k → 1 ≤ rank → rank ≤ 3 → 20 * (s.size - k) + 10 ≤ m + rank →
  WC 6 Tryd.prog 42 [.ptr p 0, .lit (.int .i64 rank)] ⟨.fn g, n⟩ fun r => ∃ res, readF s m rank k = some res ∧ PEnd s p g n res r
def SingOK (s : ByteArray) (p m : Nat) : Prop := ∀ (k : Nat) (g : Nat → Option Blk) (n : Nat), PAt s p g n k → 20 * (s.size - k) + 6 ≤ m →
  WC 6 Tryd.prog 60 [.ptr p 0] ⟨.fn g, n⟩ fun r => ∃ res, singF s m k = some res ∧ PEnd s p g n res r
theorem PAt.low {s : ByteArray} {p n n' k : Nat} {g g' : Nat → Option Blk} (h : PAt s p g n k) (hn : n ≤ n') (hg : ∀ a, a ≤ p → g' a = g a) : PAt s p g' n' k := by
  have h1 := h.p0
  have h2 := h.pn
  exact ⟨(hg 0 (by omega)).trans h.ops, (hg 1 (by omega)).trans h.pw, (hg 2 (by omega)).trans h.e2, (hg 3 (by omega)).trans h.e3, h1, by omega, (hg p (Nat.le_refl _)).trans h.cell, h.le⟩
theorem op_facts (j : Nat) (h : j < 15) : (opRows[j]'(by rw [opRows_len]; exact h)).subs = (subsM j : Nat) ∧ (opRows[j]'(by rw [opRows_len]; exact h)).sign = signB j ∧ (opRows[j]'(by rw [opRows_len]; exact h)).rank = rankM j := by
  rcases op_cases h with rfl | rfl | rfl | rfl | rfl | rfl | rfl | rfl | rfl | rfl | rfl | rfl | rfl | rfl | rfl <;> exact ⟨rfl, rfl, rfl⟩
theorem range_drop {j : Nat} (h : j < 15) : (List.range 15).drop j = j :: (List.range 15).drop (j + 1) := by
  have := List.drop_eq_getElem_cons (l := List.range 15) (i := j) (by simpa using h)
  rw [this, List.getElem_range]
theorem single_w {s : ByteArray} {p m : Nat} (hs : s.size ≤ 1000000) (hR : ReadOK s p m) (hS : SingOK s p m) : SingOK s p (m + 1) := by
  intro k g n h hm
  have hp0 := h.p0
  have hpn := h.pn
  have hle := h.le
  have HH := Hide.mk h
  have HT := Hide.mk (fun (g : Nat → Option Blk) (n : Nat) (k : Nat) (h : PAt s p g n k) t => take_w h hs t)
  have HNE := Hide.mk (fun (g : Nat → Option Blk) (n : Nat) (k : Nat) (h : PAt s p g n k) t => need_w h hs t)
  have HNU := Hide.mk (fun (g : Nat → Option Blk) (n : Nat) (k : Nat) (h : PAt s p g n k) => number_w h hs)
  have HR := Hide.mk hR
  have HS := Hide.mk hS
  have hpn' : ¬p = n := by omega
  have hops := h.ops
  clear h hR hS
  refine WC.enterP (noO_ok _ _) hG pl60 Tryd.func60 rfl (by decide +kernel) (Nat.le_of_ble_eq_true (by kernel_rfl)) ?_
  iterate 12 (all_goals try (first | with_reducible refine splitI (fun h => ?_) (fun h => ?_) | with_reducible refine splitBI (fun h => ?_) (fun h => ?_) | simp (config := { maxSteps := 1000000 }) (disch := first | assumption | omega | (simp; done) | fail) [Tryd.results60, *]))
  refine WC.mono (HT.out _ _ k (HH.out.keep (by omega) (fun a ha => (by simp (disch := omega) only [gput_lt]))) _) ?_
  rintro _ (⟨ht, g1, n1, rfl, hn1, hg1, hp1⟩ | ⟨ht, rfl⟩)
  · have hk : k < s.size := tok_full hle ht (by decide)
    have hnk := nxtM_lt hk
    have HTT := Hide.mk ht
    have e1 : g1 n = some (.cells [.lit (.int .u8 0), .lit (.int .i64 0), .lit (.int .i64 0), .lit (.slice none 0 0)] true 0) := by rw [hg1 n (by omega) (by omega)]; simp
    have HOLD : Hide (∀ a, a < n → a ≠ p → g1 a = g a) := ⟨fun a ha hne => by rw [hg1 a (by omega) hne]; simp (disch := omega) only [gput_lt]⟩
    have P1 : PAt s p g1 n1 (nxtM s k) := HH.out.step (by omega) (fun a ha hne => HOLD.out a ha hne) hp1 (nxtM_le hle)
    have HP1 := Hide.mk P1
    clear hg1 P1 ht
    iterate 12 (all_goals try (first | with_reducible refine splitI (fun h => ?_) (fun h => ?_) | with_reducible refine splitBI (fun h => ?_) (fun h => ?_) | simp (config := { maxSteps := 1000000 }) (disch := first | assumption | omega | (simp; done) | fail) [Tryd.results60, *]))
    refine WC.mono (HR.out 1 (nxtM s k) _ _ HP1.out (by omega) (by omega) (by omega)) ?_
    rintro _ ⟨res, hrd, hend⟩
    cases res with
    | err k2 =>
      obtain ⟨g2, n2, rfl, hn2, hg2, hp2, hk2⟩ := hend
      have hres : singF s (m + 1) k = some (.err k2) := by rw [singF, if_pos (show tokB s k = openT from HTT.out), hrd]
      have HRES := Hide.mk hres
      have HG2 := Hide.mk hg2
      clear hres hg2 hrd
      iterate 12 (all_goals try (first | with_reducible refine splitI (fun h => ?_) (fun h => ?_) | with_reducible refine splitBI (fun h => ?_) (fun h => ?_) | simp (config := { maxSteps := 1000000 }) (disch := first | assumption | omega | (simp; done) | fail) [Tryd.results60, *]))
      exact ⟨_, HRES.out, _, _, rfl, by omega, fun a ha hne => (HG2.out a (by omega) hne).trans (HOLD.out a ha hne), hp2, hk2⟩
    | ok x k2 =>
      obtain ⟨op, qa, qb, sv, g2, n2, rfl, hn2, hg2, hp2, hk2, hfr⟩ := hend
      have h1c := repN_c hfr.rep
      have h1a : allOne [.lit (.int .u8 op), .lit (.int .i64 qa), .lit (.int .i64 qb), sv] = true := by simp [h1c]
      have e2 := (hg2 n (by omega) (by omega)).trans e1
      have hnn2 : ¬n = n2 := by omega
      have hpn2 : ¬p = n2 := by omega
      have HRD := Hide.mk hrd
      have HFR := Hide.mk hfr
      have HOLD2 : Hide (∀ a, a < n → a ≠ p → g2 a = g a) := ⟨fun a ha hne => (hg2 a (by omega) hne).trans (HOLD.out a ha hne)⟩
      have P2 : PAt s p g2 n2 k2 := HP1.out.step hn2 hg2 hp2 hk2
      have HP2 := Hide.mk P2
      clear hg2 hrd hfr P2 e1
      iterate 12 (all_goals try (first | with_reducible refine splitI (fun h => ?_) (fun h => ?_) | with_reducible refine splitBI (fun h => ?_) (fun h => ?_) | simp (config := { maxSteps := 1000000 }) (disch := first | assumption | omega | (simp; done) | fail) [Tryd.results60, *]))
      refine WC.mono (HNE.out _ _ k2 (HP2.out.keep (by omega) (fun a ha => (by simp (disch := omega) only [gput_lt]))) _) ?_
      rintro _ (⟨ht2, g3, n3, rfl, hn3, hg3, hp3⟩ | ⟨ht2, rfl⟩)
      · have hres : singF s (m + 1) k = some (.ok x (nxtM s k2)) := by
          rw [singF, if_pos (show tokB s k = openT from HTT.out), HRD.out]
          exact if_pos ht2
        have HRES := Hide.mk hres
        have e3 : g3 n2 = some (.cells [.lit (.int .u8 op), .lit (.int .i64 qa), .lit (.int .i64 qb), sv] true 0) := by rw [hg3 n2 (by omega) (by omega)]; simp (disch := omega) only [gput_eq]
        have e4 : g3 n = some (.cells [.lit (.int .u8 0), .lit (.int .i64 0), .lit (.int .i64 0), .lit (.slice none 0 0)] true 0) := by rw [hg3 n (by omega) (by omega)]; simp (disch := omega) only [gput_lt]; exact e2
        have HG3 := Hide.mk hg3
        clear hres hg3 ht2
        iterate 12 (all_goals try (first | with_reducible refine splitI (fun h => ?_) (fun h => ?_) | with_reducible refine splitBI (fun h => ?_) (fun h => ?_) | simp (config := { maxSteps := 1000000 }) (disch := first | assumption | omega | (simp; done) | fail) [Tryd.results60, *]))
        refine ⟨_, HRES.out, _, _, _, _, _, _, rfl, by omega, fun a ha hne => ?_, by rw [gput_ne hpn']; exact hp3, nxtM_le hk2, HFR.out.keep (by omega) (by omega) (fun a h4 h5 => ?_)⟩
        · rw [gput_lt ha, HG3.out a (by omega) hne]; simp (disch := omega) only [gput_lt]; exact HOLD2.out a ha hne
        · rw [gput_ne (by omega), HG3.out a (by omega) (by omega)]; simp (disch := omega) only [gput_lt]
      · have hres : singF s (m + 1) k = some (.err k2) := by
          rw [singF, if_pos (show tokB s k = openT from HTT.out), HRD.out]
          exact if_neg ht2
        have HRES := Hide.mk hres
        clear hres ht2
        iterate 12 (all_goals try (first | with_reducible refine splitI (fun h => ?_) (fun h => ?_) | with_reducible refine splitBI (fun h => ?_) (fun h => ?_) | simp (config := { maxSteps := 1000000 }) (disch := first | assumption | omega | (simp; done) | fail) [Tryd.results60, *]))
        refine ⟨_, HRES.out, _, _, rfl, by omega, fun a ha hne => ?_, ?_, hk2⟩
        · simp (disch := omega) only [gput_lt]; exact HOLD2.out a ha hne
        · simp (disch := omega) only [gput_lt]; exact HP2.out.cell
  have HTT := Hide.mk ht
  clear ht
  iterate 12 (all_goals try (first | with_reducible refine splitI (fun h => ?_) (fun h => ?_) | with_reducible refine splitBI (fun h => ?_) (fun h => ?_) | simp (config := { maxSteps := 1000000 }) (disch := first | assumption | omega | (simp; done) | fail) [Tryd.results60, *]))
  refine LX.ind (fun m' gf H' => ∃ (j n' : Nat) (g' : Nat → Option Blk), j ≤ 15 ∧ m' = 15 - j ∧ H' = ⟨.fn g', n'⟩ ∧ n < n' ∧ (∀ b, b < n → g' b = g b) ∧ g' n = some (.cells [.lit (.int .u8 0), .lit (.int .i64 0), .lit (.int .i64 0), .lit (.slice none 0 0)] true 0) ∧
    gf 0 = some (.ptr p 0) ∧ gf 2 = some (.ptr n 0) ∧ gf 16 = some (.agg opCells) ∧ gf 17 = some (.lit (.int .i64 j)) ∧ opOf (tokB s k) = opFrom (tokB s k) ((List.range 15).drop j)) (m0 := 15) ?_ ?_
  · exact ⟨0, n + 1, _, by omega, rfl, rfl, by omega, fun b hb => (by simp (disch := omega) only [gput_lt]), by simp, by simp, by simp, by simp, by simp, rfl⟩
  rintro m' gf H' ⟨j, n', g', hj, rfl, rfl, hn', hg', hz', q0, q2, q16, q17, hop⟩ ih
  refine LX.roundP (noO_ok _ _) hG pl60 (by decide +kernel) ?_
  have HG := Hide.mk hg'
  have HOP := Hide.mk hop
  have P' : PAt s p g' n' k := HH.out.keep (by omega) hg'
  have HP' := Hide.mk P'
  clear hg' hop P'
  by_cases hlt : j < 15
  · have hb : j * 4 + 4 ≤ opCells.length := by rw [opCells_len]; omega
    have hrow := op_row j hlt
    obtain ⟨f1, f2, f3⟩ := op_facts j hlt
    have hop2 := HOP.out
    rw [range_drop hlt, opFrom] at hop2
    generalize opRows[j]'hlt = r at hrow f1 f2 f3
    simp only [OpRow.cells] at hrow
    rw [f1, f2] at hrow
    have HOP2 := Hide.mk hop2
    have hjI : (j : Int) < 15 := by omega
    have hnn' : ¬n = n' := by omega
    have hpn2 : ¬p = n' := by omega
    clear hop2 f1 f2 f3
    by_cases h56 : j = 5 ∨ j = 6
    · have hop3 : opOf (tokB s k) = opFrom (tokB s k) ((List.range 15).drop (j + 1)) := by rw [HOP2.out]; exact if_neg (fun h => by omega)
      have HOP3 := Hide.mk hop3
      have hs2 : subsM j = 2 := by rcases h56 with rfl | rfl <;> rfl
      have h10 : ¬(j : Int) = 10 := by omega
      have h14 : ¬(j : Int) = 14 := by omega
      have h10n : ¬j = 10 := by omega
      have h14n : ¬j = 14 := by omega
      rw [hs2] at hrow
      clear hop3 HOP2 HOP
      iterate 12 (all_goals try (first | with_reducible refine splitI (fun h => ?_) (fun h => ?_) | with_reducible refine splitBI (fun h => ?_) (fun h => ?_) | simp (config := { maxSteps := 1000000 }) (disch := first | assumption | omega | (simp; done) | fail) [Tryd.results60, *]))
      refine ih.out (15 - (j + 1)) _ _ (by omega) ⟨j + 1, n' + 1, _, hlt, rfl, rfl, by omega, fun b hb => (gput_lt (by omega)).trans (HG.out b hb), (gput_lt (by omega)).trans hz', by simp [*], by simp [*], by simp [*], by simp [*], HOP3.out⟩
    · have hcl : (j = 10 ∨ j = 14) ∨ j = 0 ∨ (j = 1 ∨ j = 2) ∨ j = 3 ∨ (subsM j = 1 ∧ ¬j = 0 ∧ ¬j = 3) := by
        have : j = 0 ∨ j = 1 ∨ j = 2 ∨ j = 3 ∨ j = 4 ∨ j = 7 ∨ j = 8 ∨ j = 9 ∨ j = 10 ∨ j = 11 ∨ j = 12 ∨ j = 13 ∨ j = 14 := by omega
        rcases this with rfl | rfl | rfl | rfl | rfl | rfl | rfl | rfl | rfl | rfl | rfl | rfl | rfl <;> simp [subsM]
      rcases hcl with hB | rfl | h12 | rfl | ⟨hs1, hj0, hj3⟩
      · rcases hB with rfl | rfl
        · rw [show subsM 10 = 2 from rfl] at hrow
          iterate 12 (all_goals try (first | with_reducible refine splitI (fun h => ?_) (fun h => ?_) | with_reducible refine splitBI (fun h => ?_) (fun h => ?_) | simp (config := { maxSteps := 1000000 }) (disch := first | assumption | omega | (simp; done) | fail) [Tryd.results60, *]))
          refine WC.mono (HT.out _ _ k (HP'.out.keep (by omega) (fun a ha => (by simp (disch := omega) only [gput_lt]))) _) ?_
          rintro _ (⟨ht, g1, n1, rfl, hn1, hg1, hp1⟩ | ⟨ht, rfl⟩)
          · have hk : k < s.size := tok_full hle ht (signB_pos (by omega))
            have hnk := nxtM_lt hk
            have hnl := nxtM_le hle
            have hopj : opOf (tokB s k) = some 10 := by rw [HOP2.out]; exact if_pos ⟨by omega, by omega, ht.symm⟩
            have HOPJ := Hide.mk hopj
            have e1n : g1 n = some (.cells [.lit (.int .u8 0), .lit (.int .i64 0), .lit (.int .i64 0), .lit (.slice none 0 0)] true 0) := by rw [hg1 n (by omega) (by omega)]; simp (disch := omega) only [gput_lt]; exact hz'
            have e15 := hg1 n' (by omega) (by omega)
            rw [gput_eq] at e15
            have HO1 : Hide (∀ a, a < n → a ≠ p → g1 a = g a) := ⟨fun a ha hne => by rw [hg1 a (by omega) hne]; simp (disch := omega) only [gput_lt]; exact HG.out a ha⟩
            have P1 : PAt s p g1 n1 (nxtM s k) := HP'.out.step (by omega) (fun a ha hne => by rw [hg1 a (by omega) hne]; simp (disch := omega) only [gput_lt]) hp1 hnl
            have HP1 := Hide.mk P1
            have hnn1 : ¬n = n1 := by omega
            have hpn1 : ¬p = n1 := by omega
            have hn1' : ¬n' = n1 := by omega
            clear hg1 P1 hopj ht HOP2 HOP hz'
            iterate 12 (all_goals try (first | with_reducible refine splitI (fun h => ?_) (fun h => ?_) | with_reducible refine splitBI (fun h => ?_) (fun h => ?_) | simp (config := { maxSteps := 1000000 }) (disch := first | assumption | omega | (simp; done) | fail) [Tryd.results60, *]))
            refine WC.mono (HNE.out _ _ (nxtM s k) (HP1.out.keep (by omega) (fun a ha => (by simp (disch := omega) only [gput_lt]))) _) ?_
            rintro _ (⟨tl, g2, n2, rfl, hn2, hg2, hp2⟩ | ⟨tl, rfl⟩)
            · have e2 : g2 n = some (.cells [.lit (.int .u8 0), .lit (.int .i64 0), .lit (.int .i64 0), .lit (.slice none 0 0)] true 0) := by rw [hg2 n (by omega) (by omega)]; simp (disch := omega) only [gput_lt]; exact e1n
              have e7 : g2 n1 = some (.cells [.lit (.int .u8 10), .lit (.int .i64 0), .lit (.int .i64 0), .lit (.slice none 0 0)] true 0) := by rw [hg2 n1 (by omega) (by omega)]; simp (disch := omega) only [gput_eq]
              have e25 := hg2 n' (by omega) (by omega)
              rw [gput_ne (by omega), e15] at e25
              have HO2 : Hide (∀ a, a < n → a ≠ p → g2 a = g a) := ⟨fun a ha hne => by rw [hg2 a (by omega) hne]; simp (disch := omega) only [gput_lt]; exact HO1.out a ha hne⟩
              have P2 : PAt s p g2 n2 (nxtM s (nxtM s k)) := HP1.out.step (by omega) (fun a ha hne => by rw [hg2 a (by omega) hne]; simp (disch := omega) only [gput_lt]) hp2 (nxtM_le hnl)
              have HP2 := Hide.mk P2
              have HTL := Hide.mk tl
              have hnk2 := nxtM_ge hnl
              clear hg2 P2 tl
              iterate 12 (all_goals try (first | with_reducible refine splitI (fun h => ?_) (fun h => ?_) | with_reducible refine splitBI (fun h => ?_) (fun h => ?_) | simp (config := { maxSteps := 1000000 }) (disch := first | assumption | omega | (simp; done) | fail) [Tryd.results60, *]))
              refine WC.mono (HR.out 1 (nxtM s (nxtM s k)) _ _ HP2.out (by omega) (by omega) (by omega)) ?_
              rintro _ ⟨res, hrd, hend⟩
              cases res with
              | err k3 =>
                obtain ⟨g3, n3, rfl, hn3, hg3, hp3, hk3⟩ := hend
                have hres : singF s (m + 1) k = some (.err k3) := by
                  rw [singF, if_neg (show ¬tokB s k = openT from HTT.out), HOPJ.out]
                  dsimp only
                  rw [if_pos (by decide), if_pos (show tokB s (nxtM s k) = leftT from HTL.out), hrd]
                have HRES := Hide.mk hres
                have HG3 := Hide.mk hg3
                clear hres hg3 hrd
                iterate 12 (all_goals try (first | with_reducible refine splitI (fun h => ?_) (fun h => ?_) | with_reducible refine splitBI (fun h => ?_) (fun h => ?_) | simp (config := { maxSteps := 1000000 }) (disch := first | assumption | omega | (simp; done) | fail) [Tryd.results60, *]))
                exact ⟨_, HRES.out, _, _, rfl, by omega, fun a ha hne => (HG3.out a (by omega) hne).trans (HO2.out a ha hne), hp3, hk3⟩
              | ok x k3 =>
                obtain ⟨op, qa, qb, sv, g3, n3, rfl, hn3, hg3, hp3, hk3, hfr⟩ := hend
                have h1c := repN_c hfr.rep
                have h1a : allOne [.lit (.int .u8 op), .lit (.int .i64 qa), .lit (.int .i64 qb), sv] = true := by simp [h1c]
                have e3 := (hg3 n (by omega) (by omega)).trans e2
                have e37 := (hg3 n1 (by omega) (by omega)).trans e7
                have hnn3 : ¬n = n3 := by omega
                have hpn3 : ¬p = n3 := by omega
                have hn13 : ¬n1 = n3 := by omega
                have HFR := Hide.mk hfr
                have HRD := Hide.mk hrd
                have HO3 : Hide (∀ a, a < n → a ≠ p → g3 a = g a) := ⟨fun a ha hne => (hg3 a (by omega) hne).trans (HO2.out a ha hne)⟩
                have P3 : PAt s p g3 n3 k3 := HP2.out.step hn3 hg3 hp3 hk3
                have HP3 := Hide.mk P3
                clear hg3 hrd hfr P3
                iterate 12 (all_goals try (first | with_reducible refine splitI (fun h => ?_) (fun h => ?_) | with_reducible refine splitBI (fun h => ?_) (fun h => ?_) | simp (config := { maxSteps := 1000000 }) (disch := first | assumption | omega | (simp; done) | fail) [Tryd.results60, *]))
                refine WC.mono (HNE.out _ _ k3 (HP3.out.keep (by omega) (fun a ha => (by simp (disch := omega) only [gput_lt]))) _) ?_
                rintro _ (⟨tu, g4, n4, rfl, hn4, hg4, hp4⟩ | ⟨tu, rfl⟩)
                · have e4 : g4 n = some (.cells [.lit (.int .u8 0), .lit (.int .i64 0), .lit (.int .i64 0), .lit (.slice none 0 0)] true 0) := by rw [hg4 n (by omega) (by omega)]; simp (disch := omega) only [gput_lt]; exact e3
                  have e47 : g4 n1 = some (.cells [.lit (.int .u8 10), .lit (.int .i64 0), .lit (.int .i64 0), .lit (.slice none 0 0)] true 0) := by rw [hg4 n1 (by omega) (by omega)]; simp (disch := omega) only [gput_lt]; exact e37
                  have e48 : g4 n3 = some (.cells [.lit (.int .u8 op), .lit (.int .i64 qa), .lit (.int .i64 qb), sv] true 0) := by rw [hg4 n3 (by omega) (by omega)]; simp (disch := omega) only [gput_eq]
                  have HO4 : Hide (∀ a, a < n → a ≠ p → g4 a = g a) := ⟨fun a ha hne => by rw [hg4 a (by omega) hne]; simp (disch := omega) only [gput_lt]; exact HO3.out a ha hne⟩
                  have HF4 : Hide (FreshN g4 (n1 + 1) n4 x [.lit (.int .u8 op), .lit (.int .i64 qa), .lit (.int .i64 qb), sv]) := ⟨HFR.out.keep (by omega) (by omega) (fun a h4 h5 => by rw [hg4 a (by omega) (by omega)]; simp (disch := omega) only [gput_lt])⟩
                  have P4 : PAt s p g4 n4 (nxtM s k3) := HP3.out.step (by omega) (fun a ha hne => by rw [hg4 a (by omega) hne]; simp (disch := omega) only [gput_lt]) hp4 (nxtM_le hk3)
                  have HP4 := Hide.mk P4
                  have HTU := Hide.mk tu
                  have hnk3 := nxtM_ge hk3
                  have hgd := ((read_good m).1 _ _ _ _ (nxtM_le hnl) HRD.out).1
                  clear hg4 P4 tu
                  iterate 12 (all_goals try (first | with_reducible refine splitI (fun h => ?_) (fun h => ?_) | with_reducible refine splitBI (fun h => ?_) (fun h => ?_) | simp (config := { maxSteps := 1000000 }) (disch := first | assumption | omega | (simp; done) | fail) [Tryd.results60, *]))
                  refine WC.mono (HR.out 1 (nxtM s k3) _ _ HP4.out (by omega) (by omega) (by omega)) ?_
                  rintro _ ⟨res, hrd, hend⟩
                  cases res with
                  | err k5 =>
                    obtain ⟨g5, n5, rfl, hn5, hg5, hp5, hk5⟩ := hend
                    have hres : singF s (m + 1) k = some (.err k5) := by
                      rw [singF, if_neg (show ¬tokB s k = openT from HTT.out), HOPJ.out]
                      dsimp only
                      rw [if_pos (by decide), if_pos (show tokB s (nxtM s k) = leftT from HTL.out), HRD.out]
                      dsimp only
                      rw [if_pos (show tokB s k3 = untilT from HTU.out), hrd]
                    have HRES := Hide.mk hres
                    have HG5 := Hide.mk hg5
                    clear hres hg5 hrd
                    iterate 12 (all_goals try (first | with_reducible refine splitI (fun h => ?_) (fun h => ?_) | with_reducible refine splitBI (fun h => ?_) (fun h => ?_) | simp (config := { maxSteps := 1000000 }) (disch := first | assumption | omega | (simp; done) | fail) [Tryd.results60, *]))
                    exact ⟨_, HRES.out, _, _, rfl, by omega, fun a ha hne => (HG5.out a (by omega) hne).trans (HO4.out a ha hne), hp5, hk5⟩
                  | ok y k5 =>
                    obtain ⟨op5, ya, yb, sv5, g5, n5, rfl, hn5, hg5, hp5, hk5, hfr5⟩ := hend
                    have h1c5 := repN_c hfr5.rep
                    have h1a5 : allOne [.lit (.int .u8 op5), .lit (.int .i64 ya), .lit (.int .i64 yb), sv5] = true := by simp [h1c5]
                    have e5 := (hg5 n (by omega) (by omega)).trans e4
                    have e57 := (hg5 n1 (by omega) (by omega)).trans e47
                    have e58 := (hg5 n3 (by omega) (by omega)).trans e48
                    have hnn5 : ¬n = n5 := by omega
                    have hpn5 : ¬p = n5 := by omega
                    have hn15 : ¬n1 = n5 := by omega
                    have HRD2 := Hide.mk hrd
                    have HFX : Hide (FreshN g5 (n1 + 1) n5 x [.lit (.int .u8 op), .lit (.int .i64 qa), .lit (.int .i64 qb), sv]) := ⟨HF4.out.keep (by omega) (by omega) (fun a h4 h5 => hg5 a (by omega) (by omega))⟩
                    have HFY : Hide (FreshN g5 (n1 + 1) n5 y [.lit (.int .u8 op5), .lit (.int .i64 ya), .lit (.int .i64 yb), sv5]) := ⟨hfr5.keep (by omega) (by omega) (fun _ _ _ => rfl)⟩
                    have HO5 : Hide (∀ a, a < n → a ≠ p → g5 a = g a) := ⟨fun a ha hne => (hg5 a (by omega) hne).trans (HO4.out a ha hne)⟩
                    have P5 : PAt s p g5 n5 k5 := HP4.out.step hn5 hg5 hp5 hk5
                    have HP5 := Hide.mk P5
                    clear hg5 hrd hfr5 P5
                    iterate 12 (all_goals try (first | with_reducible refine splitI (fun h => ?_) (fun h => ?_) | with_reducible refine splitBI (fun h => ?_) (fun h => ?_) | simp (config := { maxSteps := 1000000 }) (disch := first | assumption | omega | (simp; done) | fail) [Tryd.results60, *]))
                    refine WC.mono (HNE.out _ _ k5 (HP5.out.low (by omega) (fun a ha => by simp (disch := omega) only [gput_ne])) _) ?_
                    rintro _ (⟨tr, g6, n6, rfl, hn6, hg6, hp6⟩ | ⟨tr, rfl⟩)
                    · have hres : singF s (m + 1) k = some (.ok (.mk 10 0 0 [x, y]) (nxtM s k5)) := by
                        rw [singF, if_neg (show ¬tokB s k = openT from HTT.out), HOPJ.out]
                        dsimp only
                        rw [if_pos (by decide), if_pos (show tokB s (nxtM s k) = leftT from HTL.out), HRD.out]
                        dsimp only
                        rw [if_pos (show tokB s k3 = untilT from HTU.out), HRD2.out]
                        exact if_pos tr
                      have HRES := Hide.mk hres
                      have e6 : g6 n = some (.cells [.lit (.int .u8 0), .lit (.int .i64 0), .lit (.int .i64 0), .lit (.slice none 0 0)] true 0) := by rw [hg6 n (by omega) (by omega)]; simp (disch := omega) only [gput_ne]; exact e5
                      have e67 := hg6 n1 (by omega) (by omega)
                      rw [gput_eq] at e67
                      have HG6 := Hide.mk hg6
                      clear hres hg6
                      iterate 12 (all_goals try (first | with_reducible refine splitI (fun h => ?_) (fun h => ?_) | with_reducible refine splitBI (fun h => ?_) (fun h => ?_) | simp (config := { maxSteps := 1000000 }) (disch := first | assumption | omega | (simp; done) | fail) [Tryd.results60, *]))
                      refine ⟨_, HRES.out, 10, 0, 0, .sl n5 0 2 2, _, _, rfl, by omega, fun a ha hne => ?_, ?_, nxtM_le hk5, (FreshN.node (FreshL.two HFX.out HFY.out) rfl (by omega) (S := n5) (n2 := n6) ?_ (Nat.le_refl _) (by omega) (by omega) ?_).keep (n0 := n) (by omega) (Nat.le_refl _) (fun _ _ _ => rfl)⟩
                      · simp (disch := omega) only [gput_ne, gput_lt]; rw [HG6.out a (by omega) hne]; simp (disch := omega) only [gput_ne]; exact HO5.out a ha hne
                      · simp (disch := omega) only [gput_ne, gput_lt]; exact hp6
                      · simp (disch := omega) only [gput_ne]; rw [HG6.out n5 (by omega) (by omega)]; simp (disch := omega) only [gput_ne, gput_eq]; rfl
                      · intro a h4 h5
                        simp (disch := omega) only [gput_ne]; rw [HG6.out a (by omega) (by omega)]; simp (disch := omega) only [gput_ne]
                    · have hres : singF s (m + 1) k = some (.err k5) := by
                        rw [singF, if_neg (show ¬tokB s k = openT from HTT.out), HOPJ.out]
                        dsimp only
                        rw [if_pos (by decide), if_pos (show tokB s (nxtM s k) = leftT from HTL.out), HRD.out]
                        dsimp only
                        rw [if_pos (show tokB s k3 = untilT from HTU.out), HRD2.out]
                        exact if_neg tr
                      have HRES := Hide.mk hres
                      clear hres
                      iterate 12 (all_goals try (first | with_reducible refine splitI (fun h => ?_) (fun h => ?_) | with_reducible refine splitBI (fun h => ?_) (fun h => ?_) | simp (config := { maxSteps := 1000000 }) (disch := first | assumption | omega | (simp; done) | fail) [Tryd.results60, *]))
                      refine ⟨_, HRES.out, _, _, rfl, by omega, fun a ha hne => ?_, ?_, hk5⟩
                      · simp (disch := omega) only [gput_ne]; exact HO5.out a ha hne
                      · simp (disch := omega) only [gput_ne]; exact HP5.out.cell
                · have hres : singF s (m + 1) k = some (.err k3) := by
                    rw [singF, if_neg (show ¬tokB s k = openT from HTT.out), HOPJ.out]
                    dsimp only
                    rw [if_pos (by decide), if_pos (show tokB s (nxtM s k) = leftT from HTL.out), HRD.out]
                    exact if_neg tu
                  have HRES := Hide.mk hres
                  clear hres
                  iterate 12 (all_goals try (first | with_reducible refine splitI (fun h => ?_) (fun h => ?_) | with_reducible refine splitBI (fun h => ?_) (fun h => ?_) | simp (config := { maxSteps := 1000000 }) (disch := first | assumption | omega | (simp; done) | fail) [Tryd.results60, *]))
                  refine ⟨_, HRES.out, _, _, rfl, by omega, fun a ha hne => ?_, ?_, hk3⟩
                  · simp (disch := omega) only [gput_lt]; exact HO3.out a ha hne
                  · simp (disch := omega) only [gput_lt]; exact HP3.out.cell
            · have hres : singF s (m + 1) k = some (.err (nxtM s k)) := by
                rw [singF, if_neg (show ¬tokB s k = openT from HTT.out), HOPJ.out]
                dsimp only
                rw [if_pos (by decide)]
                exact if_neg tl
              have HRES := Hide.mk hres
              clear hres
              iterate 12 (all_goals try (first | with_reducible refine splitI (fun h => ?_) (fun h => ?_) | with_reducible refine splitBI (fun h => ?_) (fun h => ?_) | simp (config := { maxSteps := 1000000 }) (disch := first | assumption | omega | (simp; done) | fail) [Tryd.results60, *]))
              refine ⟨_, HRES.out, _, _, rfl, by omega, fun a ha hne => ?_, ?_, hnl⟩
              · simp (disch := omega) only [gput_lt]; exact HO1.out a ha hne
              · simp (disch := omega) only [gput_lt]; exact HP1.out.cell
          · have hop3 : opOf (tokB s k) = opFrom (tokB s k) ((List.range 15).drop (10 + 1)) := by rw [HOP2.out]; exact if_neg (fun h => ht h.2.2.symm)
            have HOP3 := Hide.mk hop3
            clear hop3 HOP2 HOP ht
            iterate 12 (all_goals try (first | with_reducible refine splitI (fun h => ?_) (fun h => ?_) | with_reducible refine splitBI (fun h => ?_) (fun h => ?_) | simp (config := { maxSteps := 1000000 }) (disch := first | assumption | omega | (simp; done) | fail) [Tryd.results60, *]))
            refine ih.out (15 - (10 + 1)) _ _ (by omega) ⟨10 + 1, n' + 1, _, by omega, rfl, rfl, by omega, fun b hb => (gput_lt (by omega)).trans (HG.out b hb), (gput_lt (by omega)).trans hz', by simp [*], by simp [*], by simp [*], by simp [*], HOP3.out⟩
        · rw [show subsM 14 = 2 from rfl] at hrow
          iterate 12 (all_goals try (first | with_reducible refine splitI (fun h => ?_) (fun h => ?_) | with_reducible refine splitBI (fun h => ?_) (fun h => ?_) | simp (config := { maxSteps := 1000000 }) (disch := first | assumption | omega | (simp; done) | fail) [Tryd.results60, *]))
          refine WC.mono (HT.out _ _ k (HP'.out.keep (by omega) (fun a ha => (by simp (disch := omega) only [gput_lt]))) _) ?_
          rintro _ (⟨ht, g1, n1, rfl, hn1, hg1, hp1⟩ | ⟨ht, rfl⟩)
          · have hk : k < s.size := tok_full hle ht (signB_pos (by omega))
            have hnk := nxtM_lt hk
            have hnl := nxtM_le hle
            have hopj : opOf (tokB s k) = some 14 := by rw [HOP2.out]; exact if_pos ⟨by omega, by omega, ht.symm⟩
            have HOPJ := Hide.mk hopj
            have e1n : g1 n = some (.cells [.lit (.int .u8 0), .lit (.int .i64 0), .lit (.int .i64 0), .lit (.slice none 0 0)] true 0) := by rw [hg1 n (by omega) (by omega)]; simp (disch := omega) only [gput_lt]; exact hz'
            have e15 := hg1 n' (by omega) (by omega)
            rw [gput_eq] at e15
            have HO1 : Hide (∀ a, a < n → a ≠ p → g1 a = g a) := ⟨fun a ha hne => by rw [hg1 a (by omega) hne]; simp (disch := omega) only [gput_lt]; exact HG.out a ha⟩
            have P1 : PAt s p g1 n1 (nxtM s k) := HP'.out.step (by omega) (fun a ha hne => by rw [hg1 a (by omega) hne]; simp (disch := omega) only [gput_lt]) hp1 hnl
            have HP1 := Hide.mk P1
            have hnn1 : ¬n = n1 := by omega
            have hpn1 : ¬p = n1 := by omega
            have hn1' : ¬n' = n1 := by omega
            clear hg1 P1 hopj ht HOP2 HOP hz'
            iterate 12 (all_goals try (first | with_reducible refine splitI (fun h => ?_) (fun h => ?_) | with_reducible refine splitBI (fun h => ?_) (fun h => ?_) | simp (config := { maxSteps := 1000000 }) (disch := first | assumption | omega | (simp; done) | fail) [Tryd.results60, *]))
            refine WC.mono (HNE.out _ _ (nxtM s k) (HP1.out.keep (by omega) (fun a ha => (by simp (disch := omega) only [gput_lt]))) _) ?_
            rintro _ (⟨tl, g2, n2, rfl, hn2, hg2, hp2⟩ | ⟨tl, rfl⟩)
            · have e2 : g2 n = some (.cells [.lit (.int .u8 0), .lit (.int .i64 0), .lit (.int .i64 0), .lit (.slice none 0 0)] true 0) := by rw [hg2 n (by omega) (by omega)]; simp (disch := omega) only [gput_lt]; exact e1n
              have e7 : g2 n1 = some (.cells [.lit (.int .u8 14), .lit (.int .i64 0), .lit (.int .i64 0), .lit (.slice none 0 0)] true 0) := by rw [hg2 n1 (by omega) (by omega)]; simp (disch := omega) only [gput_eq]
              have e25 := hg2 n' (by omega) (by omega)
              rw [gput_ne (by omega), e15] at e25
              have HO2 : Hide (∀ a, a < n → a ≠ p → g2 a = g a) := ⟨fun a ha hne => by rw [hg2 a (by omega) hne]; simp (disch := omega) only [gput_lt]; exact HO1.out a ha hne⟩
              have P2 : PAt s p g2 n2 (nxtM s (nxtM s k)) := HP1.out.step (by omega) (fun a ha hne => by rw [hg2 a (by omega) hne]; simp (disch := omega) only [gput_lt]) hp2 (nxtM_le hnl)
              have HP2 := Hide.mk P2
              have HTL := Hide.mk tl
              have hnk2 := nxtM_ge hnl
              clear hg2 P2 tl
              iterate 12 (all_goals try (first | with_reducible refine splitI (fun h => ?_) (fun h => ?_) | with_reducible refine splitBI (fun h => ?_) (fun h => ?_) | simp (config := { maxSteps := 1000000 }) (disch := first | assumption | omega | (simp; done) | fail) [Tryd.results60, *]))
              refine WC.mono (HR.out 1 (nxtM s (nxtM s k)) _ _ HP2.out (by omega) (by omega) (by omega)) ?_
              rintro _ ⟨res, hrd, hend⟩
              cases res with
              | err k3 =>
                obtain ⟨g3, n3, rfl, hn3, hg3, hp3, hk3⟩ := hend
                have hres : singF s (m + 1) k = some (.err k3) := by
                  rw [singF, if_neg (show ¬tokB s k = openT from HTT.out), HOPJ.out]
                  dsimp only
                  rw [if_pos (by decide), if_pos (show tokB s (nxtM s k) = leftT from HTL.out), hrd]
                have HRES := Hide.mk hres
                have HG3 := Hide.mk hg3
                clear hres hg3 hrd
                iterate 12 (all_goals try (first | with_reducible refine splitI (fun h => ?_) (fun h => ?_) | with_reducible refine splitBI (fun h => ?_) (fun h => ?_) | simp (config := { maxSteps := 1000000 }) (disch := first | assumption | omega | (simp; done) | fail) [Tryd.results60, *]))
                exact ⟨_, HRES.out, _, _, rfl, by omega, fun a ha hne => (HG3.out a (by omega) hne).trans (HO2.out a ha hne), hp3, hk3⟩
              | ok x k3 =>
                obtain ⟨op, qa, qb, sv, g3, n3, rfl, hn3, hg3, hp3, hk3, hfr⟩ := hend
                have h1c := repN_c hfr.rep
                have h1a : allOne [.lit (.int .u8 op), .lit (.int .i64 qa), .lit (.int .i64 qb), sv] = true := by simp [h1c]
                have e3 := (hg3 n (by omega) (by omega)).trans e2
                have e37 := (hg3 n1 (by omega) (by omega)).trans e7
                have hnn3 : ¬n = n3 := by omega
                have hpn3 : ¬p = n3 := by omega
                have hn13 : ¬n1 = n3 := by omega
                have HFR := Hide.mk hfr
                have HRD := Hide.mk hrd
                have HO3 : Hide (∀ a, a < n → a ≠ p → g3 a = g a) := ⟨fun a ha hne => (hg3 a (by omega) hne).trans (HO2.out a ha hne)⟩
                have P3 : PAt s p g3 n3 k3 := HP2.out.step hn3 hg3 hp3 hk3
                have HP3 := Hide.mk P3
                clear hg3 hrd hfr P3
                iterate 12 (all_goals try (first | with_reducible refine splitI (fun h => ?_) (fun h => ?_) | with_reducible refine splitBI (fun h => ?_) (fun h => ?_) | simp (config := { maxSteps := 1000000 }) (disch := first | assumption | omega | (simp; done) | fail) [Tryd.results60, *]))
                refine WC.mono (HNE.out _ _ k3 (HP3.out.keep (by omega) (fun a ha => (by simp (disch := omega) only [gput_lt]))) _) ?_
                rintro _ (⟨tu, g4, n4, rfl, hn4, hg4, hp4⟩ | ⟨tu, rfl⟩)
                · have e4 : g4 n = some (.cells [.lit (.int .u8 0), .lit (.int .i64 0), .lit (.int .i64 0), .lit (.slice none 0 0)] true 0) := by rw [hg4 n (by omega) (by omega)]; simp (disch := omega) only [gput_lt]; exact e3
                  have e47 : g4 n1 = some (.cells [.lit (.int .u8 14), .lit (.int .i64 0), .lit (.int .i64 0), .lit (.slice none 0 0)] true 0) := by rw [hg4 n1 (by omega) (by omega)]; simp (disch := omega) only [gput_lt]; exact e37
                  have e48 : g4 n3 = some (.cells [.lit (.int .u8 op), .lit (.int .i64 qa), .lit (.int .i64 qb), sv] true 0) := by rw [hg4 n3 (by omega) (by omega)]; simp (disch := omega) only [gput_eq]
                  have HO4 : Hide (∀ a, a < n → a ≠ p → g4 a = g a) := ⟨fun a ha hne => by rw [hg4 a (by omega) hne]; simp (disch := omega) only [gput_lt]; exact HO3.out a ha hne⟩
                  have HF4 : Hide (FreshN g4 (n1 + 1) n4 x [.lit (.int .u8 op), .lit (.int .i64 qa), .lit (.int .i64 qb), sv]) := ⟨HFR.out.keep (by omega) (by omega) (fun a h4 h5 => by rw [hg4 a (by omega) (by omega)]; simp (disch := omega) only [gput_lt])⟩
                  have P4 : PAt s p g4 n4 (nxtM s k3) := HP3.out.step (by omega) (fun a ha hne => by rw [hg4 a (by omega) hne]; simp (disch := omega) only [gput_lt]) hp4 (nxtM_le hk3)
                  have HP4 := Hide.mk P4
                  have HTU := Hide.mk tu
                  have hnk3 := nxtM_ge hk3
                  have hgd := ((read_good m).1 _ _ _ _ (nxtM_le hnl) HRD.out).1
                  clear hg4 P4 tu
                  iterate 12 (all_goals try (first | with_reducible refine splitI (fun h => ?_) (fun h => ?_) | with_reducible refine splitBI (fun h => ?_) (fun h => ?_) | simp (config := { maxSteps := 1000000 }) (disch := first | assumption | omega | (simp; done) | fail) [Tryd.results60, *]))
                  refine WC.mono (HR.out 1 (nxtM s k3) _ _ HP4.out (by omega) (by omega) (by omega)) ?_
                  rintro _ ⟨res, hrd, hend⟩
                  cases res with
                  | err k5 =>
                    obtain ⟨g5, n5, rfl, hn5, hg5, hp5, hk5⟩ := hend
                    have hres : singF s (m + 1) k = some (.err k5) := by
                      rw [singF, if_neg (show ¬tokB s k = openT from HTT.out), HOPJ.out]
                      dsimp only
                      rw [if_pos (by decide), if_pos (show tokB s (nxtM s k) = leftT from HTL.out), HRD.out]
                      dsimp only
                      rw [if_pos (show tokB s k3 = untilT from HTU.out), hrd]
                    have HRES := Hide.mk hres
                    have HG5 := Hide.mk hg5
                    clear hres hg5 hrd
                    iterate 12 (all_goals try (first | with_reducible refine splitI (fun h => ?_) (fun h => ?_) | with_reducible refine splitBI (fun h => ?_) (fun h => ?_) | simp (config := { maxSteps := 1000000 }) (disch := first | assumption | omega | (simp; done) | fail) [Tryd.results60, *]))
                    exact ⟨_, HRES.out, _, _, rfl, by omega, fun a ha hne => (HG5.out a (by omega) hne).trans (HO4.out a ha hne), hp5, hk5⟩
                  | ok y k5 =>
                    obtain ⟨op5, ya, yb, sv5, g5, n5, rfl, hn5, hg5, hp5, hk5, hfr5⟩ := hend
                    have h1c5 := repN_c hfr5.rep
                    have h1a5 : allOne [.lit (.int .u8 op5), .lit (.int .i64 ya), .lit (.int .i64 yb), sv5] = true := by simp [h1c5]
                    have e5 := (hg5 n (by omega) (by omega)).trans e4
                    have e57 := (hg5 n1 (by omega) (by omega)).trans e47
                    have e58 := (hg5 n3 (by omega) (by omega)).trans e48
                    have hnn5 : ¬n = n5 := by omega
                    have hpn5 : ¬p = n5 := by omega
                    have hn15 : ¬n1 = n5 := by omega
                    have HRD2 := Hide.mk hrd
                    have HFX : Hide (FreshN g5 (n1 + 1) n5 x [.lit (.int .u8 op), .lit (.int .i64 qa), .lit (.int .i64 qb), sv]) := ⟨HF4.out.keep (by omega) (by omega) (fun a h4 h5 => hg5 a (by omega) (by omega))⟩
                    have HFY : Hide (FreshN g5 (n1 + 1) n5 y [.lit (.int .u8 op5), .lit (.int .i64 ya), .lit (.int .i64 yb), sv5]) := ⟨hfr5.keep (by omega) (by omega) (fun _ _ _ => rfl)⟩
                    have HO5 : Hide (∀ a, a < n → a ≠ p → g5 a = g a) := ⟨fun a ha hne => (hg5 a (by omega) hne).trans (HO4.out a ha hne)⟩
                    have P5 : PAt s p g5 n5 k5 := HP4.out.step hn5 hg5 hp5 hk5
                    have HP5 := Hide.mk P5
                    clear hg5 hrd hfr5 P5
                    iterate 12 (all_goals try (first | with_reducible refine splitI (fun h => ?_) (fun h => ?_) | with_reducible refine splitBI (fun h => ?_) (fun h => ?_) | simp (config := { maxSteps := 1000000 }) (disch := first | assumption | omega | (simp; done) | fail) [Tryd.results60, *]))
                    refine WC.mono (HNE.out _ _ k5 (HP5.out.low (by omega) (fun a ha => by simp (disch := omega) only [gput_ne])) _) ?_
                    rintro _ (⟨tr, g6, n6, rfl, hn6, hg6, hp6⟩ | ⟨tr, rfl⟩)
                    · have hres : singF s (m + 1) k = some (.ok (.mk 14 0 0 [x, y]) (nxtM s k5)) := by
                        rw [singF, if_neg (show ¬tokB s k = openT from HTT.out), HOPJ.out]
                        dsimp only
                        rw [if_pos (by decide), if_pos (show tokB s (nxtM s k) = leftT from HTL.out), HRD.out]
                        dsimp only
                        rw [if_pos (show tokB s k3 = untilT from HTU.out), HRD2.out]
                        exact if_pos tr
                      have HRES := Hide.mk hres
                      have e6 : g6 n = some (.cells [.lit (.int .u8 0), .lit (.int .i64 0), .lit (.int .i64 0), .lit (.slice none 0 0)] true 0) := by rw [hg6 n (by omega) (by omega)]; simp (disch := omega) only [gput_ne]; exact e5
                      have e67 := hg6 n1 (by omega) (by omega)
                      rw [gput_eq] at e67
                      have HG6 := Hide.mk hg6
                      clear hres hg6
                      iterate 12 (all_goals try (first | with_reducible refine splitI (fun h => ?_) (fun h => ?_) | with_reducible refine splitBI (fun h => ?_) (fun h => ?_) | simp (config := { maxSteps := 1000000 }) (disch := first | assumption | omega | (simp; done) | fail) [Tryd.results60, *]))
                      refine ⟨_, HRES.out, 14, 0, 0, .sl n5 0 2 2, _, _, rfl, by omega, fun a ha hne => ?_, ?_, nxtM_le hk5, (FreshN.node (FreshL.two HFX.out HFY.out) rfl (by omega) (S := n5) (n2 := n6) ?_ (Nat.le_refl _) (by omega) (by omega) ?_).keep (n0 := n) (by omega) (Nat.le_refl _) (fun _ _ _ => rfl)⟩
                      · simp (disch := omega) only [gput_ne, gput_lt]; rw [HG6.out a (by omega) hne]; simp (disch := omega) only [gput_ne]; exact HO5.out a ha hne
                      · simp (disch := omega) only [gput_ne, gput_lt]; exact hp6
                      · simp (disch := omega) only [gput_ne]; rw [HG6.out n5 (by omega) (by omega)]; simp (disch := omega) only [gput_ne, gput_eq]; rfl
                      · intro a h4 h5
                        simp (disch := omega) only [gput_ne]; rw [HG6.out a (by omega) (by omega)]; simp (disch := omega) only [gput_ne]
                    · have hres : singF s (m + 1) k = some (.err k5) := by
                        rw [singF, if_neg (show ¬tokB s k = openT from HTT.out), HOPJ.out]
                        dsimp only
                        rw [if_pos (by decide), if_pos (show tokB s (nxtM s k) = leftT from HTL.out), HRD.out]
                        dsimp only
                        rw [if_pos (show tokB s k3 = untilT from HTU.out), HRD2.out]
                        exact if_neg tr
                      have HRES := Hide.mk hres
                      clear hres
                      iterate 12 (all_goals try (first | with_reducible refine splitI (fun h => ?_) (fun h => ?_) | with_reducible refine splitBI (fun h => ?_) (fun h => ?_) | simp (config := { maxSteps := 1000000 }) (disch := first | assumption | omega | (simp; done) | fail) [Tryd.results60, *]))
                      refine ⟨_, HRES.out, _, _, rfl, by omega, fun a ha hne => ?_, ?_, hk5⟩
                      · simp (disch := omega) only [gput_ne]; exact HO5.out a ha hne
                      · simp (disch := omega) only [gput_ne]; exact HP5.out.cell
                · have hres : singF s (m + 1) k = some (.err k3) := by
                    rw [singF, if_neg (show ¬tokB s k = openT from HTT.out), HOPJ.out]
                    dsimp only
                    rw [if_pos (by decide), if_pos (show tokB s (nxtM s k) = leftT from HTL.out), HRD.out]
                    exact if_neg tu
                  have HRES := Hide.mk hres
                  clear hres
                  iterate 12 (all_goals try (first | with_reducible refine splitI (fun h => ?_) (fun h => ?_) | with_reducible refine splitBI (fun h => ?_) (fun h => ?_) | simp (config := { maxSteps := 1000000 }) (disch := first | assumption | omega | (simp; done) | fail) [Tryd.results60, *]))
                  refine ⟨_, HRES.out, _, _, rfl, by omega, fun a ha hne => ?_, ?_, hk3⟩
                  · simp (disch := omega) only [gput_lt]; exact HO3.out a ha hne
                  · simp (disch := omega) only [gput_lt]; exact HP3.out.cell
            · have hres : singF s (m + 1) k = some (.err (nxtM s k)) := by
                rw [singF, if_neg (show ¬tokB s k = openT from HTT.out), HOPJ.out]
                dsimp only
                rw [if_pos (by decide)]
                exact if_neg tl
              have HRES := Hide.mk hres
              clear hres
              iterate 12 (all_goals try (first | with_reducible refine splitI (fun h => ?_) (fun h => ?_) | with_reducible refine splitBI (fun h => ?_) (fun h => ?_) | simp (config := { maxSteps := 1000000 }) (disch := first | assumption | omega | (simp; done) | fail) [Tryd.results60, *]))
              refine ⟨_, HRES.out, _, _, rfl, by omega, fun a ha hne => ?_, ?_, hnl⟩
              · simp (disch := omega) only [gput_lt]; exact HO1.out a ha hne
              · simp (disch := omega) only [gput_lt]; exact HP1.out.cell
          · have hop3 : opOf (tokB s k) = opFrom (tokB s k) ((List.range 15).drop (14 + 1)) := by rw [HOP2.out]; exact if_neg (fun h => ht h.2.2.symm)
            have HOP3 := Hide.mk hop3
            clear hop3 HOP2 HOP ht
            iterate 12 (all_goals try (first | with_reducible refine splitI (fun h => ?_) (fun h => ?_) | with_reducible refine splitBI (fun h => ?_) (fun h => ?_) | simp (config := { maxSteps := 1000000 }) (disch := first | assumption | omega | (simp; done) | fail) [Tryd.results60, *]))
            refine ih.out (15 - (14 + 1)) _ _ (by omega) ⟨14 + 1, n' + 1, _, by omega, rfl, rfl, by omega, fun b hb => (gput_lt (by omega)).trans (HG.out b hb), (gput_lt (by omega)).trans hz', by simp [*], by simp [*], by simp [*], by simp [*], HOP3.out⟩
      · rw [show subsM 0 = 0 from rfl] at hrow
        have hrow0 : opCells.take 4 = [.lit (.int .i64 ((0 : Nat) : Int)), .lit (.int .i64 r.rank), .lit (.string (signB 0)), .lit (.func (.func r.fn) #[] #[])] := hrow
        iterate 12 (all_goals try (first | with_reducible refine splitI (fun h => ?_) (fun h => ?_) | with_reducible refine splitBI (fun h => ?_) (fun h => ?_) | simp (config := { maxSteps := 1000000 }) (disch := first | assumption | omega | (simp; done) | fail) [Tryd.results60, *]))
        refine WC.mono (HT.out _ _ k (HP'.out.keep (by omega) (fun a ha => (by simp (disch := omega) only [gput_lt]))) _) ?_
        rintro _ (⟨ht, g1, n1, rfl, hn1, hg1, hp1⟩ | ⟨ht, rfl⟩)
        · have hk : k < s.size := tok_full hle ht (signB_pos (by omega))
          have hnk := nxtM_lt hk
          have hnl := nxtM_le hle
          have hopj : opOf (tokB s k) = some 0 := by rw [HOP2.out]; exact if_pos ⟨by omega, by omega, ht.symm⟩
          have HOPJ := Hide.mk hopj
          have e1n : g1 n = some (.cells [.lit (.int .u8 0), .lit (.int .i64 0), .lit (.int .i64 0), .lit (.slice none 0 0)] true 0) := by rw [hg1 n (by omega) (by omega)]; simp (disch := omega) only [gput_lt]; exact hz'
          have e15 := hg1 n' (by omega) (by omega)
          rw [gput_eq] at e15
          have HO1 : Hide (∀ a, a < n → a ≠ p → g1 a = g a) := ⟨fun a ha hne => by rw [hg1 a (by omega) hne]; simp (disch := omega) only [gput_lt]; exact HG.out a ha⟩
          have P1 : PAt s p g1 n1 (nxtM s k) := HP'.out.step (by omega) (fun a ha hne => by rw [hg1 a (by omega) hne]; simp (disch := omega) only [gput_lt]) hp1 hnl
          have HP1 := Hide.mk P1
          have hnn1 : ¬n = n1 := by omega
          have hpn1 : ¬p = n1 := by omega
          have hn1' : ¬n' = n1 := by omega
          clear hg1 P1 hopj ht HOP2 HOP hz'
          have hres : singF s (m + 1) k = some (.ok (.mk 0 0 0 []) (nxtM s k)) := by
            rw [singF, if_neg (show ¬tokB s k = openT from HTT.out), HOPJ.out]
            rfl
          have HRES := Hide.mk hres
          clear hres
          iterate 12 (all_goals try (first | with_reducible refine splitI (fun h => ?_) (fun h => ?_) | with_reducible refine splitBI (fun h => ?_) (fun h => ?_) | simp (config := { maxSteps := 1000000 }) (disch := first | assumption | omega | (simp; done) | fail) [Tryd.results60, *]))
          refine ⟨_, HRES.out, 0, 0, 0, .lit (.slice none 0 0), _, _, rfl, by omega, fun a ha hne => ?_, ?_, hnl, FreshN.leaf (by omega)⟩
          · simp (disch := omega) only [gput_ne, gput_lt]; exact HO1.out a ha hne
          · simp (disch := omega) only [gput_ne, gput_lt]; exact HP1.out.cell
        · have hop3 : opOf (tokB s k) = opFrom (tokB s k) ((List.range 15).drop (0 + 1)) := by rw [HOP2.out]; exact if_neg (fun h => ht h.2.2.symm)
          have HOP3 := Hide.mk hop3
          clear hop3 HOP2 HOP ht
          iterate 12 (all_goals try (first | with_reducible refine splitI (fun h => ?_) (fun h => ?_) | with_reducible refine splitBI (fun h => ?_) (fun h => ?_) | simp (config := { maxSteps := 1000000 }) (disch := first | assumption | omega | (simp; done) | fail) [Tryd.results60, *]))
          refine ih.out (15 - (0 + 1)) _ _ (by omega) ⟨0 + 1, n' + 1, _, by omega, rfl, rfl, by omega, fun b hb => (gput_lt (by omega)).trans (HG.out b hb), (gput_lt (by omega)).trans hz', by simp [*], by simp [*], by simp [*], by simp [*], HOP3.out⟩
      · rcases h12 with rfl | rfl
        · rw [show subsM 1 = 0 from rfl] at hrow
          iterate 12 (all_goals try (first | with_reducible refine splitI (fun h => ?_) (fun h => ?_) | with_reducible refine splitBI (fun h => ?_) (fun h => ?_) | simp (config := { maxSteps := 1000000 }) (disch := first | assumption | omega | (simp; done) | fail) [Tryd.results60, *]))
          refine WC.mono (HT.out _ _ k (HP'.out.keep (by omega) (fun a ha => (by simp (disch := omega) only [gput_lt]))) _) ?_
          rintro _ (⟨ht, g1, n1, rfl, hn1, hg1, hp1⟩ | ⟨ht, rfl⟩)
          · have hk : k < s.size := tok_full hle ht (signB_pos (by omega))
            have hnk := nxtM_lt hk
            have hnl := nxtM_le hle
            have hopj : opOf (tokB s k) = some 1 := by rw [HOP2.out]; exact if_pos ⟨by omega, by omega, ht.symm⟩
            have HOPJ := Hide.mk hopj
            have e1n : g1 n = some (.cells [.lit (.int .u8 0), .lit (.int .i64 0), .lit (.int .i64 0), .lit (.slice none 0 0)] true 0) := by rw [hg1 n (by omega) (by omega)]; simp (disch := omega) only [gput_lt]; exact hz'
            have e15 := hg1 n' (by omega) (by omega)
            rw [gput_eq] at e15
            have HO1 : Hide (∀ a, a < n → a ≠ p → g1 a = g a) := ⟨fun a ha hne => by rw [hg1 a (by omega) hne]; simp (disch := omega) only [gput_lt]; exact HG.out a ha⟩
            have P1 : PAt s p g1 n1 (nxtM s k) := HP'.out.step (by omega) (fun a ha hne => by rw [hg1 a (by omega) hne]; simp (disch := omega) only [gput_lt]) hp1 hnl
            have HP1 := Hide.mk P1
            have hnn1 : ¬n = n1 := by omega
            have hpn1 : ¬p = n1 := by omega
            have hn1' : ¬n' = n1 := by omega
            clear hg1 P1 hopj ht HOP2 HOP hz'
            iterate 12 (all_goals try (first | with_reducible refine splitI (fun h => ?_) (fun h => ?_) | with_reducible refine splitBI (fun h => ?_) (fun h => ?_) | simp (config := { maxSteps := 1000000 }) (disch := first | assumption | omega | (simp; done) | fail) [Tryd.results60, *]))
            refine WC.mono (HNU.out _ _ (nxtM s k) (HP1.out.keep (by omega) (fun a ha => (by simp (disch := omega) only [gput_lt])))) ?_
            rintro _ (⟨a1, g2, n2, hnum, rfl, hn2, hg2, hp2⟩ | ⟨hnum, g2, n2, rfl, hn2, hg2⟩)
            · have hres : singF s (m + 1) k = some (.ok (.mk 1 (a1 : Nat) 0 []) (nxtM s (nxtM s k))) := by
                rw [singF, if_neg (show ¬tokB s k = openT from HTT.out), HOPJ.out]
                dsimp only
                rw [if_neg (by decide), if_neg (by decide), if_neg (by decide), hnum]
                exact if_neg (by decide)
              have HRES := Hide.mk hres
              have e2 : g2 n = some (.cells [.lit (.int .u8 0), .lit (.int .i64 0), .lit (.int .i64 0), .lit (.slice none 0 0)] true 0) := by rw [hg2 n (by omega) (by omega)]; simp (disch := omega) only [gput_lt]; exact e1n
              have e7 : g2 n1 = some (.cells [.lit (.int .u8 1), .lit (.int .i64 0), .lit (.int .i64 0), .lit (.slice none 0 0)] true 0) := by rw [hg2 n1 (by omega) (by omega)]; simp (disch := omega) only [gput_eq]
              have HO2 : Hide (∀ a, a < n → a ≠ p → g2 a = g a) := ⟨fun a ha hne => by rw [hg2 a (by omega) hne]; simp (disch := omega) only [gput_lt]; exact HO1.out a ha hne⟩
              clear hg2 hres
              iterate 12 (all_goals try (first | with_reducible refine splitI (fun h => ?_) (fun h => ?_) | with_reducible refine splitBI (fun h => ?_) (fun h => ?_) | simp (config := { maxSteps := 1000000 }) (disch := first | assumption | omega | (simp; done) | fail) [Tryd.results60, *]))
              refine ⟨_, HRES.out, 1, (a1 : Nat), 0, .lit (.slice none 0 0), _, _, rfl, by omega, fun a ha hne => ?_, ?_, nxtM_le hnl, FreshN.leaf (by omega)⟩
              · simp (disch := omega) only [gput_ne, gput_lt]; exact HO2.out a ha hne
              · simp (disch := omega) only [gput_ne, gput_lt]; exact hp2
            · have hres : singF s (m + 1) k = some (.err (nxtM s k)) := by
                rw [singF, if_neg (show ¬tokB s k = openT from HTT.out), HOPJ.out]
                dsimp only
                rw [if_neg (by decide), if_neg (by decide), if_neg (by decide), hnum]
              have HRES := Hide.mk hres
              have HG2 := Hide.mk hg2
              clear hres hg2
              iterate 12 (all_goals try (first | with_reducible refine splitI (fun h => ?_) (fun h => ?_) | with_reducible refine splitBI (fun h => ?_) (fun h => ?_) | simp (config := { maxSteps := 1000000 }) (disch := first | assumption | omega | (simp; done) | fail) [Tryd.results60, *]))
              exact ⟨_, HRES.out, _, _, rfl, by omega, fun a ha hne => by rw [HG2.out a (by omega)]; simp (disch := omega) only [gput_lt]; exact HO1.out a ha hne, by rw [HG2.out p (by omega)]; simp (disch := omega) only [gput_lt]; exact HP1.out.cell, hnl⟩
          · have hop3 : opOf (tokB s k) = opFrom (tokB s k) ((List.range 15).drop (1 + 1)) := by rw [HOP2.out]; exact if_neg (fun h => ht h.2.2.symm)
            have HOP3 := Hide.mk hop3
            clear hop3 HOP2 HOP ht
            iterate 12 (all_goals try (first | with_reducible refine splitI (fun h => ?_) (fun h => ?_) | with_reducible refine splitBI (fun h => ?_) (fun h => ?_) | simp (config := { maxSteps := 1000000 }) (disch := first | assumption | omega | (simp; done) | fail) [Tryd.results60, *]))
            refine ih.out (15 - (1 + 1)) _ _ (by omega) ⟨1 + 1, n' + 1, _, by omega, rfl, rfl, by omega, fun b hb => (gput_lt (by omega)).trans (HG.out b hb), (gput_lt (by omega)).trans hz', by simp [*], by simp [*], by simp [*], by simp [*], HOP3.out⟩
        · rw [show subsM 2 = 0 from rfl] at hrow
          iterate 12 (all_goals try (first | with_reducible refine splitI (fun h => ?_) (fun h => ?_) | with_reducible refine splitBI (fun h => ?_) (fun h => ?_) | simp (config := { maxSteps := 1000000 }) (disch := first | assumption | omega | (simp; done) | fail) [Tryd.results60, *]))
          refine WC.mono (HT.out _ _ k (HP'.out.keep (by omega) (fun a ha => (by simp (disch := omega) only [gput_lt]))) _) ?_
          rintro _ (⟨ht, g1, n1, rfl, hn1, hg1, hp1⟩ | ⟨ht, rfl⟩)
          · have hk : k < s.size := tok_full hle ht (signB_pos (by omega))
            have hnk := nxtM_lt hk
            have hnl := nxtM_le hle
            have hopj : opOf (tokB s k) = some 2 := by rw [HOP2.out]; exact if_pos ⟨by omega, by omega, ht.symm⟩
            have HOPJ := Hide.mk hopj
            have e1n : g1 n = some (.cells [.lit (.int .u8 0), .lit (.int .i64 0), .lit (.int .i64 0), .lit (.slice none 0 0)] true 0) := by rw [hg1 n (by omega) (by omega)]; simp (disch := omega) only [gput_lt]; exact hz'
            have e15 := hg1 n' (by omega) (by omega)
            rw [gput_eq] at e15
            have HO1 : Hide (∀ a, a < n → a ≠ p → g1 a = g a) := ⟨fun a ha hne => by rw [hg1 a (by omega) hne]; simp (disch := omega) only [gput_lt]; exact HG.out a ha⟩
            have P1 : PAt s p g1 n1 (nxtM s k) := HP'.out.step (by omega) (fun a ha hne => by rw [hg1 a (by omega) hne]; simp (disch := omega) only [gput_lt]) hp1 hnl
            have HP1 := Hide.mk P1
            have hnn1 : ¬n = n1 := by omega
            have hpn1 : ¬p = n1 := by omega
            have hn1' : ¬n' = n1 := by omega
            clear hg1 P1 hopj ht HOP2 HOP hz'
            iterate 12 (all_goals try (first | with_reducible refine splitI (fun h => ?_) (fun h => ?_) | with_reducible refine splitBI (fun h => ?_) (fun h => ?_) | simp (config := { maxSteps := 1000000 }) (disch := first | assumption | omega | (simp; done) | fail) [Tryd.results60, *]))
            refine WC.mono (HNU.out _ _ (nxtM s k) (HP1.out.keep (by omega) (fun a ha => (by simp (disch := omega) only [gput_lt])))) ?_
            rintro _ (⟨a1, g2, n2, hnum, rfl, hn2, hg2, hp2⟩ | ⟨hnum, g2, n2, rfl, hn2, hg2⟩)
            · have hres : singF s (m + 1) k = some (.ok (.mk 2 (a1 : Nat) 0 []) (nxtM s (nxtM s k))) := by
                rw [singF, if_neg (show ¬tokB s k = openT from HTT.out), HOPJ.out]
                dsimp only
                rw [if_neg (by decide), if_neg (by decide), if_neg (by decide), hnum]
                exact if_neg (by decide)
              have HRES := Hide.mk hres
              have e2 : g2 n = some (.cells [.lit (.int .u8 0), .lit (.int .i64 0), .lit (.int .i64 0), .lit (.slice none 0 0)] true 0) := by rw [hg2 n (by omega) (by omega)]; simp (disch := omega) only [gput_lt]; exact e1n
              have e7 : g2 n1 = some (.cells [.lit (.int .u8 2), .lit (.int .i64 0), .lit (.int .i64 0), .lit (.slice none 0 0)] true 0) := by rw [hg2 n1 (by omega) (by omega)]; simp (disch := omega) only [gput_eq]
              have HO2 : Hide (∀ a, a < n → a ≠ p → g2 a = g a) := ⟨fun a ha hne => by rw [hg2 a (by omega) hne]; simp (disch := omega) only [gput_lt]; exact HO1.out a ha hne⟩
              clear hg2 hres
              iterate 12 (all_goals try (first | with_reducible refine splitI (fun h => ?_) (fun h => ?_) | with_reducible refine splitBI (fun h => ?_) (fun h => ?_) | simp (config := { maxSteps := 1000000 }) (disch := first | assumption | omega | (simp; done) | fail) [Tryd.results60, *]))
              refine ⟨_, HRES.out, 2, (a1 : Nat), 0, .lit (.slice none 0 0), _, _, rfl, by omega, fun a ha hne => ?_, ?_, nxtM_le hnl, FreshN.leaf (by omega)⟩
              · simp (disch := omega) only [gput_ne, gput_lt]; exact HO2.out a ha hne
              · simp (disch := omega) only [gput_ne, gput_lt]; exact hp2
            · have hres : singF s (m + 1) k = some (.err (nxtM s k)) := by
                rw [singF, if_neg (show ¬tokB s k = openT from HTT.out), HOPJ.out]
                dsimp only
                rw [if_neg (by decide), if_neg (by decide), if_neg (by decide), hnum]
              have HRES := Hide.mk hres
              have HG2 := Hide.mk hg2
              clear hres hg2
              iterate 12 (all_goals try (first | with_reducible refine splitI (fun h => ?_) (fun h => ?_) | with_reducible refine splitBI (fun h => ?_) (fun h => ?_) | simp (config := { maxSteps := 1000000 }) (disch := first | assumption | omega | (simp; done) | fail) [Tryd.results60, *]))
              exact ⟨_, HRES.out, _, _, rfl, by omega, fun a ha hne => by rw [HG2.out a (by omega)]; simp (disch := omega) only [gput_lt]; exact HO1.out a ha hne, by rw [HG2.out p (by omega)]; simp (disch := omega) only [gput_lt]; exact HP1.out.cell, hnl⟩
          · have hop3 : opOf (tokB s k) = opFrom (tokB s k) ((List.range 15).drop (2 + 1)) := by rw [HOP2.out]; exact if_neg (fun h => ht h.2.2.symm)
            have HOP3 := Hide.mk hop3
            clear hop3 HOP2 HOP ht
            iterate 12 (all_goals try (first | with_reducible refine splitI (fun h => ?_) (fun h => ?_) | with_reducible refine splitBI (fun h => ?_) (fun h => ?_) | simp (config := { maxSteps := 1000000 }) (disch := first | assumption | omega | (simp; done) | fail) [Tryd.results60, *]))
            refine ih.out (15 - (2 + 1)) _ _ (by omega) ⟨2 + 1, n' + 1, _, by omega, rfl, rfl, by omega, fun b hb => (gput_lt (by omega)).trans (HG.out b hb), (gput_lt (by omega)).trans hz', by simp [*], by simp [*], by simp [*], by simp [*], HOP3.out⟩
      · rw [show subsM 3 = 0 from rfl] at hrow
        iterate 12 (all_goals try (first | with_reducible refine splitI (fun h => ?_) (fun h => ?_) | with_reducible refine splitBI (fun h => ?_) (fun h => ?_) | simp (config := { maxSteps := 1000000 }) (disch := first | assumption | omega | (simp; done) | fail) [Tryd.results60, *]))
        refine WC.mono (HT.out _ _ k (HP'.out.keep (by omega) (fun a ha => (by simp (disch := omega) only [gput_lt]))) _) ?_
        rintro _ (⟨ht, g1, n1, rfl, hn1, hg1, hp1⟩ | ⟨ht, rfl⟩)
        · have hk : k < s.size := tok_full hle ht (signB_pos (by omega))
          have hnk := nxtM_lt hk
          have hnl := nxtM_le hle
          have hopj : opOf (tokB s k) = some 3 := by rw [HOP2.out]; exact if_pos ⟨by omega, by omega, ht.symm⟩
          have HOPJ := Hide.mk hopj
          have e1n : g1 n = some (.cells [.lit (.int .u8 0), .lit (.int .i64 0), .lit (.int .i64 0), .lit (.slice none 0 0)] true 0) := by rw [hg1 n (by omega) (by omega)]; simp (disch := omega) only [gput_lt]; exact hz'
          have e15 := hg1 n' (by omega) (by omega)
          rw [gput_eq] at e15
          have HO1 : Hide (∀ a, a < n → a ≠ p → g1 a = g a) := ⟨fun a ha hne => by rw [hg1 a (by omega) hne]; simp (disch := omega) only [gput_lt]; exact HG.out a ha⟩
          have P1 : PAt s p g1 n1 (nxtM s k) := HP'.out.step (by omega) (fun a ha hne => by rw [hg1 a (by omega) hne]; simp (disch := omega) only [gput_lt]) hp1 hnl
          have HP1 := Hide.mk P1
          have hnn1 : ¬n = n1 := by omega
          have hpn1 : ¬p = n1 := by omega
          have hn1' : ¬n' = n1 := by omega
          clear hg1 P1 hopj ht HOP2 HOP hz'
          iterate 12 (all_goals try (first | with_reducible refine splitI (fun h => ?_) (fun h => ?_) | with_reducible refine splitBI (fun h => ?_) (fun h => ?_) | simp (config := { maxSteps := 1000000 }) (disch := first | assumption | omega | (simp; done) | fail) [Tryd.results60, *]))
          refine WC.mono (HNU.out _ _ (nxtM s k) (HP1.out.keep (by omega) (fun a ha => (by simp (disch := omega) only [gput_lt])))) ?_
          rintro _ (⟨a1, g2, n2, hnum, rfl, hn2, hg2, hp2⟩ | ⟨hnum, g2, n2, rfl, hn2, hg2⟩)
          · have e2 : g2 n = some (.cells [.lit (.int .u8 0), .lit (.int .i64 0), .lit (.int .i64 0), .lit (.slice none 0 0)] true 0) := by rw [hg2 n (by omega) (by omega)]; simp (disch := omega) only [gput_lt]; exact e1n
            have e7 : g2 n1 = some (.cells [.lit (.int .u8 3), .lit (.int .i64 0), .lit (.int .i64 0), .lit (.slice none 0 0)] true 0) := by rw [hg2 n1 (by omega) (by omega)]; simp (disch := omega) only [gput_eq]
            have HO2 : Hide (∀ a, a < n → a ≠ p → g2 a = g a) := ⟨fun a ha hne => by rw [hg2 a (by omega) hne]; simp (disch := omega) only [gput_lt]; exact HO1.out a ha hne⟩
            have P2 : PAt s p g2 n2 (nxtM s (nxtM s k)) := HP1.out.step (by omega) (fun a ha hne => by rw [hg2 a (by omega) hne]; simp (disch := omega) only [gput_lt]) hp2 (nxtM_le hnl)
            have HP2 := Hide.mk P2
            have HNUM := Hide.mk hnum
            clear hg2 P2 hnum
            iterate 12 (all_goals try (first | with_reducible refine splitI (fun h => ?_) (fun h => ?_) | with_reducible refine splitBI (fun h => ?_) (fun h => ?_) | simp (config := { maxSteps := 1000000 }) (disch := first | assumption | omega | (simp; done) | fail) [Tryd.results60, *]))
            refine WC.mono (HNU.out _ _ (nxtM s (nxtM s k)) (HP2.out.low (by omega) (fun a ha => by simp (disch := omega) only [gput_ne]))) ?_
            rintro _ (⟨a2, g3, n3, hnum2, rfl, hn3, hg3, hp3⟩ | ⟨hnum2, g3, n3, rfl, hn3, hg3⟩)
            · have hres : singF s (m + 1) k = some (.ok (.mk 3 (a1 : Nat) (a2 : Nat) []) (nxtM s (nxtM s (nxtM s k)))) := by
                rw [singF, if_neg (show ¬tokB s k = openT from HTT.out), HOPJ.out]
                dsimp only
                rw [if_neg (by decide), if_neg (by decide), if_neg (by decide), HNUM.out]
                dsimp only
                rw [if_pos rfl, hnum2]
              have HRES := Hide.mk hres
              have e3 : g3 n = some (.cells [.lit (.int .u8 0), .lit (.int .i64 0), .lit (.int .i64 0), .lit (.slice none 0 0)] true 0) := by rw [hg3 n (by omega) (by omega), gput_ne (by omega)]; exact e2
              have e8 := hg3 n1 (by omega) (by omega)
              rw [gput_eq] at e8
              have HO3 : Hide (∀ a, a < n → a ≠ p → g3 a = g a) := ⟨fun a ha hne => by rw [hg3 a (by omega) hne, gput_ne (by omega)]; exact HO2.out a ha hne⟩
              clear hg3 hres
              iterate 12 (all_goals try (first | with_reducible refine splitI (fun h => ?_) (fun h => ?_) | with_reducible refine splitBI (fun h => ?_) (fun h => ?_) | simp (config := { maxSteps := 1000000 }) (disch := first | assumption | omega | (simp; done) | fail) [Tryd.results60, *]))
              refine ⟨_, HRES.out, 3, (a1 : Nat), (a2 : Nat), .lit (.slice none 0 0), _, _, rfl, by omega, fun a ha hne => ?_, ?_, nxtM_le (nxtM_le hnl), FreshN.leaf (by omega)⟩
              · simp (disch := omega) only [gput_ne, gput_lt]; exact HO3.out a ha hne
              · simp (disch := omega) only [gput_ne, gput_lt]; exact hp3
            · have hres : singF s (m + 1) k = some (.err (nxtM s (nxtM s k))) := by
                rw [singF, if_neg (show ¬tokB s k = openT from HTT.out), HOPJ.out]
                dsimp only
                rw [if_neg (by decide), if_neg (by decide), if_neg (by decide), HNUM.out]
                dsimp only
                rw [if_pos rfl, hnum2]
              have HRES := Hide.mk hres
              have HG3 := Hide.mk hg3
              clear hres hg3
              iterate 12 (all_goals try (first | with_reducible refine splitI (fun h => ?_) (fun h => ?_) | with_reducible refine splitBI (fun h => ?_) (fun h => ?_) | simp (config := { maxSteps := 1000000 }) (disch := first | assumption | omega | (simp; done) | fail) [Tryd.results60, *]))
              exact ⟨_, HRES.out, _, _, rfl, by omega, fun a ha hne => by rw [HG3.out a (by omega), gput_ne (by omega)]; exact HO2.out a ha hne, by rw [HG3.out p (by omega), gput_ne (by omega)]; exact HP2.out.cell, nxtM_le hnl⟩
          · have hres : singF s (m + 1) k = some (.err (nxtM s k)) := by
              rw [singF, if_neg (show ¬tokB s k = openT from HTT.out), HOPJ.out]
              dsimp only
              rw [if_neg (by decide), if_neg (by decide), if_neg (by decide), hnum]
            have HRES := Hide.mk hres
            have HG2 := Hide.mk hg2
            clear hres hg2
            iterate 12 (all_goals try (first | with_reducible refine splitI (fun h => ?_) (fun h => ?_) | with_reducible refine splitBI (fun h => ?_) (fun h => ?_) | simp (config := { maxSteps := 1000000 }) (disch := first | assumption | omega | (simp; done) | fail) [Tryd.results60, *]))
            exact ⟨_, HRES.out, _, _, rfl, by omega, fun a ha hne => by rw [HG2.out a (by omega)]; simp (disch := omega) only [gput_lt]; exact HO1.out a ha hne, by rw [HG2.out p (by omega)]; simp (disch := omega) only [gput_lt]; exact HP1.out.cell, hnl⟩
        · have hop3 : opOf (tokB s k) = opFrom (tokB s k) ((List.range 15).drop (3 + 1)) := by rw [HOP2.out]; exact if_neg (fun h => ht h.2.2.symm)
          have HOP3 := Hide.mk hop3
          clear hop3 HOP2 HOP ht
          iterate 12 (all_goals try (first | with_reducible refine splitI (fun h => ?_) (fun h => ?_) | with_reducible refine splitBI (fun h => ?_) (fun h => ?_) | simp (config := { maxSteps := 1000000 }) (disch := first | assumption | omega | (simp; done) | fail) [Tryd.results60, *]))
          refine ih.out (15 - (3 + 1)) _ _ (by omega) ⟨3 + 1, n' + 1, _, by omega, rfl, rfl, by omega, fun b hb => (gput_lt (by omega)).trans (HG.out b hb), (gput_lt (by omega)).trans hz', by simp [*], by simp [*], by simp [*], by simp [*], HOP3.out⟩
      · rw [hs1] at hrow
        iterate 12 (all_goals try (first | with_reducible refine splitI (fun h => ?_) (fun h => ?_) | with_reducible refine splitBI (fun h => ?_) (fun h => ?_) | simp (config := { maxSteps := 1000000 }) (disch := first | assumption | omega | (simp; done) | fail) [Tryd.results60, *]))
        refine WC.mono (HT.out _ _ k (HP'.out.keep (by omega) (fun a ha => (by simp (disch := omega) only [gput_lt]))) _) ?_
        rintro _ (⟨ht, g1, n1, rfl, hn1, hg1, hp1⟩ | ⟨ht, rfl⟩)
        · have hk : k < s.size := tok_full hle ht (signB_pos (by omega))
          have hnk := nxtM_lt hk
          have hnl := nxtM_le hle
          have hopj : opOf (tokB s k) = some j := by rw [HOP2.out]; exact if_pos ⟨by omega, by omega, ht.symm⟩
          have HOPJ := Hide.mk hopj
          have e1n : g1 n = some (.cells [.lit (.int .u8 0), .lit (.int .i64 0), .lit (.int .i64 0), .lit (.slice none 0 0)] true 0) := by rw [hg1 n (by omega) (by omega)]; simp (disch := omega) only [gput_lt]; exact hz'
          have e15 := hg1 n' (by omega) (by omega)
          rw [gput_eq] at e15
          have HO1 : Hide (∀ a, a < n → a ≠ p → g1 a = g a) := ⟨fun a ha hne => by rw [hg1 a (by omega) hne]; simp (disch := omega) only [gput_lt]; exact HG.out a ha⟩
          have P1 : PAt s p g1 n1 (nxtM s k) := HP'.out.step (by omega) (fun a ha hne => by rw [hg1 a (by omega) hne]; simp (disch := omega) only [gput_lt]) hp1 hnl
          have HP1 := Hide.mk P1
          have hnn1 : ¬n = n1 := by omega
          have hpn1 : ¬p = n1 := by omega
          have hn1' : ¬n' = n1 := by omega
          clear hg1 P1 hopj ht HOP2 HOP hz'
          iterate 12 (all_goals try (first | with_reducible refine splitI (fun h => ?_) (fun h => ?_) | with_reducible refine splitBI (fun h => ?_) (fun h => ?_) | simp (config := { maxSteps := 1000000 }) (disch := first | assumption | omega | (simp; done) | fail) [Tryd.results60, *]))
          refine WC.mono (HS.out (nxtM s k) _ _ (HP1.out.keep (by omega) (fun a ha => (by simp (disch := omega) only [gput_lt]))) (by omega)) ?_
          rintro _ ⟨res, hrd, hend⟩
          cases res with
          | err k2 =>
            obtain ⟨g2, n2, rfl, hn2, hg2, hp2, hk2⟩ := hend
            have hres : singF s (m + 1) k = some (.err k2) := by
              rw [singF, if_neg (show ¬tokB s k = openT from HTT.out), HOPJ.out]
              dsimp only
              rw [if_neg (by rw [hs1]; decide), if_pos hs1, hrd]
            have HRES := Hide.mk hres
            have HG2 := Hide.mk hg2
            clear hres hg2 hrd
            iterate 12 (all_goals try (first | with_reducible refine splitI (fun h => ?_) (fun h => ?_) | with_reducible refine splitBI (fun h => ?_) (fun h => ?_) | simp (config := { maxSteps := 1000000 }) (disch := first | assumption | omega | (simp; done) | fail) [Tryd.results60, *]))
            exact ⟨_, HRES.out, _, _, rfl, by omega, fun a ha hne => by rw [HG2.out a (by omega) hne]; simp (disch := omega) only [gput_lt]; exact HO1.out a ha hne, hp2, hk2⟩
          | ok x k2 =>
            obtain ⟨op, qa, qb, sv, g2, n2, rfl, hn2, hg2, hp2, hk2, hfr⟩ := hend
            have h1c := repN_c hfr.rep
            have h1a : allOne [.lit (.int .u8 op), .lit (.int .i64 qa), .lit (.int .i64 qb), sv] = true := by simp [h1c]
            have hres : singF s (m + 1) k = some (.ok (.mk j 0 0 [x]) k2) := by
              rw [singF, if_neg (show ¬tokB s k = openT from HTT.out), HOPJ.out]
              dsimp only
              rw [if_neg (by rw [hs1]; decide), if_pos hs1, hrd]
            have HRES := Hide.mk hres
            have e2 : g2 n = some (.cells [.lit (.int .u8 0), .lit (.int .i64 0), .lit (.int .i64 0), .lit (.slice none 0 0)] true 0) := by rw [hg2 n (by omega) (by omega)]; simp (disch := omega) only [gput_lt]; exact e1n
            have e7 : g2 n1 = some (.cells [.lit (.int .u8 j), .lit (.int .i64 0), .lit (.int .i64 0), .lit (.slice none 0 0)] true 0) := by rw [hg2 n1 (by omega) (by omega)]; simp (disch := omega) only [gput_eq]
            have hnn2 : ¬n = n2 := by omega
            have hpn2 : ¬p = n2 := by omega
            have hn12 : ¬n1 = n2 := by omega
            have HFR := Hide.mk hfr
            have HO2 : Hide (∀ a, a < n → a ≠ p → g2 a = g a) := ⟨fun a ha hne => by rw [hg2 a (by omega) hne]; simp (disch := omega) only [gput_lt]; exact HO1.out a ha hne⟩
            clear hg2 hrd hfr hres
            iterate 12 (all_goals try (first | with_reducible refine splitI (fun h => ?_) (fun h => ?_) | with_reducible refine splitBI (fun h => ?_) (fun h => ?_) | simp (config := { maxSteps := 1000000 }) (disch := first | assumption | omega | (simp; done) | fail) [Tryd.results60, *]))
            refine ⟨_, HRES.out, j, 0, 0, .sl n2 0 1 1, _, _, rfl, by omega, fun a ha hne => ?_, ?_, hk2, (FreshN.node (FreshL.one (HFR.out.keep (n0 := n1 + 1) (by omega) (Nat.le_refl _) (fun _ _ _ => rfl))) rfl (by omega) (S := n2) ?_ (Nat.le_refl _) (by omega) (by omega) ?_).keep (n0 := n) (by omega) (Nat.le_refl _) (fun _ _ _ => rfl)⟩
            · simp (disch := omega) only [gput_ne, gput_lt]; exact HO2.out a ha hne
            · simp (disch := omega) only [gput_ne, gput_lt]; exact hp2
            · simp (disch := omega) only [gput_ne, gput_eq]
            · intro a h4 h5
              simp (disch := omega) only [gput_ne, gput_lt]
        · have hop3 : opOf (tokB s k) = opFrom (tokB s k) ((List.range 15).drop (j + 1)) := by rw [HOP2.out]; exact if_neg (fun h => ht h.2.2.symm)
          have HOP3 := Hide.mk hop3
          clear hop3 HOP2 HOP ht
          iterate 12 (all_goals try (first | with_reducible refine splitI (fun h => ?_) (fun h => ?_) | with_reducible refine splitBI (fun h => ?_) (fun h => ?_) | simp (config := { maxSteps := 1000000 }) (disch := first | assumption | omega | (simp; done) | fail) [Tryd.results60, *]))
          refine ih.out (15 - (j + 1)) _ _ (by omega) ⟨j + 1, n' + 1, _, by omega, rfl, rfl, by omega, fun b hb => (gput_lt (by omega)).trans (HG.out b hb), (gput_lt (by omega)).trans hz', by simp [*], by simp [*], by simp [*], by simp [*], HOP3.out⟩
  · have hjn : j = 15 := by omega
    subst hjn
    have hnone : opOf (tokB s k) = none := by rw [HOP.out]; rfl
    have hres : singF s (m + 1) k = some (.err k) := by
      rw [singF, if_neg (show ¬tokB s k = openT from HTT.out), hnone]
    have HRES := Hide.mk hres
    clear hres hnone
    iterate 12 (all_goals try (first | with_reducible refine splitI (fun h => ?_) (fun h => ?_) | with_reducible refine splitBI (fun h => ?_) (fun h => ?_) | simp (config := { maxSteps := 1000000 }) (disch := first | assumption | omega | (simp; done) | fail) [Tryd.results60, *]))
    exact ⟨_, HRES.out, _, _, rfl, by omega, fun a ha hne => HG.out a ha, HP'.out.cell, hle⟩
end Go.Ai
end

section
namespace Go.Ai
open Go.Proofs
set_option maxRecDepth 10000
set_option maxHeartbeats 40000000
theorem cell21 : loadB (some (false, 1)) (some opsB) 21 = some (.lit (.int .i64 2)) := by rfl
theorem cell22 : loadB (some (false, 1)) (some opsB) 22 = some (.lit (.string ⟨#[97, 110, 100]⟩)) := by rfl
theorem cell26 : loadB (some (false, 1)) (some opsB) 26 = some (.lit (.string ⟨#[111, 114]⟩)) := by rfl
theorem read_step {s : ByteArray} {p m : Nat} (hs : s.size ≤ 1000000) (hmm : m ≤ 100000000) (hR : ∀ m', m' ≤ m → ReadOK s p m') (hS : SingOK s p m) : ReadOK s p (m + 1) := by
  intro rank k g n h hr1 hr3 hm
  have hp0 := h.p0
  have hpn := h.pn
  have hle := h.le
  have HH := Hide.mk h
  have HT := Hide.mk (fun (g : Nat → Option Blk) (n : Nat) (k : Nat) (h : PAt s p g n k) t => take_w h hs t)
  have HRM := Hide.mk hR
  have HS := Hide.mk hS
  have hpn' : ¬p = n := by omega
  have hops := h.ops
  have c21 := cell21
  have c22 := cell22
  have c26 := cell26
  clear h hR hS
  have hrk : rank = 3 ∨ rank = 2 ∨ rank = 1 := by omega
  rcases hrk with rfl | rfl | rfl
  · refine WC.enterP (noO_ok _ _) hG pl42 Tryd.func42 rfl (by decide +kernel) (Nat.le_of_ble_eq_true (by kernel_rfl)) ?_
    iterate 12 (all_goals try (first | with_reducible refine splitI (fun h => ?_) (fun h => ?_) | with_reducible refine splitBI (fun h => ?_) (fun h => ?_) | simp (config := { maxSteps := 1000000 }) (disch := first | assumption | omega | (simp; done) | fail) [Tryd.results42, *]))
    refine WC.mono (HS.out k _ _ (HH.out.keep (by omega) (fun a ha => (by simp (disch := omega) only [gput_lt]))) (by omega)) ?_
    rintro _ ⟨res, hrd, hend⟩
    have hres : readF s (m + 1) 3 k = some res := by rw [readF, if_pos (by decide)]; exact hrd
    have HRES := Hide.mk hres
    clear hres hrd
    cases res with
    | err k2 =>
      obtain ⟨g2, n2, rfl, hn2, hg2, hp2, hk2⟩ := hend
      have HG2 := Hide.mk hg2
      clear hg2
      iterate 12 (all_goals try (first | with_reducible refine splitI (fun h => ?_) (fun h => ?_) | with_reducible refine splitBI (fun h => ?_) (fun h => ?_) | simp (config := { maxSteps := 1000000 }) (disch := first | assumption | omega | (simp; done) | fail) [Tryd.results42, *]))
      exact ⟨_, HRES.out, _, _, rfl, by omega, fun a ha hne => by rw [HG2.out a (by omega) hne]; simp (disch := omega) only [gput_lt], hp2, hk2⟩
    | ok x k2 =>
      obtain ⟨op, qa, qb, sv, g2, n2, rfl, hn2, hg2, hp2, hk2, hfr⟩ := hend
      have h1c := repN_c hfr.rep
      have h1a : allOne [.lit (.int .u8 op), .lit (.int .i64 qa), .lit (.int .i64 qb), sv] = true := by simp [h1c]
      have e2 : g2 n = some (.cells [.lit (.int .u8 0), .lit (.int .i64 0), .lit (.int .i64 0), .lit (.slice none 0 0)] true 0) := by rw [hg2 n (by omega) (by omega)]; simp
      have HFR := Hide.mk hfr
      have HG2 := Hide.mk hg2
      clear hg2 hfr
      iterate 12 (all_goals try (first | with_reducible refine splitI (fun h => ?_) (fun h => ?_) | with_reducible refine splitBI (fun h => ?_) (fun h => ?_) | simp (config := { maxSteps := 1000000 }) (disch := first | assumption | omega | (simp; done) | fail) [Tryd.results42, *]))
      refine ⟨_, HRES.out, _, _, _, _, _, _, rfl, by omega, fun a ha hne => ?_, by rw [gput_ne hpn']; exact hp2, hk2, HFR.out.keep (by omega) (by omega) (fun a h4 h5 => gput_ne (by omega))⟩
      rw [gput_lt ha, HG2.out a (by omega) hne]
      simp (disch := omega) only [gput_lt]
  · -- rank 2
    refine WC.enterP (noO_ok _ _) hG pl42 Tryd.func42 rfl (by decide +kernel) (Nat.le_of_ble_eq_true (by kernel_rfl)) ?_
    iterate 12 (all_goals try (first | with_reducible refine splitI (fun h => ?_) (fun h => ?_) | with_reducible refine splitBI (fun h => ?_) (fun h => ?_) | simp (config := { maxSteps := 1000000 }) (disch := first | assumption | omega | (simp; done) | fail) [Tryd.results42, *]))
    refine WC.mono (HRM.out m (Nat.le_refl _) 3 k _ _ (HH.out.keep (by omega) (fun a ha => (by simp (disch := omega) only [gput_lt]))) (by omega) (by omega) (by omega)) ?_
    rintro _ ⟨res, hrd, hend⟩
    cases res with
    | err k2 =>
      obtain ⟨g2, n2, rfl, hn2, hg2, hp2, hk2⟩ := hend
      have hres : readF s (m + 1) 2 k = some (.err k2) := by rw [readF, if_neg (by decide), hrd]
      have HRES := Hide.mk hres
      have HG2 := Hide.mk hg2
      clear hres hg2 hrd
      iterate 12 (all_goals try (first | with_reducible refine splitI (fun h => ?_) (fun h => ?_) | with_reducible refine splitBI (fun h => ?_) (fun h => ?_) | simp (config := { maxSteps := 1000000 }) (disch := first | assumption | omega | (simp; done) | fail) [Tryd.results42, *]))
      exact ⟨_, HRES.out, _, _, rfl, by omega, fun a ha hne => by rw [HG2.out a (by omega) hne]; simp (disch := omega) only [gput_lt], hp2, hk2⟩
    | ok x k1 =>
      obtain ⟨op, qa, qb, sv, g1, n1, rfl, hn1, hg1, hp1, hk1, hfr⟩ := hend
      have hgd := ((read_good m).1 _ _ _ _ hle hrd).1
      have h1c := repN_c hfr.rep
      have h1a : allOne [.lit (.int .u8 op), .lit (.int .i64 qa), .lit (.int .i64 qb), sv] = true := by simp [h1c]
      have e1 : g1 n = some (.cells [.lit (.int .u8 0), .lit (.int .i64 0), .lit (.int .i64 0), .lit (.slice none 0 0)] true 0) := by rw [hg1 n (by omega) (by omega)]; simp
      have hnn1 : ¬n = n1 := by omega
      have hpn1 : ¬p = n1 := by omega
      have hres : readF s (m + 1) 2 k = loopF s m 2 x k1 := by rw [readF, if_neg (by decide), hrd]
      have HRES := Hide.mk hres
      have HFR := Hide.mk hfr
      have HO1 : Hide (∀ a, a < n → a ≠ p → g1 a = g a) := ⟨fun a ha hne => by rw [hg1 a (by omega) hne]; simp (disch := omega) only [gput_lt]⟩
      have P1 : PAt s p g1 n1 k1 := HH.out.step (by omega) (fun a ha hne => HO1.out a ha hne) hp1 hk1
      have HP1 := Hide.mk P1
      clear hg1 hrd hfr hres P1
      iterate 12 (all_goals try (first | with_reducible refine splitI (fun h => ?_) (fun h => ?_) | with_reducible refine splitBI (fun h => ?_) (fun h => ?_) | simp (config := { maxSteps := 1000000 }) (disch := first | assumption | omega | (simp; done) | fail) [Tryd.results42, *]))
      refine LX.ind (fun m' gf H' => ∃ (x' : NodeM) (op' : Nat) (a' b' : Int) (sv' : AV) (k' n' : Nat) (g' : Nat → Option Blk), H' = ⟨.fn g', n'⟩ ∧ n1 < n' ∧ g' n1 = some (.cells [.lit (.int .u8 op'), .lit (.int .i64 a'), .lit (.int .i64 b'), sv'] true 0) ∧ oneC sv' = true ∧
        FreshQ g' (n + 1) n1 n' x' [.lit (.int .u8 op'), .lit (.int .i64 a'), .lit (.int .i64 b'), sv'] ∧ (∀ a, a < n → a ≠ p → g' a = g a) ∧ g' n = some (.cells [.lit (.int .u8 0), .lit (.int .i64 0), .lit (.int .i64 0), .lit (.slice none 0 0)] true 0) ∧ PAt s p g' n' k' ∧ k < k' ∧
        gf 0 = some (.ptr p 0) ∧ gf 1 = some (.lit (.int .i64 2)) ∧ gf 4 = some (.ptr n 0) ∧ gf 5 = some (.ptr n1 0) ∧
        readF s (m + 1) 2 k = loopF s m' 2 x' k' ∧ 20 * (s.size - k') + 1 ≤ m' ∧ m' ≤ m) (m0 := m) ?_ ?_
      · refine ⟨x, op, qa, qb, sv, k1, n1 + 1, _, rfl, by omega, gput_eq, h1c, FreshQ.of HFR.out (Nat.le_refl _) (by omega) (fun a h4 h5 => (by simp (disch := omega) only [gput_lt])), fun a ha hne => ?_, ?_, HP1.out.keep (by omega) (fun a ha => (by simp (disch := omega) only [gput_lt])), hgd, by simp, by simp, by simp, by simp, HRES.out, by omega, Nat.le_refl _⟩
        · simp (disch := omega) only [gput_lt]; exact HO1.out a ha hne
        · simp (disch := omega) only [gput_lt]; exact e1
      rintro m' gf H' ⟨x', op', a', b', sv', k', n', g', rfl, hn', hq', h1c', hfq, hg', hz', P', hkk, q0, q1, q4, q5, hld, hm1, hm2⟩ ih
      refine LX.roundP (noO_ok _ _) hG pl42 (by decide +kernel) ?_
      have h1a' : allOne [.lit (.int .u8 op'), .lit (.int .i64 a'), .lit (.int .i64 b'), sv'] = true := by simp [h1c']
      have HFQ := Hide.mk hfq
      have HG' := Hide.mk hg'
      have HP' := Hide.mk P'
      have HLD := Hide.mk hld
      have hle' := P'.le
      have hops' := P'.ops
      have hp' := P'.p0
      obtain ⟨m'', rfl⟩ : ∃ m'', m' = m'' + 1 := ⟨m' - 1, by omega⟩
      clear hfq hg' P' hld HO1 HFR HRES HP1 h1a e1 hops
      iterate 12 (all_goals try (first | with_reducible refine splitI (fun h => ?_) (fun h => ?_) | with_reducible refine splitBI (fun h => ?_) (fun h => ?_) | simp (config := { maxSteps := 1000000 }) (disch := first | assumption | omega | (simp; done) | fail) [Tryd.results42, *]))
      refine WC.mono (HT.out _ _ k' (HP'.out.keep (by omega) (fun a ha => by first | rfl | simp (disch := omega) only [gput_lt])) _) ?_
      rintro _ (⟨ht, g2, n2, rfl, hn2, hg2, hp2⟩ | ⟨ht, rfl⟩)
      · have hks : k' < s.size := tok_full hle' ht (by decide)
        have hnk := nxtM_lt hks
        have hq2 := (hg2 n1 (by omega) (by omega)).trans hq'
        have hz2 := (hg2 n (by omega) (by omega)).trans hz'
        have P2 : PAt s p g2 n2 (nxtM s k') := HP'.out.step hn2 hg2 hp2 (nxtM_le hle')
        have HP2 := Hide.mk P2
        have HQ2 : Hide (FreshQ g2 (n + 1) n1 n2 x' [.lit (.int .u8 op'), .lit (.int .i64 a'), .lit (.int .i64 b'), sv']) := ⟨HFQ.out.keep hn2 (fun a h4 h5 h6 => hg2 a (by omega) (by omega))⟩
        have HO2 : Hide (∀ a, a < n → a ≠ p → g2 a = g a) := ⟨fun a ha hne => (hg2 a (by omega) hne).trans (HG'.out a ha hne)⟩
        have HTT := Hide.mk ht
        clear hg2 P2 ht
        iterate 12 (all_goals try (first | with_reducible refine splitI (fun h => ?_) (fun h => ?_) | with_reducible refine splitBI (fun h => ?_) (fun h => ?_) | simp (config := { maxSteps := 1000000 }) (disch := first | assumption | omega | (simp; done) | fail) [Tryd.results42, *]))
        refine WC.mono (HRM.out m'' (by omega) 3 (nxtM s k') _ _ (HP2.out.keep (by omega) (fun a ha => by first | rfl | simp (disch := omega) only [gput_lt])) (by omega) (by omega) (by omega)) ?_
        rintro _ ⟨res, hrd, hend⟩
        cases res with
        | err k3 =>
          obtain ⟨g3, n3, rfl, hn3, hg3, hp3, hk3⟩ := hend
          have hres : readF s (m + 1) 2 k = some (.err k3) := by rw [HLD.out, loopF, if_pos (show tokB s k' = signB (bopM 2) from HTT.out), hrd]
          have HRES := Hide.mk hres
          have HG3 := Hide.mk hg3
          clear hres hg3 hrd
          iterate 12 (all_goals try (first | with_reducible refine splitI (fun h => ?_) (fun h => ?_) | with_reducible refine splitBI (fun h => ?_) (fun h => ?_) | simp (config := { maxSteps := 1000000 }) (disch := first | assumption | omega | (simp; done) | fail) [Tryd.results42, *]))
          exact ⟨_, HRES.out, _, _, rfl, by omega, fun a ha hne => (HG3.out a (by omega) hne).trans (HO2.out a ha hne), hp3, hk3⟩
        | ok y k3 =>
          obtain ⟨op3, ya, yb, sv3, g3, n3, rfl, hn3, hg3, hp3, hk3, hfr3⟩ := hend
          have hgd3 := ((read_good m'').1 _ _ _ _ (nxtM_le hle') hrd).1
          have h1c3 := repN_c hfr3.rep
          have h1a3 : allOne [.lit (.int .u8 op3), .lit (.int .i64 ya), .lit (.int .i64 yb), sv3] = true := by simp [h1c3]
          have hres : readF s (m + 1) 2 k = loopF s m'' 2 (.mk 5 0 0 [x', y]) k3 := by rw [HLD.out, loopF, if_pos (show tokB s k' = signB (bopM 2) from HTT.out), hrd]; rfl
          have HRES := Hide.mk hres
          have hq3 := (hg3 n1 (by omega) (by omega)).trans hq2
          have hz3 := (hg3 n (by omega) (by omega)).trans hz2
          have hn13 : ¬n1 = n3 := by omega
          have hnn3 : ¬n = n3 := by omega
          have HQ3 : Hide (FreshQ g3 (n + 1) n1 n3 x' [.lit (.int .u8 op'), .lit (.int .i64 a'), .lit (.int .i64 b'), sv']) := ⟨HQ2.out.keep hn3 (fun a h4 h5 h6 => hg3 a (by omega) (by omega))⟩
          have HFY := Hide.mk hfr3
          have HO3 : Hide (∀ a, a < n → a ≠ p → g3 a = g a) := ⟨fun a ha hne => (hg3 a (by omega) hne).trans (HO2.out a ha hne)⟩
          have P3 : PAt s p g3 n3 k3 := HP2.out.step hn3 hg3 hp3 hk3
          have HP3 := Hide.mk P3
          clear hg3 hrd hfr3 hres P3
          iterate 12 (all_goals try (first | with_reducible refine splitI (fun h => ?_) (fun h => ?_) | with_reducible refine splitBI (fun h => ?_) (fun h => ?_) | simp (config := { maxSteps := 1000000 }) (disch := first | assumption | omega | (simp; done) | fail) [Tryd.results42, *]))
          refine ih.out m'' _ _ (by omega) ⟨.mk 5 0 0 [x', y], 5, 0, 0, .sl n3 0 2 2, k3, n3 + 1, _, rfl, by omega, gput_eq, rfl, HQ3.out.bin HFY.out (n2 := n3 + 1) (by omega) (by omega) (by omega) (S := n3) ?_ (by omega) (Nat.le_refl _) (by omega) (by omega) ?_, fun a ha hne => ?_, ?_, HP3.out.low (by omega) (fun a ha => by simp (disch := omega) only [gput_ne]), by omega, by simp [*], by simp [*], by simp [*], by simp [*], HRES.out, by omega, by omega⟩
          · simp (disch := omega) only [gput_ne, gput_eq]
            rfl
          · intro a h5 h6 h7
            simp (disch := omega) only [gput_ne]
          · simp (disch := omega) only [gput_ne]
            exact HO3.out a ha hne
          · simp (disch := omega) only [gput_ne]
            exact hz3
      · have hres : readF s (m + 1) 2 k = some (.ok x' k') := by rw [HLD.out, loopF, if_neg (show ¬tokB s k' = signB (bopM 2) from ht)]
        have HRES := Hide.mk hres
        clear hres ht
        iterate 12 (all_goals try (first | with_reducible refine splitI (fun h => ?_) (fun h => ?_) | with_reducible refine splitBI (fun h => ?_) (fun h => ?_) | simp (config := { maxSteps := 1000000 }) (disch := first | assumption | omega | (simp; done) | fail) [Tryd.results42, *]))
        refine ⟨_, HRES.out, _, _, _, _, _, _, rfl, by omega, fun a ha hne => ?_, ?_, hle', HFQ.out.fresh (by omega) (by omega) (fun a h4 h5 h6 => by rw [gput_ne (by omega)])⟩
        · rw [gput_lt ha]; exact HG'.out a ha hne
        · rw [gput_ne (by omega)]; exact HP'.out.cell
  · -- rank 1
    refine WC.enterP (noO_ok _ _) hG pl42 Tryd.func42 rfl (by decide +kernel) (Nat.le_of_ble_eq_true (by kernel_rfl)) ?_
    iterate 12 (all_goals try (first | with_reducible refine splitI (fun h => ?_) (fun h => ?_) | with_reducible refine splitBI (fun h => ?_) (fun h => ?_) | simp (config := { maxSteps := 1000000 }) (disch := first | assumption | omega | (simp; done) | fail) [Tryd.results42, *]))
    refine WC.mono (HRM.out m (Nat.le_refl _) 2 k _ _ (HH.out.keep (by omega) (fun a ha => (by simp (disch := omega) only [gput_lt]))) (by omega) (by omega) (by omega)) ?_
    rintro _ ⟨res, hrd, hend⟩
    cases res with
    | err k2 =>
      obtain ⟨g2, n2, rfl, hn2, hg2, hp2, hk2⟩ := hend
      have hres : readF s (m + 1) 1 k = some (.err k2) := by rw [readF, if_neg (by decide), hrd]
      have HRES := Hide.mk hres
      have HG2 := Hide.mk hg2
      clear hres hg2 hrd
      iterate 12 (all_goals try (first | with_reducible refine splitI (fun h => ?_) (fun h => ?_) | with_reducible refine splitBI (fun h => ?_) (fun h => ?_) | simp (config := { maxSteps := 1000000 }) (disch := first | assumption | omega | (simp; done) | fail) [Tryd.results42, *]))
      exact ⟨_, HRES.out, _, _, rfl, by omega, fun a ha hne => by rw [HG2.out a (by omega) hne]; simp (disch := omega) only [gput_lt], hp2, hk2⟩
    | ok x k1 =>
      obtain ⟨op, qa, qb, sv, g1, n1, rfl, hn1, hg1, hp1, hk1, hfr⟩ := hend
      have hgd := ((read_good m).1 _ _ _ _ hle hrd).1
      have h1c := repN_c hfr.rep
      have h1a : allOne [.lit (.int .u8 op), .lit (.int .i64 qa), .lit (.int .i64 qb), sv] = true := by simp [h1c]
      have e1 : g1 n = some (.cells [.lit (.int .u8 0), .lit (.int .i64 0), .lit (.int .i64 0), .lit (.slice none 0 0)] true 0) := by rw [hg1 n (by omega) (by omega)]; simp
      have hnn1 : ¬n = n1 := by omega
      have hpn1 : ¬p = n1 := by omega
      have hres : readF s (m + 1) 1 k = loopF s m 1 x k1 := by rw [readF, if_neg (by decide), hrd]
      have HRES := Hide.mk hres
      have HFR := Hide.mk hfr
      have HO1 : Hide (∀ a, a < n → a ≠ p → g1 a = g a) := ⟨fun a ha hne => by rw [hg1 a (by omega) hne]; simp (disch := omega) only [gput_lt]⟩
      have P1 : PAt s p g1 n1 k1 := HH.out.step (by omega) (fun a ha hne => HO1.out a ha hne) hp1 hk1
      have HP1 := Hide.mk P1
      clear hg1 hrd hfr hres P1
      iterate 12 (all_goals try (first | with_reducible refine splitI (fun h => ?_) (fun h => ?_) | with_reducible refine splitBI (fun h => ?_) (fun h => ?_) | simp (config := { maxSteps := 1000000 }) (disch := first | assumption | omega | (simp; done) | fail) [Tryd.results42, *]))
      refine LX.ind (fun m' gf H' => ∃ (x' : NodeM) (op' : Nat) (a' b' : Int) (sv' : AV) (k' n' : Nat) (g' : Nat → Option Blk), H' = ⟨.fn g', n'⟩ ∧ n1 < n' ∧ g' n1 = some (.cells [.lit (.int .u8 op'), .lit (.int .i64 a'), .lit (.int .i64 b'), sv'] true 0) ∧ oneC sv' = true ∧
        FreshQ g' (n + 1) n1 n' x' [.lit (.int .u8 op'), .lit (.int .i64 a'), .lit (.int .i64 b'), sv'] ∧ (∀ a, a < n → a ≠ p → g' a = g a) ∧ g' n = some (.cells [.lit (.int .u8 0), .lit (.int .i64 0), .lit (.int .i64 0), .lit (.slice none 0 0)] true 0) ∧ PAt s p g' n' k' ∧ k < k' ∧
        gf 0 = some (.ptr p 0) ∧ gf 1 = some (.lit (.int .i64 1)) ∧ gf 4 = some (.ptr n 0) ∧ gf 5 = some (.ptr n1 0) ∧
        readF s (m + 1) 1 k = loopF s m' 1 x' k' ∧ 20 * (s.size - k') + 1 ≤ m' ∧ m' ≤ m) (m0 := m) ?_ ?_
      · refine ⟨x, op, qa, qb, sv, k1, n1 + 1, _, rfl, by omega, gput_eq, h1c, FreshQ.of HFR.out (Nat.le_refl _) (by omega) (fun a h4 h5 => (by simp (disch := omega) only [gput_lt])), fun a ha hne => ?_, ?_, HP1.out.keep (by omega) (fun a ha => (by simp (disch := omega) only [gput_lt])), hgd, by simp, by simp, by simp, by simp, HRES.out, by omega, Nat.le_refl _⟩
        · simp (disch := omega) only [gput_lt]; exact HO1.out a ha hne
        · simp (disch := omega) only [gput_lt]; exact e1
      rintro m' gf H' ⟨x', op', a', b', sv', k', n', g', rfl, hn', hq', h1c', hfq, hg', hz', P', hkk, q0, q1, q4, q5, hld, hm1, hm2⟩ ih
      refine LX.roundP (noO_ok _ _) hG pl42 (by decide +kernel) ?_
      have h1a' : allOne [.lit (.int .u8 op'), .lit (.int .i64 a'), .lit (.int .i64 b'), sv'] = true := by simp [h1c']
      have HFQ := Hide.mk hfq
      have HG' := Hide.mk hg'
      have HP' := Hide.mk P'
      have HLD := Hide.mk hld
      have hle' := P'.le
      have hops' := P'.ops
      have hp' := P'.p0
      obtain ⟨m'', rfl⟩ : ∃ m'', m' = m'' + 1 := ⟨m' - 1, by omega⟩
      clear hfq hg' P' hld HO1 HFR HRES HP1 h1a e1 hops
      iterate 12 (all_goals try (first | with_reducible refine splitI (fun h => ?_) (fun h => ?_) | with_reducible refine splitBI (fun h => ?_) (fun h => ?_) | simp (config := { maxSteps := 1000000 }) (disch := first | assumption | omega | (simp; done) | fail) [Tryd.results42, *]))
      refine WC.mono (HT.out _ _ k' (HP'.out.keep (by omega) (fun a ha => by first | rfl | simp (disch := omega) only [gput_lt])) _) ?_
      rintro _ (⟨ht, g2, n2, rfl, hn2, hg2, hp2⟩ | ⟨ht, rfl⟩)
      · have hks : k' < s.size := tok_full hle' ht (by decide)
        have hnk := nxtM_lt hks
        have hq2 := (hg2 n1 (by omega) (by omega)).trans hq'
        have hz2 := (hg2 n (by omega) (by omega)).trans hz'
        have P2 : PAt s p g2 n2 (nxtM s k') := HP'.out.step hn2 hg2 hp2 (nxtM_le hle')
        have HP2 := Hide.mk P2
        have HQ2 : Hide (FreshQ g2 (n + 1) n1 n2 x' [.lit (.int .u8 op'), .lit (.int .i64 a'), .lit (.int .i64 b'), sv']) := ⟨HFQ.out.keep hn2 (fun a h4 h5 h6 => hg2 a (by omega) (by omega))⟩
        have HO2 : Hide (∀ a, a < n → a ≠ p → g2 a = g a) := ⟨fun a ha hne => (hg2 a (by omega) hne).trans (HG'.out a ha hne)⟩
        have HTT := Hide.mk ht
        clear hg2 P2 ht
        iterate 12 (all_goals try (first | with_reducible refine splitI (fun h => ?_) (fun h => ?_) | with_reducible refine splitBI (fun h => ?_) (fun h => ?_) | simp (config := { maxSteps := 1000000 }) (disch := first | assumption | omega | (simp; done) | fail) [Tryd.results42, *]))
        refine WC.mono (HRM.out m'' (by omega) 2 (nxtM s k') _ _ (HP2.out.keep (by omega) (fun a ha => by first | rfl | simp (disch := omega) only [gput_lt])) (by omega) (by omega) (by omega)) ?_
        rintro _ ⟨res, hrd, hend⟩
        cases res with
        | err k3 =>
          obtain ⟨g3, n3, rfl, hn3, hg3, hp3, hk3⟩ := hend
          have hres : readF s (m + 1) 1 k = some (.err k3) := by rw [HLD.out, loopF, if_pos (show tokB s k' = signB (bopM 1) from HTT.out), hrd]
          have HRES := Hide.mk hres
          have HG3 := Hide.mk hg3
          clear hres hg3 hrd
          iterate 12 (all_goals try (first | with_reducible refine splitI (fun h => ?_) (fun h => ?_) | with_reducible refine splitBI (fun h => ?_) (fun h => ?_) | simp (config := { maxSteps := 1000000 }) (disch := first | assumption | omega | (simp; done) | fail) [Tryd.results42, *]))
          exact ⟨_, HRES.out, _, _, rfl, by omega, fun a ha hne => (HG3.out a (by omega) hne).trans (HO2.out a ha hne), hp3, hk3⟩
        | ok y k3 =>
          obtain ⟨op3, ya, yb, sv3, g3, n3, rfl, hn3, hg3, hp3, hk3, hfr3⟩ := hend
          have hgd3 := ((read_good m'').1 _ _ _ _ (nxtM_le hle') hrd).1
          have h1c3 := repN_c hfr3.rep
          have h1a3 : allOne [.lit (.int .u8 op3), .lit (.int .i64 ya), .lit (.int .i64 yb), sv3] = true := by simp [h1c3]
          have hres : readF s (m + 1) 1 k = loopF s m'' 1 (.mk 6 0 0 [x', y]) k3 := by rw [HLD.out, loopF, if_pos (show tokB s k' = signB (bopM 1) from HTT.out), hrd]; rfl
          have HRES := Hide.mk hres
          have hq3 := (hg3 n1 (by omega) (by omega)).trans hq2
          have hz3 := (hg3 n (by omega) (by omega)).trans hz2
          have hn13 : ¬n1 = n3 := by omega
          have hnn3 : ¬n = n3 := by omega
          have HQ3 : Hide (FreshQ g3 (n + 1) n1 n3 x' [.lit (.int .u8 op'), .lit (.int .i64 a'), .lit (.int .i64 b'), sv']) := ⟨HQ2.out.keep hn3 (fun a h4 h5 h6 => hg3 a (by omega) (by omega))⟩
          have HFY := Hide.mk hfr3
          have HO3 : Hide (∀ a, a < n → a ≠ p → g3 a = g a) := ⟨fun a ha hne => (hg3 a (by omega) hne).trans (HO2.out a ha hne)⟩
          have P3 : PAt s p g3 n3 k3 := HP2.out.step hn3 hg3 hp3 hk3
          have HP3 := Hide.mk P3
          clear hg3 hrd hfr3 hres P3
          iterate 12 (all_goals try (first | with_reducible refine splitI (fun h => ?_) (fun h => ?_) | with_reducible refine splitBI (fun h => ?_) (fun h => ?_) | simp (config := { maxSteps := 1000000 }) (disch := first | assumption | omega | (simp; done) | fail) [Tryd.results42, *]))
          refine ih.out m'' _ _ (by omega) ⟨.mk 6 0 0 [x', y], 6, 0, 0, .sl n3 0 2 2, k3, n3 + 1, _, rfl, by omega, gput_eq, rfl, HQ3.out.bin HFY.out (n2 := n3 + 1) (by omega) (by omega) (by omega) (S := n3) ?_ (by omega) (Nat.le_refl _) (by omega) (by omega) ?_, fun a ha hne => ?_, ?_, HP3.out.low (by omega) (fun a ha => by simp (disch := omega) only [gput_ne]), by omega, by simp [*], by simp [*], by simp [*], by simp [*], HRES.out, by omega, by omega⟩
          · simp (disch := omega) only [gput_ne, gput_eq]
            rfl
          · intro a h5 h6 h7
            simp (disch := omega) only [gput_ne]
          · simp (disch := omega) only [gput_ne]
            exact HO3.out a ha hne
          · simp (disch := omega) only [gput_ne]
            exact hz3
      · have hres : readF s (m + 1) 1 k = some (.ok x' k') := by rw [HLD.out, loopF, if_neg (show ¬tokB s k' = signB (bopM 1) from ht)]
        have HRES := Hide.mk hres
        clear hres ht
        iterate 12 (all_goals try (first | with_reducible refine splitI (fun h => ?_) (fun h => ?_) | with_reducible refine splitBI (fun h => ?_) (fun h => ?_) | simp (config := { maxSteps := 1000000 }) (disch := first | assumption | omega | (simp; done) | fail) [Tryd.results42, *]))
        refine ⟨_, HRES.out, _, _, _, _, _, _, rfl, by omega, fun a ha hne => ?_, ?_, hle', HFQ.out.fresh (by omega) (by omega) (fun a h4 h5 h6 => by rw [gput_ne (by omega)])⟩
        · rw [gput_lt ha]; exact HG'.out a ha hne
        · rw [gput_ne (by omega)]; exact HP'.out.cell
theorem par_ok {s : ByteArray} {p : Nat} (hs : s.size ≤ 1000000) : ∀ m, m ≤ 100000000 → ReadOK s p m ∧ SingOK s p m := by
  intro m
  induction m using Nat.strongRecOn with
  | _ m IH =>
  intro hm
  cases m with
  | zero => exact ⟨fun rank k g n h h1 h2 h3 => by omega, fun k g n h h1 => by omega⟩
  | succ m =>
    exact ⟨read_step hs (by omega) (fun m' h => (IH m' (by omega) (by omega)).1) (IH m (by omega) (by omega)).2, single_w hs (IH m (by omega) (by omega)).1 (IH m (by omega) (by omega)).2⟩
end Go.Ai
end

section
namespace Go.Ai
open Go.Proofs
set_option maxRecDepth 10000
set_option maxHeartbeats 40000000
def kindM (c : Int) : Int := if letterM c = true then 1 else if digitM c = true then 2 else 0
theorem kind_w (c : Int) (H : Mem) : WC 6 Tryd.prog 63 [.lit (.int .u8 c)] H fun r => r = .ret (.lit (.int .i64 (kindM c))) H := by
  have hk : kindM c = if (97 ≤ c ∧ c ≤ 122) ∨ (65 ≤ c ∧ c ≤ 90) then 1 else if 48 ≤ c ∧ c ≤ 57 then 2 else 0 := by
    unfold kindM letterM digitM
    simp only [Bool.or_eq_true, decide_eq_true_eq]
  rw [hk]
  rcases (by omega : (97 ≤ c ∧ c ≤ 122) ∨ (¬97 ≤ c ∧ 65 ≤ c ∧ c ≤ 90) ∨ (¬97 ≤ c ∧ ¬65 ≤ c ∧ 48 ≤ c ∧ c ≤ 57) ∨ (¬97 ≤ c ∧ ¬65 ≤ c ∧ ¬48 ≤ c) ∨ (¬97 ≤ c ∧ ¬65 ≤ c ∧ 48 ≤ c ∧ ¬c ≤ 57) ∨ (¬97 ≤ c ∧ 65 ≤ c ∧ ¬c ≤ 90 ∧ 48 ≤ c ∧ ¬c ≤ 57) ∨ (97 ≤ c ∧ ¬c ≤ 122 ∧ 65 ≤ c ∧ ¬c ≤ 90 ∧ 48 ≤ c ∧ ¬c ≤ 57)) with h | h | h | h | h | h | h
  · rw [if_pos (.inl h)]
    obtain ⟨h1, h2⟩ := h
    refine WC.enterP (noO_ok _ _) hG [] Tryd.func63 rfl (by decide +kernel) (Nat.le_of_ble_eq_true (by kernel_rfl)) ?_
    iterate 12 (all_goals try (first | with_reducible refine splitI (fun h => ?_) (fun h => ?_) | with_reducible refine splitBI (fun h => ?_) (fun h => ?_) | simp (config := { maxSteps := 1000000 }) (disch := first | assumption | omega | (simp; done) | fail) [Tryd.results63, *]))
  · rw [if_pos (.inr h.2)]
    obtain ⟨h1, h2, h3⟩ := h
    refine WC.enterP (noO_ok _ _) hG [] Tryd.func63 rfl (by decide +kernel) (Nat.le_of_ble_eq_true (by kernel_rfl)) ?_
    iterate 12 (all_goals try (first | with_reducible refine splitI (fun h => ?_) (fun h => ?_) | with_reducible refine splitBI (fun h => ?_) (fun h => ?_) | simp (config := { maxSteps := 1000000 }) (disch := first | assumption | omega | (simp; done) | fail) [Tryd.results63, *]))
  · rw [if_neg (by omega), if_pos h.2.2]
    obtain ⟨h1, h2, h3, h4⟩ := h
    refine WC.enterP (noO_ok _ _) hG [] Tryd.func63 rfl (by decide +kernel) (Nat.le_of_ble_eq_true (by kernel_rfl)) ?_
    iterate 12 (all_goals try (first | with_reducible refine splitI (fun h => ?_) (fun h => ?_) | with_reducible refine splitBI (fun h => ?_) (fun h => ?_) | simp (config := { maxSteps := 1000000 }) (disch := first | assumption | omega | (simp; done) | fail) [Tryd.results63, *]))
  all_goals
    rw [if_neg (by omega), if_neg (by omega)]
    refine WC.enterP (noO_ok _ _) hG [] Tryd.func63 rfl (by decide +kernel) (Nat.le_of_ble_eq_true (by kernel_rfl)) ?_
    iterate 12 (all_goals try (first | with_reducible refine splitI (fun h => ?_) (fun h => ?_) | with_reducible refine splitBI (fun h => ?_) (fun h => ?_) | simp (config := { maxSteps := 1000000 }) (disch := first | assumption | omega | (simp; done) | fail) [Tryd.results63, *]))
/-- The tokens so far. -/
def OutR (s : ByteArray) (g : Nat → Option Blk) (n n' : Nat) (out : AV) (done : List Nat) : Prop :=
  (out = .lit (.slice none 0 0) ∧ done = []) ∨ ∃ a, n ≤ a ∧ a < n' ∧ out = .slq a 0 done.length 0 ∧ g a = some (.cells (toksC s done) true 2)
theorem kind_one {c : Int} : kindM c = 1 ↔ letterM c = true := by
  unfold kindM
  by_cases h : letterM c = true
  · simp [h]
  · by_cases h2 : digitM c = true <;> simp [h, h2]
theorem kind_two {c : Int} : kindM c = 2 ↔ (¬letterM c = true ∧ digitM c = true) := by
  unfold kindM
  by_cases h : letterM c = true
  · simp [h]
  · by_cases h2 : digitM c = true <;> simp [h, h2]
theorem kind_nn (c : Int) : kindM c = 0 ∨ kindM c = 1 ∨ kindM c = 2 := by
  unfold kindM
  by_cases h : letterM c = true
  · simp [h]
  · by_cases h2 : digitM c = true <;> simp [h, h2]
/-- The run of a kind. -/
theorem kind_run {s : ByteArray} {i : Nat} : tokN s i = if kindM (bAt s i) = 0 then 1 else runF (fun _ c => decide (kindM c = kindM (bAt s i))) s i (s.size - i - 1) 1 := by
  unfold tokN
  by_cases h1 : letterM (bAt s i) = true
  · have e := kind_one.2 h1
    rw [if_pos h1, e, if_neg (by decide)]
    congr 1
    funext _ c
    rw [show fLetter _ c = letterM c from rfl]
    cases h : letterM c with
    | true => exact (decide_eq_true (kind_one.2 h)).symm
    | false => exact (decide_eq_false (fun h2 => by rw [kind_one.1 h2] at h; cases h)).symm
  · by_cases h2 : digitM (bAt s i) = true
    · have e := kind_two.2 ⟨h1, h2⟩
      rw [if_neg h1, if_pos h2, e, if_neg (by decide)]
      congr 1
      funext _ c
      rw [show fDigit _ c = digitM c from rfl]
      cases h : digitM c with
      | true =>
        have hl : ¬letterM c = true := by
          have := digit_in h
          simp only [letterM, Bool.or_eq_true, decide_eq_true_eq]
          omega
        exact (decide_eq_true (kind_two.2 ⟨hl, h⟩)).symm
      | false => exact (decide_eq_false (fun h3 => by rw [(kind_two.1 h3).2] at h; cases h)).symm
    · have e : kindM (bAt s i) = 0 := by unfold kindM; rw [if_neg h1, if_neg h2]
      rw [if_neg h1, if_neg h2, if_pos e]
theorem tokens_w (s : ByteArray) (hs : s.size ≤ 1000000) (g : Nat → Option Blk) (n : Nat) :
    WC 6 Tryd.prog 47 [.lit (.string s)] ⟨.fn g, n⟩ fun r => ∃ a g' n', r = .ret (.slq a 0 (posL s (advM s 0)).length 0) ⟨.fn g', n'⟩ ∧ n ≤ a ∧ a < n' ∧ (∀ b, b < n → g' b = g b) ∧ g' a = some (.cells (toksC s (posL s (advM s 0))) true 2) := by
  generalize hret : posL s (advM s 0) = ret
  have HRET := Hide.mk hret
  clear hret
  refine WC.enterP (noO_ok _ _) hG pl47 Tryd.func47 rfl (by decide +kernel) (Nat.le_of_ble_eq_true (by kernel_rfl)) ?_
  iterate 12 (all_goals try (first | with_reducible refine splitI (fun h => ?_) (fun h => ?_) | with_reducible refine splitBI (fun h => ?_) (fun h => ?_) | simp (config := { maxSteps := 1000000 }) (disch := first | assumption | omega | (simp; done) | fail) [Tryd.results47, *]))
  refine LX.ind (fun m gf H' => ∃ (i n' : Nat) (g' : Nat → Option Blk) (out : AV) (done : List Nat), i ≤ s.size ∧ m = s.size - i ∧ H' = ⟨.fn g', n'⟩ ∧ n ≤ n' ∧ (∀ b, b < n → g' b = g b) ∧ gf 0 = some (.lit (.string s)) ∧ gf 4 = some (.lit (.int .i64 i)) ∧ gf 3 = some out ∧
    OutR s g' n n' out done ∧ done ++ posL s (advM s i) = ret ∧ done.length ≤ i) (m0 := s.size) ?_ ?_
  · exact ⟨0, n, g, .lit (.slice none 0 0), [], Nat.zero_le _, rfl, rfl, Nat.le_refl _, fun _ _ => rfl, by simp, by simp, by simp, .inl ⟨rfl, rfl⟩, HRET.out, Nat.le_refl _⟩
  rintro m gf H' ⟨i, n', g', out, done, hi, rfl, rfl, hn', hg', q0, q4, q3, hout, hpos, hdl⟩ ih
  refine LX.roundP (noO_ok _ _) hG pl47 (by decide +kernel) ?_
  have HOUT := Hide.mk hout
  clear hout
  have HG := Hide.mk hg'
  have HP := Hide.mk hpos
  clear hg' hpos
  by_cases hlt : i < s.size
  · have hltI : (i : Int) < (s.size : Int) := by omega
    have htk := tokN_le hlt
    have HNX : Hide (∀ (out' : AV) (g2 : Nat → Option Blk) (n2 : Nat), bAt s i ≠ 32 → n' ≤ n2 → (∀ b, b < n → g2 b = g b) → OutR s g2 n n2 out' (done ++ [i]) → ∀ gf2 : Nat → Option AV, gf2 0 = some (.lit (.string s)) → gf2 4 = some (.lit (.int .i64 ((i + tokN s i : Nat) : Int))) → gf2 3 = some out' → 
      ∃ (i' n'' : Nat) (g' : Nat → Option Blk) (out : AV) (done : List Nat), i' ≤ s.size ∧ s.size - (i + tokN s i) = s.size - i' ∧ (⟨.fn g2, n2⟩ : Mem) = ⟨.fn g', n''⟩ ∧ n ≤ n'' ∧ (∀ b, b < n → g' b = g b) ∧ gf2 0 = some (.lit (.string s)) ∧ gf2 4 = some (.lit (.int .i64 i')) ∧ gf2 3 = some out ∧
    OutR s g' n n'' out done ∧ done ++ posL s (advM s i') = ret ∧ done.length ≤ i') := ⟨fun out' g2 n2 h32 hn2 hg2 hout2 gf2 e0 e4 e3 => by
      refine ⟨i + tokN s i, n2, g2, out', done ++ [i], htk.2, rfl, rfl, by omega, hg2, e0, e4, e3, hout2, ?_, by rw [List.length_append]; simp; omega⟩
      have h1 := HP.out
      rw [adv_stay (.inr h32), posL_lt hlt] at h1
      rw [← h1, List.append_assoc]
      unfold nxtM
      rw [tok_size hlt]
      rfl⟩
    have HTOK : Hide (s.extract i (i + tokN s i) = tokB s i) := ⟨by unfold tokB; rw [if_neg (by omega)]⟩
    have hrun0 := kind_run (s := s) (i := i)
    have HSK : Hide (bAt s i = 32 → advM s i = advM s (i + 1)) := ⟨adv_skip hlt⟩
    have hk32 : kindM 32 = 0 := by decide
    generalize hc : bAt s i = c at HNX hrun0 HSK
    have htn1 : ((i : Int) + 1).toNat = i + 1 := by omega
    by_cases hk0 : kindM c = 0
    · have hT : tokN s i = 1 := by rw [hrun0, if_pos hk0]
      clear hrun0
      by_cases h32 : c = 32
      · have hpos := HP.out
        rw [HSK.out h32] at hpos
        have HPOS := Hide.mk hpos
        clear hpos
        rcases (by omega : (i : Int) + 1 < (s.size : Int) ∨ ¬(i : Int) + 1 < (s.size : Int)) with hlt2 | hlt2
        · iterate 14 (all_goals try (first | with_reducible refine splitI (fun h => ?_) (fun h => ?_) | with_reducible refine splitBI (fun h => ?_) (fun h => ?_) | simp (config := { maxSteps := 1000000 }) (disch := first | assumption | omega | (simp; done) | fail) [Tryd.results47, *]))
          refine LX.roundP (noO_ok _ _) hG pl47 (by decide +kernel) ?_
          iterate 14 (all_goals try (first | with_reducible refine splitI (fun h => ?_) (fun h => ?_) | with_reducible refine splitBI (fun h => ?_) (fun h => ?_) | simp (config := { maxSteps := 1000000 }) (disch := first | assumption | omega | (simp; done) | fail) [Tryd.results47, *]))
          refine WC.mono (kind_w _ _) ?_
          rintro _ rfl
          first | rw [hk0] | rw [hk32]
          iterate 14 (all_goals try (first | with_reducible refine splitI (fun h => ?_) (fun h => ?_) | with_reducible refine splitBI (fun h => ?_) (fun h => ?_) | simp (config := { maxSteps := 1000000 }) (disch := first | assumption | omega | (simp; done) | fail) [Tryd.results47, *]))
          refine ih.out (s.size - (i + 1)) _ _ (by omega) ⟨i + 1, n', g', out, done, by omega, rfl, rfl, by omega, HG.out, by simp [*], by simp [*], by simp [*], HOUT.out, HPOS.out, by omega⟩
        · iterate 14 (all_goals try (first | with_reducible refine splitI (fun h => ?_) (fun h => ?_) | with_reducible refine splitBI (fun h => ?_) (fun h => ?_) | simp (config := { maxSteps := 1000000 }) (disch := first | assumption | omega | (simp; done) | fail) [Tryd.results47, *]))
          refine LX.roundP (noO_ok _ _) hG pl47 (by decide +kernel) ?_
          iterate 14 (all_goals try (first | with_reducible refine splitI (fun h => ?_) (fun h => ?_) | with_reducible refine splitBI (fun h => ?_) (fun h => ?_) | simp (config := { maxSteps := 1000000 }) (disch := first | assumption | omega | (simp; done) | fail) [Tryd.results47, *]))
          refine ih.out (s.size - (i + 1)) _ _ (by omega) ⟨i + 1, n', g', out, done, by omega, rfl, rfl, by omega, HG.out, by simp [*], by simp [*], by simp [*], HOUT.out, HPOS.out, by omega⟩
      · rcases (by omega : (i : Int) + 1 < (s.size : Int) ∨ ¬(i : Int) + 1 < (s.size : Int)) with hlt2 | hlt2
        · iterate 14 (all_goals try (first | with_reducible refine splitI (fun h => ?_) (fun h => ?_) | with_reducible refine splitBI (fun h => ?_) (fun h => ?_) | simp (config := { maxSteps := 1000000 }) (disch := first | assumption | omega | (simp; done) | fail) [Tryd.results47, *]))
          refine LX.roundP (noO_ok _ _) hG pl47 (by decide +kernel) ?_
          iterate 14 (all_goals try (first | with_reducible refine splitI (fun h => ?_) (fun h => ?_) | with_reducible refine splitBI (fun h => ?_) (fun h => ?_) | simp (config := { maxSteps := 1000000 }) (disch := first | assumption | omega | (simp; done) | fail) [Tryd.results47, *]))
          refine WC.mono (kind_w _ _) ?_
          rintro _ rfl
          first | rw [hk0] | rw [hk32]
          rw [hT] at HNX HTOK htk
          clear hT
          have hsn := fun l => toksC_snoc s l i
          rw [← HTOK.out] at hsn
          rcases HOUT.out with ⟨rfl, rfl⟩ | ⟨a, ha1, ha2, rfl, hga⟩
          all_goals
            try have hl : (toksC s done).length = done.length * 2 := toksC_len s done
            iterate 30 (all_goals try (first | with_reducible refine splitI (fun h => ?_) (fun h => ?_) | with_reducible refine splitBI (fun h => ?_) (fun h => ?_) | simp (config := { maxSteps := 1000000 }) (disch := first | assumption | omega | (simp; done) | fail) [Tryd.results47, *]))
          all_goals first
            | (exfalso; omega)
            | exact ih.out (s.size - (i + 1)) _ _ (by omega) (HNX.out (.slq (n' + 1) 0 1 0) _ (n' + 1 + 1) (by omega) (by omega) (fun b hb => by simp (disch := omega) only [gput_lt]; exact HG.out b hb) (.inr ⟨n' + 1, by omega, by omega, rfl, by rw [← hsn]; simp [toksC]⟩) _ (by simp [*]) (by simp [*] <;> omega) (by simp [*]))
            | exact ih.out (s.size - (i + 1)) _ _ (by omega) (HNX.out (.slq (n' + 1) 0 (done.length + 1) 0) _ (n' + 1 + 1) (by omega) (by omega) (fun b hb => by simp (disch := omega) only [gput_lt, gput_ne]; exact HG.out b hb) (.inr ⟨n' + 1, by omega, by omega, by simp, by rw [← hsn]; simp⟩) _ (by simp [*]) (by simp [*] <;> omega) (by simp [*]))
        · iterate 14 (all_goals try (first | with_reducible refine splitI (fun h => ?_) (fun h => ?_) | with_reducible refine splitBI (fun h => ?_) (fun h => ?_) | simp (config := { maxSteps := 1000000 }) (disch := first | assumption | omega | (simp; done) | fail) [Tryd.results47, *]))
          refine LX.roundP (noO_ok _ _) hG pl47 (by decide +kernel) ?_
          rw [hT] at HNX HTOK htk
          clear hT
          have hsn := fun l => toksC_snoc s l i
          rw [← HTOK.out] at hsn
          rcases HOUT.out with ⟨rfl, rfl⟩ | ⟨a, ha1, ha2, rfl, hga⟩
          all_goals
            try have hl : (toksC s done).length = done.length * 2 := toksC_len s done
            iterate 30 (all_goals try (first | with_reducible refine splitI (fun h => ?_) (fun h => ?_) | with_reducible refine splitBI (fun h => ?_) (fun h => ?_) | simp (config := { maxSteps := 1000000 }) (disch := first | assumption | omega | (simp; done) | fail) [Tryd.results47, *]))
          all_goals first
            | (exfalso; omega)
            | exact ih.out (s.size - (i + 1)) _ _ (by omega) (HNX.out (.slq (n' + 1) 0 1 0) _ (n' + 1 + 1) (by omega) (by omega) (fun b hb => by simp (disch := omega) only [gput_lt]; exact HG.out b hb) (.inr ⟨n' + 1, by omega, by omega, rfl, by rw [← hsn]; simp [toksC]⟩) _ (by simp [*]) (by simp [*] <;> omega) (by simp [*]))
            | exact ih.out (s.size - (i + 1)) _ _ (by omega) (HNX.out (.slq (n' + 1) 0 (done.length + 1) 0) _ (n' + 1 + 1) (by omega) (by omega) (fun b hb => by simp (disch := omega) only [gput_lt, gput_ne]; exact HG.out b hb) (.inr ⟨n' + 1, by omega, by omega, by simp, by rw [← hsn]; simp⟩) _ (by simp [*]) (by simp [*] <;> omega) (by simp [*]))
    · have h32 : ¬c = 32 := fun e => hk0 (by rw [e]; exact hk32)
      have hkp : (0 : Int) < kindM c := by rcases kind_nn c with h | h | h <;> omega
      rw [if_neg hk0] at hrun0
      iterate 14 (all_goals try (first | with_reducible refine splitI (fun h => ?_) (fun h => ?_) | with_reducible refine splitBI (fun h => ?_) (fun h => ?_) | simp (config := { maxSteps := 1000000 }) (disch := first | assumption | omega | (simp; done) | fail) [Tryd.results47, *]))
      refine LX.ind (fun m2 gf2 H2 => ∃ (j : Nat), 1 ≤ j ∧ i + j ≤ s.size ∧ m2 = s.size - (i + j) ∧ H2 = ⟨.fn g', n'⟩ ∧ gf2 0 = some (.lit (.string s)) ∧ gf2 3 = some out ∧ gf2 4 = some (.lit (.int .i64 i)) ∧ gf2 5 = some (.lit (.int .i64 ((i : Int) + (j : Int)))) ∧
        tokN s i = runF (fun _ d => decide (kindM d = kindM c)) s i (s.size - i - j) j) (m0 := s.size - (i + 1)) ?_ ?_
      · exact ⟨1, Nat.le_refl _, by omega, rfl, rfl, by simp [*], by simp [*], by simp [*], by simp [*], hrun0⟩
      rintro m2 gf2 H2 ⟨j, hj1, hj2, rfl, rfl, w0, w3, w4, w5, hrun⟩ ih2
      refine LX.roundP (noO_ok _ _) hG pl47 (by decide +kernel) ?_
      have HRUN := Hide.mk hrun
      clear hrun hrun0
      have htn : ((i : Int) + (j : Int)).toNat = i + j := by omega
      have hlt3 : (i : Int) < (s.size : Int) := by omega
      by_cases hlt2 : i + j < s.size
      · have hlt2I : (i : Int) + (j : Int) < (s.size : Int) := by omega
        have hst := run_step (F := fun _ d => decide (kindM d = kindM c)) hlt2
        generalize hd : bAt s (i + j) = d at hst
        have HST := Hide.mk hst
        clear hst
        have HKN := Hide.mk hk0
        clear hk0
        generalize hkc : kindM c = kc at *
        iterate 14 (all_goals try (first | with_reducible refine splitI (fun h => ?_) (fun h => ?_) | with_reducible refine splitBI (fun h => ?_) (fun h => ?_) | simp (config := { maxSteps := 1000000 }) (disch := first | assumption | omega | (simp; done) | fail) [Tryd.results47, *]))
        refine WC.mono (kind_w _ _) ?_
        rintro _ rfl
        rw [hkc]
        iterate 14 (all_goals try (first | with_reducible refine splitI (fun h => ?_) (fun h => ?_) | with_reducible refine splitBI (fun h => ?_) (fun h => ?_) | simp (config := { maxSteps := 1000000 }) (disch := first | assumption | omega | (simp; done) | fail) [Tryd.results47, *]))
        refine WC.mono (kind_w _ _) ?_
        rintro _ rfl
        iterate 14 (all_goals try (first | with_reducible refine splitI (fun h => ?_) (fun h => ?_) | with_reducible refine splitBI (fun h => ?_) (fun h => ?_) | simp (config := { maxSteps := 1000000 }) (disch := first | assumption | omega | (simp; done) | fail) [Tryd.results47, *]))
        refine WC.mono (kind_w _ _) ?_
        rintro _ rfl
        rw [hkc]
        by_cases hF : kindM d = kc
        · have hrun2 : tokN s i = runF (fun _ d => decide (kindM d = kc)) s i (s.size - i - (j + 1)) (j + 1) := by rw [HRUN.out, HST.out]; exact if_pos (decide_eq_true hF)
          have HRUN2 := Hide.mk hrun2
          clear hrun2 HST HRUN
          iterate 14 (all_goals try (first | with_reducible refine splitI (fun h => ?_) (fun h => ?_) | with_reducible refine splitBI (fun h => ?_) (fun h => ?_) | simp (config := { maxSteps := 1000000 }) (disch := first | assumption | omega | (simp; done) | fail) [Tryd.results47, *]))
          refine ih2.out (s.size - (i + (j + 1))) _ _ (by omega) ⟨j + 1, by omega, by omega, rfl, rfl, by simp [*], by simp [*], by simp [*], ?_, HRUN2.out⟩
          simp [*]
          try omega
        · have hT : tokN s i = j := by rw [HRUN.out, HST.out]; exact if_neg (by rw [decide_eq_false hF]; simp)
          clear HST HRUN
          rw [hT] at HNX HTOK htk
          clear hT
          have hsn := fun l => toksC_snoc s l i
          rw [← HTOK.out] at hsn
          rcases HOUT.out with ⟨rfl, rfl⟩ | ⟨a, ha1, ha2, rfl, hga⟩
          all_goals
            try have hl : (toksC s done).length = done.length * 2 := toksC_len s done
            iterate 30 (all_goals try (first | with_reducible refine splitI (fun h => ?_) (fun h => ?_) | with_reducible refine splitBI (fun h => ?_) (fun h => ?_) | simp (config := { maxSteps := 1000000 }) (disch := first | assumption | omega | (simp; done) | fail) [Tryd.results47, *]))
          all_goals first
            | (exfalso; omega)
            | exact ih.out (s.size - (i + j)) _ _ (by omega) (HNX.out (.slq (n' + 1) 0 1 0) _ (n' + 1 + 1) (by omega) (by omega) (fun b hb => by simp (disch := omega) only [gput_lt]; exact HG.out b hb) (.inr ⟨n' + 1, by omega, by omega, rfl, by rw [← hsn]; simp [toksC]⟩) _ (by simp [*]) (by simp [*] <;> omega) (by simp [*]))
            | exact ih.out (s.size - (i + j)) _ _ (by omega) (HNX.out (.slq (n' + 1) 0 (done.length + 1) 0) _ (n' + 1 + 1) (by omega) (by omega) (fun b hb => by simp (disch := omega) only [gput_lt, gput_ne]; exact HG.out b hb) (.inr ⟨n' + 1, by omega, by omega, by simp, by rw [← hsn]; simp⟩) _ (by simp [*]) (by simp [*] <;> omega) (by simp [*]))
      · have hlt2I : ¬(i : Int) + (j : Int) < (s.size : Int) := by omega
        have hT : tokN s i = j := by rw [HRUN.out, run_end (by omega)]
        clear HRUN
        rw [hT] at HNX HTOK htk
        clear hT
        have hsn := fun l => toksC_snoc s l i
        rw [← HTOK.out] at hsn
        rcases HOUT.out with ⟨rfl, rfl⟩ | ⟨a, ha1, ha2, rfl, hga⟩
        all_goals
          try have hl : (toksC s done).length = done.length * 2 := toksC_len s done
          iterate 30 (all_goals try (first | with_reducible refine splitI (fun h => ?_) (fun h => ?_) | with_reducible refine splitBI (fun h => ?_) (fun h => ?_) | simp (config := { maxSteps := 1000000 }) (disch := first | assumption | omega | (simp; done) | fail) [Tryd.results47, *]))
        all_goals first
          | (exfalso; omega)
          | exact ih.out (s.size - (i + j)) _ _ (by omega) (HNX.out (.slq (n' + 1) 0 1 0) _ (n' + 1 + 1) (by omega) (by omega) (fun b hb => by simp (disch := omega) only [gput_lt]; exact HG.out b hb) (.inr ⟨n' + 1, by omega, by omega, rfl, by rw [← hsn]; simp [toksC]⟩) _ (by simp [*]) (by simp [*] <;> omega) (by simp [*]))
          | exact ih.out (s.size - (i + j)) _ _ (by omega) (HNX.out (.slq (n' + 1) 0 (done.length + 1) 0) _ (n' + 1 + 1) (by omega) (by omega) (fun b hb => by simp (disch := omega) only [gput_lt, gput_ne]; exact HG.out b hb) (.inr ⟨n' + 1, by omega, by omega, by simp, by rw [← hsn]; simp⟩) _ (by simp [*]) (by simp [*] <;> omega) (by simp [*]))
  · have hiS : i = s.size := by omega
    subst hiS
    have h1 := HP.out
    rw [adv_stay (.inl rfl), posL_end rfl] at h1
    have te : tokB s s.size = ⟨#[]⟩ := (tok_empty (Nat.le_refl _)).2 rfl
    have hl : (toksC s done).length = done.length * 2 := toksC_len s done
    have hsn := toksC_snoc s done s.size
    rw [te] at hsn
    rcases HOUT.out with ⟨rfl, rfl⟩ | ⟨a, ha1, ha2, rfl, hga⟩
    all_goals
      iterate 12 (all_goals try (first | with_reducible refine splitI (fun h => ?_) (fun h => ?_) | with_reducible refine splitBI (fun h => ?_) (fun h => ?_) | simp (config := { maxSteps := 1000000 }) (disch := first | assumption | omega | (simp; done) | fail) [Tryd.results47, *]))
    · refine ⟨n' + 1, _, _, ⟨⟨rfl, by rw [← h1]; rfl⟩, rfl, rfl⟩, by omega, by omega, fun b hb => ?_, ?_⟩
      · simp (disch := omega) only [gput_lt]
        exact HG.out b hb
      · rw [gput_eq, ← h1, ← hsn]
        simp [toksC]
    · refine ⟨n' + 1, _, _, ⟨⟨rfl, by rw [← h1]; simp⟩, rfl, rfl⟩, by omega, by omega, fun b hb => ?_, gput_eq⟩
      simp (disch := omega) only [gput_lt, gput_ne]
      exact HG.out b hb
end Go.Ai
end

section
namespace Go.Ai
open Go.Proofs
def NeedP (op : Nat) (a b : Int) (sv : AV) (j n : Nat) (g : Nat → Option Blk) (P : Prop) (r : COut) : Prop := ∃ (j' : Nat) (e' : Int) (g' : Nat → Option Blk) (n' : Nat),
      r = .ret (.agg [.lit (.int .u8 op), .lit (.int .i64 a), .lit (.int .i64 b), sv, .lit (.int .i64 j'), .lit (.int .i64 e')]) ⟨.fn g', n'⟩ ∧ n ≤ n' ∧ (∀ c, c < n → g' c = g c) ∧ ((P ∧ j' = j + 1 ∧ e' = 1) ∨ (¬P ∧ j' = j ∧ e' = 0))
set_option maxRecDepth 10000
set_option maxHeartbeats 40000000
theorem sign_w (o : Nat) (ho : o < 15) (g : Nat → Option Blk) (n : Nat) : WC 6 Tryd.prog 44 [.lit (.int .u8 o)] ⟨.fn g, n⟩ fun r => r = .ret (.lit (.string (signB o))) ⟨.fn g, n⟩ := by
  refine WC.drop1 rfl ?_
  rcases op_cases ho with rfl | rfl | rfl | rfl | rfl | rfl | rfl | rfl | rfl | rfl | rfl | rfl | rfl | rfl | rfl
  all_goals
    refine WC.enterP (noO_ok _ _) hG [] Tryd.func44 rfl (by decide +kernel) (Nat.le_of_ble_eq_true (by kernel_rfl)) ?_
    iterate 12 (all_goals try (first | with_reducible refine splitI (fun h => ?_) (fun h => ?_) | with_reducible refine splitBI (fun h => ?_) (fun h => ?_) | simp (config := { maxSteps := 1000000 }) (disch := first | assumption | omega | (simp; done) | fail) [Tryd.results44, *]))
    refine ⟨_, ⟨?_, rfl⟩, ⟨by dsimp only; omega, fun b hb => ?_⟩⟩
    · rfl
    · exact gput_lt hb
theorem subs_w (o : Nat) (ho : o < 15) (H : Mem) : WC 6 Tryd.prog 71 [.lit (.int .u8 o)] H fun r => r = .ret (.lit (.int .i64 (subsM o))) H := by
  rcases op_cases ho with rfl | rfl | rfl | rfl | rfl | rfl | rfl | rfl | rfl | rfl | rfl | rfl | rfl | rfl | rfl
  all_goals
    refine WC.enterP (noO_ok _ _) hG [] Tryd.func71 rfl (by decide +kernel) (Nat.le_of_ble_eq_true (by kernel_rfl)) ?_
    iterate 20 (all_goals try (first | with_reducible refine splitI (fun h => ?_) (fun h => ?_) | with_reducible refine splitBI (fun h => ?_) (fun h => ?_) | simp (config := { maxSteps := 1000000 }) (disch := first | assumption | omega | (simp; done) | fail) [Tryd.results71, *]))
    all_goals rfl
def numI (t : ByteArray) : List AV → Prop := fun l => (∃ a, numM t = some a ∧ l = [.lit (.int .i64 (a : Nat)), .lit (.int .i64 1)]) ∨ (numM t = none ∧ l = [.lit (.int .i64 0), .lit (.int .i64 0)])
theorem rnumber_w (t : ByteArray) (ht : t.size ≤ 1000000) (H : Mem) : WC 6 Tryd.prog 76 [.lit (.string t)] H fun r => ∃ l, numI t l ∧ r = .ret (.tup l) H := by
  have HNO : Hide (numM t = none → numI t [.lit (.int .i64 0), .lit (.int .i64 0)]) := ⟨fun h => .inr ⟨h, rfl⟩⟩
  by_cases h0 : 0 < t.size
  · have h0I : ¬(t.size : Int) < 1 := by omega
    by_cases h4 : t.size ≤ 4
    · have h4I : ¬(4 : Int) < (t.size : Int) := by omega
      by_cases hz : bAt t 0 = 48 ∧ 1 < t.size
      · have hn : numM t = none := by unfold numM; exact if_neg (fun h => h.2.2.2 hz)
        have HN := Hide.mk (HNO.out hn)
        obtain ⟨hz1, hz2⟩ := hz
        have hz2I : (1 : Int) < (t.size : Int) := by omega
        clear hn
        refine WC.enterP (noO_ok _ _) hG [] Tryd.func76 rfl (by decide +kernel) (Nat.le_of_ble_eq_true (by kernel_rfl)) ?_
        iterate 20 (all_goals try (first | with_reducible refine splitI (fun h => ?_) (fun h => ?_) | with_reducible refine splitBI (fun h => ?_) (fun h => ?_) | simp (config := { maxSteps := 1000000 }) (disch := first | assumption | omega | (simp; done) | fail) [Tryd.results76, *]))
        exact HN.out
      · have HZ := Hide.mk hz
        have hsp : (bAt t 0 = 48 ∧ ¬(1 : Int) < (t.size : Int)) ∨ ¬bAt t 0 = 48 := by
          by_cases e : bAt t 0 = 48
          · exact .inl ⟨e, by have := mt (And.intro e) hz; omega⟩
          · exact .inr e
        clear hz
        rcases hsp with ⟨e1, e2⟩ | e1
        all_goals
          refine WC.enterP (noO_ok _ _) hG [] Tryd.func76 rfl (by decide +kernel) (Nat.le_of_ble_eq_true (by kernel_rfl)) ?_
          iterate 20 (all_goals try (first | with_reducible refine splitI (fun h => ?_) (fun h => ?_) | with_reducible refine splitBI (fun h => ?_) (fun h => ?_) | simp (config := { maxSteps := 1000000 }) (disch := first | assumption | omega | (simp; done) | fail) [Tryd.results76, *]))
          refine LX.ind (fun m gf H' => ∃ (i : Nat), i ≤ t.size ∧ m = t.size - i ∧ H' = H ∧ gf 0 = some (.lit (.string t)) ∧ gf 4 = some (.lit (.int .i64 (valN t i 0 0 : Nat))) ∧ gf 5 = some (.lit (.int .i64 i)) ∧ (∀ q, q < i → digitM (bAt t q) = true)) (m0 := t.size) ?_ ?_
          · exact ⟨0, Nat.zero_le _, rfl, rfl, by simp, by simp [valN], by simp, fun q hq => by omega⟩
          rintro m gf H' ⟨i, hi, rfl, rfl, w0, w4, w5, hd⟩ ih
          refine LX.roundP (noO_ok _ _) hG [] (by decide +kernel) ?_
          have HD := Hide.mk hd
          clear hd
          by_cases hlt : i < t.size
          · have hltI : (i : Int) < (t.size : Int) := by omega
            have hst := valN_snoc (s := t) i 0 0
            rw [Nat.zero_add] at hst
            have hvb : valN t i 0 0 < 10 ^ i := by
              have key : ∀ i, (∀ q, q < i → digitM (bAt t q) = true) → valN t i 0 0 < 10 ^ i := by
                intro i
                induction i with
                | zero => intro _; simp [valN]
                | succ i ihh =>
                  intro hq
                  have h1 := ihh (fun q hq2 => hq q (by omega))
                  have h2 := digit_in (hq i (by omega))
                  rw [valN_snoc, Nat.zero_add, Nat.pow_succ]
                  omega
              exact key i HD.out
            have hvb4 : valN t i 0 0 < 10000 := Nat.lt_of_lt_of_le hvb (by have : (10 : Nat) ^ i ≤ 10 ^ 4 := Nat.pow_le_pow_right (by omega) (by omega); omega)
            have HDI : Hide (digitM (bAt t i) = true → ∀ q, q < i + 1 → digitM (bAt t q) = true) := ⟨fun h q hq => by
              by_cases e : q = i
              · rw [e]; exact h
              · exact HD.out q (by omega)⟩
            have HNI : Hide (¬digitM (bAt t i) = true → numM t = none) := ⟨fun h => by unfold numM; exact if_neg (fun h2 => h (h2.2.2.1 i hlt))⟩
            generalize valN t i 0 0 = v at *
            have HST := Hide.mk hst
            clear hst hvb HD
            by_cases hdg : digitM (bAt t i) = true
            · have hk := (kind_two (c := bAt t i)).2 ⟨digit_letter hdg, hdg⟩
              obtain ⟨hc1, hc2⟩ := digit_in hdg
              iterate 20 (all_goals try (first | with_reducible refine splitI (fun h => ?_) (fun h => ?_) | with_reducible refine splitBI (fun h => ?_) (fun h => ?_) | simp (config := { maxSteps := 1000000 }) (disch := first | assumption | omega | (simp; done) | fail) [Tryd.results76, *]))
              refine WC.mono (kind_w _ _) ?_
              rintro _ rfl
              rw [hk]
              iterate 20 (all_goals try (first | with_reducible refine splitI (fun h => ?_) (fun h => ?_) | with_reducible refine splitBI (fun h => ?_) (fun h => ?_) | simp (config := { maxSteps := 1000000 }) (disch := first | assumption | omega | (simp; done) | fail) [Tryd.results76, *]))
              refine ih.out (t.size - (i + 1)) _ _ (by omega) ⟨i + 1, hlt, rfl, rfl, by simp [*], ?_, by simp [*], HDI.out hdg⟩
              rw [HST.out]
              simp [*]
              omega
            · have hk : ¬kindM (bAt t i) = 2 := fun h => hdg (kind_two.1 h).2
              have HNN := Hide.mk (HNO.out (HNI.out hdg))
              iterate 20 (all_goals try (first | with_reducible refine splitI (fun h => ?_) (fun h => ?_) | with_reducible refine splitBI (fun h => ?_) (fun h => ?_) | simp (config := { maxSteps := 1000000 }) (disch := first | assumption | omega | (simp; done) | fail) [Tryd.results76, *]))
              refine WC.mono (kind_w _ _) ?_
              rintro _ rfl
              iterate 20 (all_goals try (first | with_reducible refine splitI (fun h => ?_) (fun h => ?_) | with_reducible refine splitBI (fun h => ?_) (fun h => ?_) | simp (config := { maxSteps := 1000000 }) (disch := first | assumption | omega | (simp; done) | fail) [Tryd.results76, *]))
              exact HNN.out
          · have HS : Hide (numM t = some (valN t i 0 0)) := ⟨by
              have hi2 : i = t.size := by omega
              subst hi2
              unfold numM
              rw [if_pos ⟨h0, h4, fun q hq => HD.out q hq, HZ.out⟩]
              rfl⟩
            iterate 20 (all_goals try (first | with_reducible refine splitI (fun h => ?_) (fun h => ?_) | with_reducible refine splitBI (fun h => ?_) (fun h => ?_) | simp (config := { maxSteps := 1000000 }) (disch := first | assumption | omega | (simp; done) | fail) [Tryd.results76, *]))
            exact .inl ⟨_, HS.out, rfl⟩
    · have h4I : (4 : Int) < (t.size : Int) := by omega
      have hn : numM t = none := by unfold numM; exact if_neg (fun h => h4 h.2.1)
      have HN := Hide.mk (HNO.out hn)
      clear hn
      refine WC.enterP (noO_ok _ _) hG [] Tryd.func76 rfl (by decide +kernel) (Nat.le_of_ble_eq_true (by kernel_rfl)) ?_
      iterate 20 (all_goals try (first | with_reducible refine splitI (fun h => ?_) (fun h => ?_) | with_reducible refine splitBI (fun h => ?_) (fun h => ?_) | simp (config := { maxSteps := 1000000 }) (disch := first | assumption | omega | (simp; done) | fail) [Tryd.results76, *]))
      exact HN.out
  · have h0I : (t.size : Int) < 1 := by omega
    have hn : numM t = none := by unfold numM; exact if_neg (fun h => h0 h.1)
    have HN := Hide.mk (HNO.out hn)
    clear hn
    refine WC.enterP (noO_ok _ _) hG [] Tryd.func76 rfl (by decide +kernel) (Nat.le_of_ble_eq_true (by kernel_rfl)) ?_
    iterate 20 (all_goals try (first | with_reducible refine splitI (fun h => ?_) (fun h => ?_) | with_reducible refine splitBI (fun h => ?_) (fun h => ?_) | simp (config := { maxSteps := 1000000 }) (disch := first | assumption | omega | (simp; done) | fail) [Tryd.results76, *]))
    exact HN.out
theorem rneed_w {s : ByteArray} {pos : List Nat} {ta : Nat} {g : Nat → Option Blk} {n : Nat} (h : RAt s pos ta g n) (op : Nat) (a b : Int) (sv : AV) (h1c : oneC sv = true) (j k : Nat) (hj : pos[j]? = some k) (hpl : pos.length ≤ 1000001) (e : Int) (t : ByteArray) :
    WC 6 Tryd.prog 75 [.slq ta 0 pos.length 0, .agg [.lit (.int .u8 op), .lit (.int .i64 a), .lit (.int .i64 b), sv, .lit (.int .i64 j), .lit (.int .i64 e)], .lit (.string t)] ⟨.fn g, n⟩ (NeedP op a b sv j n g (e = 1 ∧ tokB s k = t)) := by
  generalize hP : (e = 1 ∧ tokB s k = t) = P
  have HP := Hide.mk hP
  clear hP
  have hjl : j < pos.length := (List.getElem?_eq_some_iff.1 hj).1
  have hjI : (j : Int) < (pos.length : Int) := by omega
  have hta := h.tan
  have r1 := (row_tok (z := 1) h.toks hj).1
  rw [Nat.zero_add] at r1
  have h1a : allOne [.lit (.int .u8 op), .lit (.int .i64 a), .lit (.int .i64 b), sv, .lit (.int .i64 j), .lit (.int .i64 e)] = true := by simp [h1c]
  have h1b : allOne [.lit (.int .u8 op), .lit (.int .i64 a), .lit (.int .i64 b), sv, .lit (.int .i64 ((j : Int) + 1)), .lit (.int .i64 e)] = true := by simp [h1c]
  have h1d : allOne [.lit (.int .u8 op), .lit (.int .i64 a), .lit (.int .i64 b), sv, .lit (.int .i64 j), .lit (.int .i64 0)] = true := by simp [h1c]
  have h1e : allOne [.lit (.int .u8 op), .lit (.int .i64 a), .lit (.int .i64 b), sv, .lit (.int .i64 ((j : Int) + 1)), .lit (.int .i64 1)] = true := by simp [h1c]
  have h1f : allOne [.lit (.int .u8 op), .lit (.int .i64 a), .lit (.int .i64 b), sv, .lit (.int .i64 j), .lit (.int .i64 1)] = true := by simp [h1c]
  clear h
  by_cases he : e = 1
  · subst he
    by_cases ht : tokB s k = t
    · rw [ht] at r1
      have HT := Hide.mk ht
      clear ht
      refine WC.enterP (noO_ok _ _) hG [] Tryd.func75 rfl (by decide +kernel) (Nat.le_of_ble_eq_true (by kernel_rfl)) ?_
      iterate 12 (all_goals try (first | with_reducible refine splitI (fun h => ?_) (fun h => ?_) | with_reducible refine splitBI (fun h => ?_) (fun h => ?_) | simp (config := { maxSteps := 1000000 }) (disch := first | assumption | omega | (simp; done) | fail) [Tryd.results75, *]))
      refine ⟨j + 1, 1, _, _, rfl, by omega, fun c hc => ?_, .inl ⟨HP.out.mp ⟨rfl, HT.out⟩, rfl, rfl⟩⟩
      simp (disch := omega) only [gput_lt]
    · have HT := Hide.mk ht
      generalize tokB s k = t2 at *
      refine WC.enterP (noO_ok _ _) hG [] Tryd.func75 rfl (by decide +kernel) (Nat.le_of_ble_eq_true (by kernel_rfl)) ?_
      iterate 12 (all_goals try (first | with_reducible refine splitI (fun h => ?_) (fun h => ?_) | with_reducible refine splitBI (fun h => ?_) (fun h => ?_) | simp (config := { maxSteps := 1000000 }) (disch := first | assumption | omega | (simp; done) | fail) [Tryd.results75, *]))
      refine ⟨j, 0, _, _, rfl, by omega, fun c hc => ?_, .inr ⟨fun h => HT.out (HP.out.mpr h).2, rfl, rfl⟩⟩
      simp (disch := omega) only [gput_lt]
  · have HE := Hide.mk he
    refine WC.enterP (noO_ok _ _) hG [] Tryd.func75 rfl (by decide +kernel) (Nat.le_of_ble_eq_true (by kernel_rfl)) ?_
    iterate 12 (all_goals try (first | with_reducible refine splitI (fun h => ?_) (fun h => ?_) | with_reducible refine splitBI (fun h => ?_) (fun h => ?_) | simp (config := { maxSteps := 1000000 }) (disch := first | assumption | omega | (simp; done) | fail) [Tryd.results75, *]))
    refine ⟨j, 0, _, _, rfl, by omega, fun c hc => ?_, .inr ⟨fun h => HE.out (HP.out.mpr h).1, rfl, rfl⟩⟩
    simp (disch := omega) only [gput_lt]
end Go.Ai
end
