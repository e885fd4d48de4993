/- A small verified interpreter over names, its proofs, and what was proved with it. No condition. -/
import Derived.Test.YtfllomlghjolpaaDoorT08
import Derived.Test.YtfllomlghjolpaaDoorT06
set_option linter.all false
set_option linter.deprecated false
section
namespace Go.Ai
open Go.Proofs
set_option maxRecDepth 10000
set_option maxHeartbeats 40000000
theorem if_144 : ifaceT Tryd.prog 144 = true := by kernel_rfl
attribute [simp] if_144
/-- A parser in memory. -/
def parB (s : ByteArray) (k : Nat) : Blk := .cells [.lit (.string s), .lit (.string (tokB s k)), .lit (.int .i64 (k : Nat))] true 0
structure PAt (s : ByteArray) (p : Nat) (g : Nat → Option Blk) (n k : Nat) : Prop where
  ops : g 0 = some opsB
  pw : g 1 = some (.cells bP false 0)
  e2 : g 2 = some (.cells bX false 0)
  e3 : g 3 = some (.cells bY false 0)
  p0 : 3 < p
  pn : p < n
  cell : g p = some (parB s k)
  le : k ≤ s.size
theorem PAt.step {s : ByteArray} {p n n' k k' : Nat} {g g' : Nat → Option Blk} (h : PAt s p g n k) (hn : n ≤ n') (hg : ∀ a, a < n → a ≠ p → g' a = g a) (hc : g' p = some (parB s k')) (hk : k' ≤ s.size) : PAt s p g' n' k' := by
  have h1 := h.p0
  have h2 := h.pn
  exact ⟨(hg 0 (by omega) (by omega)).trans h.ops, (hg 1 (by omega) (by omega)).trans h.pw, (hg 2 (by omega) (by omega)).trans h.e2, (hg 3 (by omega) (by omega)).trans h.e3, h1, by omega, hc, hk⟩
theorem PAt.keep {s : ByteArray} {p n n' k : Nat} {g g' : Nat → Option Blk} (h : PAt s p g n k) (hn : n ≤ n') (hg : ∀ a, a < n → g' a = g a) : PAt s p g' n' k :=
  h.step hn (fun a ha _ => hg a ha) ((hg p h.pn).trans h.cell) h.le
theorem next_par {s : ByteArray} {p n k : Nat} {g : Nat → Option Blk} (h : PAt s p g n k) (hs : s.size ≤ 1000000) : WC 6 Tryd.prog 41 [.ptr p 0] ⟨.fn g, n⟩ fun r => ∃ g' n', r = .ret (.tup []) ⟨.fn g', n'⟩ ∧ n ≤ n' ∧ (∀ a, a < n → a ≠ p → g' a = g a) ∧ g' p = some (parB s (nxtM s k)) :=
  next_w s (tokB s k) k p g n hs h.cell h.pn (tok_le h.le)
theorem tok_at {s : ByteArray} {k j : Nat} (hk : k < s.size) (h : j < (tokB s k).size) : bAt (tokB s k) j = bAt s (k + j) := by
  rw [tok_size hk] at h
  unfold tokB
  rw [if_neg (by omega)]
  exact bAt_extract h (tokN_le hk).2
theorem tok_minus {s : ByteArray} {k : Nat} (hk : k ≤ s.size) (h : bAt (tokB s k) 0 = 45) : (tokB s k).size ≤ 1 := by
  by_cases h1 : k = s.size
  · rw [(tok_empty hk).2 h1]; decide
  · have h2 := tok_size (s := s) (k := k) (by omega)
    have h3 := tokN_le (s := s) (k := k) (by omega)
    rw [tok_at (by omega) (by omega), Nat.add_zero] at h
    rw [h2]
    unfold tokN
    rw [h, if_neg (by decide), if_neg (by decide)]
    exact Nat.le_refl 1
theorem atoi_pos {t : ByteArray} {v : Int} (h : Lib.atoiAll t.data.toList = .ok v) (ht : bAt t 0 = 45 → t.size ≤ 1) : 0 ≤ v := by
  have hsz := tl_len t
  cases hl : t.data.toList with
  | nil => rw [hl] at h; cases h
  | cons c r =>
    rw [hl] at h hsz
    by_cases h45 : c.toNat = 45
    · have h0 : 0 < t.size := by rw [← hsz]; simp
      have hb : bAt t 0 = 45 := by
        rw [bAt_list h0]
        simp only [hl, List.getElem_cons_zero, h45]
        rfl
      have h1 := ht hb
      have hr : r = [] := by
        rw [← hsz, List.length_cons] at h1
        exact List.length_eq_zero_iff.1 (by omega)
      subst hr
      exfalso
      unfold Lib.atoiAll at h
      dsimp only at h
      rw [if_pos (.inr h45)] at h
      cases h
    · unfold Lib.atoiAll at h
      dsimp only at h
      split at h
      · cases h
      · cases h
      · rename_i u e
        simp only [h45, not_false_eq_true, true_and, false_and, if_false] at h
        split at h
        · cases h
        · cases h; omega
theorem take_w {s : ByteArray} {p n k : Nat} {g : Nat → Option Blk} (h : PAt s p g n k) (hs : s.size ≤ 1000000) (t : ByteArray) : WC 6 Tryd.prog 61 [.ptr p 0, .lit (.string t)] ⟨.fn g, n⟩ fun r =>
    (tokB s k = t ∧ ∃ g' n', r = .ret (.lit (.bool true)) ⟨.fn g', n'⟩ ∧ n ≤ n' ∧ (∀ a, a < n → a ≠ p → g' a = g a) ∧ g' p = some (parB s (nxtM s k))) ∨ (¬tokB s k = t ∧ r = .ret (.lit (.bool false)) ⟨.fn g, n⟩) := by
  have hp := h.cell
  have hpn := h.pn
  have HN := Hide.mk (next_par h hs)
  clear h
  unfold parB at hp
  by_cases ht : tokB s k = t
  · have HT := Hide.mk ht
    rw [ht] at hp
    clear ht
    refine WC.enterP (noO_ok _ _) hG [] Tryd.func61 rfl (by decide +kernel) (Nat.le_of_ble_eq_true (by kernel_rfl)) ?_
    iterate 8 (all_goals try (first | with_reducible refine splitI (fun h => ?_) (fun h => ?_) | with_reducible refine splitBI (fun h => ?_) (fun h => ?_) | simp (config := { maxSteps := 1000000 }) (disch := first | assumption | omega | (simp; done) | fail) [Tryd.results61, *]))
    refine WC.mono HN.out ?_
    rintro _ ⟨g', n', rfl, h1, h2, h3⟩
    iterate 8 (all_goals try (first | with_reducible refine splitI (fun h => ?_) (fun h => ?_) | with_reducible refine splitBI (fun h => ?_) (fun h => ?_) | simp (config := { maxSteps := 1000000 }) (disch := first | assumption | omega | (simp; done) | fail) [Tryd.results61, *]))
    exact ⟨HT.out, _, _, ⟨rfl, rfl⟩, h1, h2, h3⟩
  · have ht' := ht
    refine WC.enterP (noO_ok _ _) hG [] Tryd.func61 rfl (by decide +kernel) (Nat.le_of_ble_eq_true (by kernel_rfl)) ?_
    iterate 8 (all_goals try (first | with_reducible refine splitI (fun h => ?_) (fun h => ?_) | with_reducible refine splitBI (fun h => ?_) (fun h => ?_) | simp (config := { maxSteps := 1000000 }) (disch := first | assumption | omega | (simp; done) | fail) [Tryd.results61, *]))
theorem need_w {s : ByteArray} {p n k : Nat} {g : Nat → Option Blk} (h : PAt s p g n k) (hs : s.size ≤ 1000000) (t : ByteArray) : WC 6 Tryd.prog 73 [.ptr p 0, .lit (.string t)] ⟨.fn g, n⟩ fun r =>
    (tokB s k = t ∧ ∃ g' n', r = .ret (.tup []) ⟨.fn g', n'⟩ ∧ n ≤ n' ∧ (∀ a, a < n → a ≠ p → g' a = g a) ∧ g' p = some (parB s (nxtM s k))) ∨ (¬tokB s k = t ∧ r = .panic (.iface 91 (.agg [])) ⟨.fn g, n⟩) := by
  have HT := Hide.mk (take_w h hs t)
  clear h
  refine WC.enterP (noO_ok _ _) hG [] Tryd.func73 rfl (by decide +kernel) (Nat.le_of_ble_eq_true (by kernel_rfl)) ?_
  iterate 8 (all_goals try (first | with_reducible refine splitI (fun h => ?_) (fun h => ?_) | with_reducible refine splitBI (fun h => ?_) (fun h => ?_) | simp (config := { maxSteps := 1000000 }) (disch := first | assumption | omega | (simp; done) | fail) [Tryd.results73, *]))
  refine WC.mono HT.out ?_
  rintro _ (⟨ht, g', n', rfl, h1, h2, h3⟩ | ⟨ht, rfl⟩)
  · have HTT := Hide.mk ht
    clear ht
    iterate 8 (all_goals try (first | with_reducible refine splitI (fun h => ?_) (fun h => ?_) | with_reducible refine splitBI (fun h => ?_) (fun h => ?_) | simp (config := { maxSteps := 1000000 }) (disch := first | assumption | omega | (simp; done) | fail) [Tryd.results73, *]))
    exact ⟨HTT.out, _, _, ⟨rfl, rfl⟩, h1, h2, h3⟩
  · have HTT := Hide.mk ht
    clear ht
    iterate 8 (all_goals try (first | with_reducible refine splitI (fun h => ?_) (fun h => ?_) | with_reducible refine splitBI (fun h => ?_) (fun h => ?_) | simp (config := { maxSteps := 1000000 }) (disch := first | assumption | omega | (simp; done) | fail) [Tryd.results73, *]))
    exact HTT.out
theorem number_w {s : ByteArray} {p n k : Nat} {g : Nat → Option Blk} (h : PAt s p g n k) (hs : s.size ≤ 1000000) : WC 6 Tryd.prog 74 [.ptr p 0] ⟨.fn g, n⟩ fun r =>
    (∃ a g' n', numM (tokB s k) = some a ∧ r = .ret (.lit (.int .i64 (a : Nat))) ⟨.fn g', n'⟩ ∧ n ≤ n' ∧ (∀ a, a < n → a ≠ p → g' a = g a) ∧ g' p = some (parB s (nxtM s k))) ∨ (numM (tokB s k) = none ∧ ∃ g' n', r = .panic (.iface 91 (.agg [])) ⟨.fn g', n'⟩ ∧ n ≤ n' ∧ (∀ a, a < n → g' a = g a)) := by
  have hp := h.cell
  have hpn := h.pn
  have hle := tok_le h.le
  have hmin := tok_minus h.le
  have HN := Hide.mk (fun g n (h : PAt s p g n k) => next_par h hs)
  have HAT := Hide.mk (atoi_w (tokB s k) (by omega) g n h.e2 h.e3 (by have := h.p0; omega))
  have HH := Hide.mk h
  clear h
  unfold parB at hp
  generalize htt : tokB s k = t at hp HAT hmin
  have HTT := Hide.mk htt
  clear htt
  have HY := Hide.mk (fun a (h : numM t = some a) => numM_yes h)
  have HNO := Hide.mk (fun (h : numM t = none) (v : Int) (hv : v < 10000) => numM_no h hmin hv)
  have HPOS := Hide.mk (fun v (h : Lib.atoiAll t.data.toList = .ok v) => atoi_pos h hmin)
  clear hmin
  refine WC.enterP (noO_ok _ _) hG pl74 Tryd.func74 rfl (by decide +kernel) (Nat.le_of_ble_eq_true (by kernel_rfl)) ?_
  iterate 8 (all_goals try (first | with_reducible refine splitI (fun h => ?_) (fun h => ?_) | with_reducible refine splitBI (fun h => ?_) (fun h => ?_) | simp (config := { maxSteps := 1000000 }) (disch := first | assumption | omega | (simp; done) | fail) [Tryd.results74, *]))
  refine WC.mono HAT.out ?_
  rintro _ ⟨v, e, g1, n1, rfl, hn1, hg1, ⟨hat, rfl⟩ | ⟨hat, T, a, o, rfl⟩⟩
  · have HG1 := Hide.mk hg1
    have hv0 := HPOS.out v hat
    obtain ⟨u, rfl⟩ := Int.eq_ofNat_of_zero_le hv0
    have hp1 := (hg1 p hpn).trans hp
    have P1 : PAt s p g1 n1 k := HH.out.keep hn1 hg1
    have HP1 := Hide.mk P1
    have HI := Hide.mk (fun (hu : u < 10000) => itoa_w u hu g1 n1 P1.pw (by have := P1.p0; have := P1.pn; omega))
    clear hg1 P1
    by_cases hu : u < 10000
    · have huI : ¬(10000 : Int) ≤ (u : Int) := by omega
      have hitoa : Lib.itoa (u : Int) = (decB u).data.toList := by
        unfold Lib.itoa decB
        rw [if_neg (by omega)]
        simp
      iterate 8 (all_goals try (first | with_reducible refine splitI (fun h => ?_) (fun h => ?_) | with_reducible refine splitBI (fun h => ?_) (fun h => ?_) | simp (config := { maxSteps := 1000000 }) (disch := first | assumption | omega | (simp; done) | fail) [Tryd.results74, *]))
      refine WC.mono (HI.out hu) ?_
      rintro _ rfl
      cases hnum : numM t with
      | some a =>
        obtain ⟨y1, y2, y3⟩ := HY.out a hnum
        have hua : u = a := by
          rw [hat] at y1
          cases y1; rfl
        have hde : decB u = t := by
          apply ByteArray.ext
          apply Array.ext'
          rw [← hitoa, hua, y2]
        have HNUM := Hide.mk hnum
        rw [hde]
        clear hnum hat hitoa hde y1 y2
        iterate 8 (all_goals try (first | with_reducible refine splitI (fun h => ?_) (fun h => ?_) | with_reducible refine splitBI (fun h => ?_) (fun h => ?_) | simp (config := { maxSteps := 1000000 }) (disch := first | assumption | omega | (simp; done) | fail) [Tryd.results74, *]))
        refine WC.mono (HN.out _ _ HP1.out) ?_
        rintro _ ⟨g2, n2, rfl, hn2, hg2, hp2⟩
        have HG2 := Hide.mk hg2
        clear hg2
        iterate 8 (all_goals try (first | with_reducible refine splitI (fun h => ?_) (fun h => ?_) | with_reducible refine splitBI (fun h => ?_) (fun h => ?_) | simp (config := { maxSteps := 1000000 }) (disch := first | assumption | omega | (simp; done) | fail) [Tryd.results74, *]))
        exact ⟨_, _, ⟨rfl, rfl⟩, by omega, fun b hb hne => (HG2.out b (by omega) hne).trans (HG1.out b hb), hp2⟩
      | none =>
        have hde : ¬decB u = t := fun e => HNO.out hnum (u : Int) (by omega) (by rw [hitoa, e])
        have HNUM := Hide.mk hnum
        clear hnum hat hitoa
        iterate 8 (all_goals try (first | with_reducible refine splitI (fun h => ?_) (fun h => ?_) | with_reducible refine splitBI (fun h => ?_) (fun h => ?_) | simp (config := { maxSteps := 1000000 }) (disch := first | assumption | omega | (simp; done) | fail) [Tryd.results74, *]))
        first | exact ⟨_, _, ⟨rfl, rfl⟩, hn1, HG1.out⟩ | exact ⟨HNUM.out, _, _, ⟨rfl, rfl⟩, hn1, HG1.out⟩
    · have huI : (10000 : Int) ≤ (u : Int) := by omega
      have hnum : numM t = none := by
        cases hq : numM t with
        | none => rfl
        | some a =>
          obtain ⟨y1, y2, y3⟩ := HY.out a hq
          rw [hat] at y1
          cases y1; omega
      have HNUM := Hide.mk hnum
      clear hnum hat
      iterate 8 (all_goals try (first | with_reducible refine splitI (fun h => ?_) (fun h => ?_) | with_reducible refine splitBI (fun h => ?_) (fun h => ?_) | simp (config := { maxSteps := 1000000 }) (disch := first | assumption | omega | (simp; done) | fail) [Tryd.results74, *]))
      first | exact ⟨_, _, ⟨rfl, rfl⟩, hn1, HG1.out⟩ | exact ⟨HNUM.out, _, _, ⟨rfl, rfl⟩, hn1, HG1.out⟩
  · have HG1 := Hide.mk hg1
    have hnum : numM t = none := by
      cases hq : numM t with
      | none => rfl
      | some a => exact absurd (HY.out a hq).1 (hat _)
    have HNUM := Hide.mk hnum
    clear hnum hat hg1
    iterate 8 (all_goals try (first | with_reducible refine splitI (fun h => ?_) (fun h => ?_) | with_reducible refine splitBI (fun h => ?_) (fun h => ?_) | simp (config := { maxSteps := 1000000 }) (disch := first | assumption | omega | (simp; done) | fail) [Tryd.results74, *]))
    first | exact ⟨_, _, ⟨rfl, rfl⟩, hn1, HG1.out⟩ | exact ⟨HNUM.out, _, _, ⟨rfl, rfl⟩, hn1, HG1.out⟩
end Go.Ai
end

section
namespace Go.Ai
open Go.Proofs
set_option maxRecDepth 10000
set_option maxHeartbeats 40000000
/-- How a call of the parser ends. -/
def PEnd (s : ByteArray) (p : Nat) (g : Nat → Option Blk) (n : Nat) (res : ParR) (r : COut) : Prop :=
  match res with
  | .ok x k => ∃ (op : Nat) (a b : Int) (sv : AV) (g' : Nat → Option Blk) (n' : Nat), r = .ret (.agg [.lit (.int .u8 op), .lit (.int .i64 a), .lit (.int .i64 b), sv]) ⟨.fn g', n'⟩ ∧ n ≤ n' ∧ (∀ a, a < n → a ≠ p → g' a = g a) ∧ g' p = some (parB s k) ∧ k ≤ s.size ∧ FreshN g' n n' x [.lit (.int .u8 op), .lit (.int .i64 a), .lit (.int .i64 b), sv]
  | .err k => ∃ g' n', r = .panic (.iface 91 (.agg [])) ⟨.fn g', n'⟩ ∧ n ≤ n' ∧ (∀ a, a < n → a ≠ p → g' a = g a) ∧ g' p = some (parB s k) ∧ k ≤ s.size
def ReadOK (s : ByteArray) (p m : Nat) : Prop := ∀ (rank k : Nat) (g : Nat → Option Blk) (n : Nat), PAt s p g n k → 1 ≤ rank → rank ≤ 3 → 20 * (s.size - k) + 10 ≤ m + rank →
  WC 6 Tryd.prog 42 [.ptr p 0, .lit (.int .i64 rank)] ⟨.fn g, n⟩ fun r => ∃ res, readF s m rank k = some res ∧ PEnd s p g n res r
def SingOK (s : ByteArray) (p m : Nat) : Prop := ∀ (k : Nat) (g : Nat → Option Blk) (n : Nat), PAt s p g n k → 20 * (s.size - k) + 6 ≤ m →
  WC 6 Tryd.prog 60 [.ptr p 0] ⟨.fn g, n⟩ fun r => ∃ res, singF s m k = some res ∧ PEnd s p g n res r
theorem PAt.low {s : ByteArray} {p n n' k : Nat} {g g' : Nat → Option Blk} (h : PAt s p g n k) (hn : n ≤ n') (hg : ∀ a, a ≤ p → g' a = g a) : PAt s p g' n' k := by
  have h1 := h.p0
  have h2 := h.pn
  exact ⟨(hg 0 (by omega)).trans h.ops, (hg 1 (by omega)).trans h.pw, (hg 2 (by omega)).trans h.e2, (hg 3 (by omega)).trans h.e3, h1, by omega, (hg p (Nat.le_refl _)).trans h.cell, h.le⟩
theorem op_facts (j : Nat) (h : j < 15) : (opRows[j]'(by rw [opRows_len]; exact h)).subs = (subsM j : Nat) ∧ (opRows[j]'(by rw [opRows_len]; exact h)).sign = signB j ∧ (opRows[j]'(by rw [opRows_len]; exact h)).rank = rankM j := by
  rcases op_cases h with rfl | rfl | rfl | rfl | rfl | rfl | rfl | rfl | rfl | rfl | rfl | rfl | rfl | rfl | rfl <;> exact ⟨rfl, rfl, rfl⟩
theorem range_drop {j : Nat} (h : j < 15) : (List.range 15).drop j = j :: (List.range 15).drop (j + 1) := by
  have := List.drop_eq_getElem_cons (l := List.range 15) (i := j) (by simpa using h)
  rw [this, List.getElem_range]
theorem single_w {s : ByteArray} {p m : Nat} (hs : s.size ≤ 1000000) (hR : ReadOK s p m) (hS : SingOK s p m) : SingOK s p (m + 1) := by
  intro k g n h hm
  have hp0 := h.p0
  have hpn := h.pn
  have hle := h.le
  have HH := Hide.mk h
  have HT := Hide.mk (fun (g : Nat → Option Blk) (n : Nat) (k : Nat) (h : PAt s p g n k) t => take_w h hs t)
  have HNE := Hide.mk (fun (g : Nat → Option Blk) (n : Nat) (k : Nat) (h : PAt s p g n k) t => need_w h hs t)
  have HNU := Hide.mk (fun (g : Nat → Option Blk) (n : Nat) (k : Nat) (h : PAt s p g n k) => number_w h hs)
  have HR := Hide.mk hR
  have HS := Hide.mk hS
  have hpn' : ¬p = n := by omega
  have hops := h.ops
  clear h hR hS
  refine WC.enterP (noO_ok _ _) hG pl60 Tryd.func60 rfl (by decide +kernel) (Nat.le_of_ble_eq_true (by kernel_rfl)) ?_
  iterate 12 (all_goals try (first | with_reducible refine splitI (fun h => ?_) (fun h => ?_) | with_reducible refine splitBI (fun h => ?_) (fun h => ?_) | simp (config := { maxSteps := 1000000 }) (disch := first | assumption | omega | (simp; done) | fail) [Tryd.results60, *]))
  refine WC.mono (HT.out _ _ k (HH.out.keep (by omega) (fun a ha => (by simp (disch := omega) only [gput_lt]))) _) ?_
  rintro _ (⟨ht, g1, n1, rfl, hn1, hg1, hp1⟩ | ⟨ht, rfl⟩)
  · have hk : k < s.size := tok_full hle ht (by decide)
    have hnk := nxtM_lt hk
    have HTT := Hide.mk ht
    have e1 : g1 n = some (.cells [.lit (.int .u8 0), .lit (.int .i64 0), .lit (.int .i64 0), .lit (.slice none 0 0)] true 0) := by rw [hg1 n (by omega) (by omega)]; simp
    have HOLD : Hide (∀ a, a < n → a ≠ p → g1 a = g a) := ⟨fun a ha hne => by rw [hg1 a (by omega) hne]; simp (disch := omega) only [gput_lt]⟩
    have P1 : PAt s p g1 n1 (nxtM s k) := HH.out.step (by omega) (fun a ha hne => HOLD.out a ha hne) hp1 (nxtM_le hle)
    have HP1 := Hide.mk P1
    clear hg1 P1 ht
    iterate 12 (all_goals try (first | with_reducible refine splitI (fun h => ?_) (fun h => ?_) | with_reducible refine splitBI (fun h => ?_) (fun h => ?_) | simp (config := { maxSteps := 1000000 }) (disch := first | assumption | omega | (simp; done) | fail) [Tryd.results60, *]))
    refine WC.mono (HR.out 1 (nxtM s k) _ _ HP1.out (by omega) (by omega) (by omega)) ?_
    rintro _ ⟨res, hrd, hend⟩
    cases res with
    | err k2 =>
      obtain ⟨g2, n2, rfl, hn2, hg2, hp2, hk2⟩ := hend
      have hres : singF s (m + 1) k = some (.err k2) := by rw [singF, if_pos (show tokB s k = openT from HTT.out), hrd]
      have HRES := Hide.mk hres
      have HG2 := Hide.mk hg2
      clear hres hg2 hrd
      iterate 12 (all_goals try (first | with_reducible refine splitI (fun h => ?_) (fun h => ?_) | with_reducible refine splitBI (fun h => ?_) (fun h => ?_) | simp (config := { maxSteps := 1000000 }) (disch := first | assumption | omega | (simp; done) | fail) [Tryd.results60, *]))
      exact ⟨_, HRES.out, _, _, rfl, by omega, fun a ha hne => (HG2.out a (by omega) hne).trans (HOLD.out a ha hne), hp2, hk2⟩
    | ok x k2 =>
      obtain ⟨op, qa, qb, sv, g2, n2, rfl, hn2, hg2, hp2, hk2, hfr⟩ := hend
      have h1c := repN_c hfr.rep
      have h1a : allOne [.lit (.int .u8 op), .lit (.int .i64 qa), .lit (.int .i64 qb), sv] = true := by simp [h1c]
      have e2 := (hg2 n (by omega) (by omega)).trans e1
      have hnn2 : ¬n = n2 := by omega
      have hpn2 : ¬p = n2 := by omega
      have HRD := Hide.mk hrd
      have HFR := Hide.mk hfr
      have HOLD2 : Hide (∀ a, a < n → a ≠ p → g2 a = g a) := ⟨fun a ha hne => (hg2 a (by omega) hne).trans (HOLD.out a ha hne)⟩
      have P2 : PAt s p g2 n2 k2 := HP1.out.step hn2 hg2 hp2 hk2
      have HP2 := Hide.mk P2
      clear hg2 hrd hfr P2 e1
      iterate 12 (all_goals try (first | with_reducible refine splitI (fun h => ?_) (fun h => ?_) | with_reducible refine splitBI (fun h => ?_) (fun h => ?_) | simp (config := { maxSteps := 1000000 }) (disch := first | assumption | omega | (simp; done) | fail) [Tryd.results60, *]))
      refine WC.mono (HNE.out _ _ k2 (HP2.out.keep (by omega) (fun a ha => (by simp (disch := omega) only [gput_lt]))) _) ?_
      rintro _ (⟨ht2, g3, n3, rfl, hn3, hg3, hp3⟩ | ⟨ht2, rfl⟩)
      · have hres : singF s (m + 1) k = some (.ok x (nxtM s k2)) := by
          rw [singF, if_pos (show tokB s k = openT from HTT.out), HRD.out]
          exact if_pos ht2
        have HRES := Hide.mk hres
        have e3 : g3 n2 = some (.cells [.lit (.int .u8 op), .lit (.int .i64 qa), .lit (.int .i64 qb), sv] true 0) := by rw [hg3 n2 (by omega) (by omega)]; simp (disch := omega) only [gput_eq]
        have e4 : g3 n = some (.cells [.lit (.int .u8 0), .lit (.int .i64 0), .lit (.int .i64 0), .lit (.slice none 0 0)] true 0) := by rw [hg3 n (by omega) (by omega)]; simp (disch := omega) only [gput_lt]; exact e2
        have HG3 := Hide.mk hg3
        clear hres hg3 ht2
        iterate 12 (all_goals try (first | with_reducible refine splitI (fun h => ?_) (fun h => ?_) | with_reducible refine splitBI (fun h => ?_) (fun h => ?_) | simp (config := { maxSteps := 1000000 }) (disch := first | assumption | omega | (simp; done) | fail) [Tryd.results60, *]))
        refine ⟨_, HRES.out, _, _, _, _, _, _, rfl, by omega, fun a ha hne => ?_, by rw [gput_ne hpn']; exact hp3, nxtM_le hk2, HFR.out.keep (by omega) (by omega) (fun a h4 h5 => ?_)⟩
        · rw [gput_lt ha, HG3.out a (by omega) hne]; simp (disch := omega) only [gput_lt]; exact HOLD2.out a ha hne
        · rw [gput_ne (by omega), HG3.out a (by omega) (by omega)]; simp (disch := omega) only [gput_lt]
      · have hres : singF s (m + 1) k = some (.err k2) := by
          rw [singF, if_pos (show tokB s k = openT from HTT.out), HRD.out]
          exact if_neg ht2
        have HRES := Hide.mk hres
        clear hres ht2
        iterate 12 (all_goals try (first | with_reducible refine splitI (fun h => ?_) (fun h => ?_) | with_reducible refine splitBI (fun h => ?_) (fun h => ?_) | simp (config := { maxSteps := 1000000 }) (disch := first | assumption | omega | (simp; done) | fail) [Tryd.results60, *]))
        refine ⟨_, HRES.out, _, _, rfl, by omega, fun a ha hne => ?_, ?_, hk2⟩
        · simp (disch := omega) only [gput_lt]; exact HOLD2.out a ha hne
        · simp (disch := omega) only [gput_lt]; exact HP2.out.cell
  have HTT := Hide.mk ht
  clear ht
  iterate 12 (all_goals try (first | with_reducible refine splitI (fun h => ?_) (fun h => ?_) | with_reducible refine splitBI (fun h => ?_) (fun h => ?_) | simp (config := { maxSteps := 1000000 }) (disch := first | assumption | omega | (simp; done) | fail) [Tryd.results60, *]))
  refine LX.ind (fun m' gf H' => ∃ (j n' : Nat) (g' : Nat → Option Blk), j ≤ 15 ∧ m' = 15 - j ∧ H' = ⟨.fn g', n'⟩ ∧ n < n' ∧ (∀ b, b < n → g' b = g b) ∧ g' n = some (.cells [.lit (.int .u8 0), .lit (.int .i64 0), .lit (.int .i64 0), .lit (.slice none 0 0)] true 0) ∧
    gf 0 = some (.ptr p 0) ∧ gf 2 = some (.ptr n 0) ∧ gf 16 = some (.agg opCells) ∧ gf 17 = some (.lit (.int .i64 j)) ∧ opOf (tokB s k) = opFrom (tokB s k) ((List.range 15).drop j)) (m0 := 15) ?_ ?_
  · exact ⟨0, n + 1, _, by omega, rfl, rfl, by omega, fun b hb => (by simp (disch := omega) only [gput_lt]), by simp, by simp, by simp, by simp, by simp, rfl⟩
  rintro m' gf H' ⟨j, n', g', hj, rfl, rfl, hn', hg', hz', q0, q2, q16, q17, hop⟩ ih
  refine LX.roundP (noO_ok _ _) hG pl60 (by decide +kernel) ?_
  have HG := Hide.mk hg'
  have HOP := Hide.mk hop
  have P' : PAt s p g' n' k := HH.out.keep (by omega) hg'
  have HP' := Hide.mk P'
  clear hg' hop P'
  by_cases hlt : j < 15
  · have hb : j * 4 + 4 ≤ opCells.length := by rw [opCells_len]; omega
    have hrow := op_row j hlt
    obtain ⟨f1, f2, f3⟩ := op_facts j hlt
    have hop2 := HOP.out
    rw [range_drop hlt, opFrom] at hop2
    generalize opRows[j]'hlt = r at hrow f1 f2 f3
    simp only [OpRow.cells] at hrow
    rw [f1, f2] at hrow
    have HOP2 := Hide.mk hop2
    have hjI : (j : Int) < 15 := by omega
    have hnn' : ¬n = n' := by omega
    have hpn2 : ¬p = n' := by omega
    clear hop2 f1 f2 f3
    by_cases h56 : j = 5 ∨ j = 6
    · have hop3 : opOf (tokB s k) = opFrom (tokB s k) ((List.range 15).drop (j + 1)) := by rw [HOP2.out]; exact if_neg (fun h => by omega)
      have HOP3 := Hide.mk hop3
      have hs2 : subsM j = 2 := by rcases h56 with rfl | rfl <;> rfl
      have h10 : ¬(j : Int) = 10 := by omega
      have h14 : ¬(j : Int) = 14 := by omega
      have h10n : ¬j = 10 := by omega
      have h14n : ¬j = 14 := by omega
      rw [hs2] at hrow
      clear hop3 HOP2 HOP
      iterate 12 (all_goals try (first | with_reducible refine splitI (fun h => ?_) (fun h => ?_) | with_reducible refine splitBI (fun h => ?_) (fun h => ?_) | simp (config := { maxSteps := 1000000 }) (disch := first | assumption | omega | (simp; done) | fail) [Tryd.results60, *]))
      refine ih.out (15 - (j + 1)) _ _ (by omega) ⟨j + 1, n' + 1, _, hlt, rfl, rfl, by omega, fun b hb => (gput_lt (by omega)).trans (HG.out b hb), (gput_lt (by omega)).trans hz', by simp [*], by simp [*], by simp [*], by simp [*], HOP3.out⟩
    · have hcl : (j = 10 ∨ j = 14) ∨ j = 0 ∨ (j = 1 ∨ j = 2) ∨ j = 3 ∨ (subsM j = 1 ∧ ¬j = 0 ∧ ¬j = 3) := by
        have : j = 0 ∨ j = 1 ∨ j = 2 ∨ j = 3 ∨ j = 4 ∨ j = 7 ∨ j = 8 ∨ j = 9 ∨ j = 10 ∨ j = 11 ∨ j = 12 ∨ j = 13 ∨ j = 14 := by omega
        rcases this with rfl | rfl | rfl | rfl | rfl | rfl | rfl | rfl | rfl | rfl | rfl | rfl | rfl <;> simp [subsM]
      rcases hcl with hB | rfl | h12 | rfl | ⟨hs1, hj0, hj3⟩
      · rcases hB with rfl | rfl
        · rw [show subsM 10 = 2 from rfl] at hrow
          iterate 12 (all_goals try (first | with_reducible refine splitI (fun h => ?_) (fun h => ?_) | with_reducible refine splitBI (fun h => ?_) (fun h => ?_) | simp (config := { maxSteps := 1000000 }) (disch := first | assumption | omega | (simp; done) | fail) [Tryd.results60, *]))
          refine WC.mono (HT.out _ _ k (HP'.out.keep (by omega) (fun a ha => (by simp (disch := omega) only [gput_lt]))) _) ?_
          rintro _ (⟨ht, g1, n1, rfl, hn1, hg1, hp1⟩ | ⟨ht, rfl⟩)
          · have hk : k < s.size := tok_full hle ht (signB_pos (by omega))
            have hnk := nxtM_lt hk
            have hnl := nxtM_le hle
            have hopj : opOf (tokB s k) = some 10 := by rw [HOP2.out]; exact if_pos ⟨by omega, by omega, ht.symm⟩
            have HOPJ := Hide.mk hopj
            have e1n : g1 n = some (.cells [.lit (.int .u8 0), .lit (.int .i64 0), .lit (.int .i64 0), .lit (.slice none 0 0)] true 0) := by rw [hg1 n (by omega) (by omega)]; simp (disch := omega) only [gput_lt]; exact hz'
            have e15 := hg1 n' (by omega) (by omega)
            rw [gput_eq] at e15
            have HO1 : Hide (∀ a, a < n → a ≠ p → g1 a = g a) := ⟨fun a ha hne => by rw [hg1 a (by omega) hne]; simp (disch := omega) only [gput_lt]; exact HG.out a ha⟩
            have P1 : PAt s p g1 n1 (nxtM s k) := HP'.out.step (by omega) (fun a ha hne => by rw [hg1 a (by omega) hne]; simp (disch := omega) only [gput_lt]) hp1 hnl
            have HP1 := Hide.mk P1
            have hnn1 : ¬n = n1 := by omega
            have hpn1 : ¬p = n1 := by omega
            have hn1' : ¬n' = n1 := by omega
            clear hg1 P1 hopj ht HOP2 HOP hz'
            iterate 12 (all_goals try (first | with_reducible refine splitI (fun h => ?_) (fun h => ?_) | with_reducible refine splitBI (fun h => ?_) (fun h => ?_) | simp (config := { maxSteps := 1000000 }) (disch := first | assumption | omega | (simp; done) | fail) [Tryd.results60, *]))
            refine WC.mono (HNE.out _ _ (nxtM s k) (HP1.out.keep (by omega) (fun a ha => (by simp (disch := omega) only [gput_lt]))) _) ?_
            rintro _ (⟨tl, g2, n2, rfl, hn2, hg2, hp2⟩ | ⟨tl, rfl⟩)
            · have e2 : g2 n = some (.cells [.lit (.int .u8 0), .lit (.int .i64 0), .lit (.int .i64 0), .lit (.slice none 0 0)] true 0) := by rw [hg2 n (by omega) (by omega)]; simp (disch := omega) only [gput_lt]; exact e1n
              have e7 : g2 n1 = some (.cells [.lit (.int .u8 10), .lit (.int .i64 0), .lit (.int .i64 0), .lit (.slice none 0 0)] true 0) := by rw [hg2 n1 (by omega) (by omega)]; simp (disch := omega) only [gput_eq]
              have e25 := hg2 n' (by omega) (by omega)
              rw [gput_ne (by omega), e15] at e25
              have HO2 : Hide (∀ a, a < n → a ≠ p → g2 a = g a) := ⟨fun a ha hne => by rw [hg2 a (by omega) hne]; simp (disch := omega) only [gput_lt]; exact HO1.out a ha hne⟩
              have P2 : PAt s p g2 n2 (nxtM s (nxtM s k)) := HP1.out.step (by omega) (fun a ha hne => by rw [hg2 a (by omega) hne]; simp (disch := omega) only [gput_lt]) hp2 (nxtM_le hnl)
              have HP2 := Hide.mk P2
              have HTL := Hide.mk tl
              have hnk2 := nxtM_ge hnl
              clear hg2 P2 tl
              iterate 12 (all_goals try (first | with_reducible refine splitI (fun h => ?_) (fun h => ?_) | with_reducible refine splitBI (fun h => ?_) (fun h => ?_) | simp (config := { maxSteps := 1000000 }) (disch := first | assumption | omega | (simp; done) | fail) [Tryd.results60, *]))
              refine WC.mono (HR.out 1 (nxtM s (nxtM s k)) _ _ HP2.out (by omega) (by omega) (by omega)) ?_
              rintro _ ⟨res, hrd, hend⟩
              cases res with
              | err k3 =>
                obtain ⟨g3, n3, rfl, hn3, hg3, hp3, hk3⟩ := hend
                have hres : singF s (m + 1) k = some (.err k3) := by
                  rw [singF, if_neg (show ¬tokB s k = openT from HTT.out), HOPJ.out]
                  dsimp only
                  rw [if_pos (by decide), if_pos (show tokB s (nxtM s k) = leftT from HTL.out), hrd]
                have HRES := Hide.mk hres
                have HG3 := Hide.mk hg3
                clear hres hg3 hrd
                iterate 12 (all_goals try (first | with_reducible refine splitI (fun h => ?_) (fun h => ?_) | with_reducible refine splitBI (fun h => ?_) (fun h => ?_) | simp (config := { maxSteps := 1000000 }) (disch := first | assumption | omega | (simp; done) | fail) [Tryd.results60, *]))
                exact ⟨_, HRES.out, _, _, rfl, by omega, fun a ha hne => (HG3.out a (by omega) hne).trans (HO2.out a ha hne), hp3, hk3⟩
              | ok x k3 =>
                obtain ⟨op, qa, qb, sv, g3, n3, rfl, hn3, hg3, hp3, hk3, hfr⟩ := hend
                have h1c := repN_c hfr.rep
                have h1a : allOne [.lit (.int .u8 op), .lit (.int .i64 qa), .lit (.int .i64 qb), sv] = true := by simp [h1c]
                have e3 := (hg3 n (by omega) (by omega)).trans e2
                have e37 := (hg3 n1 (by omega) (by omega)).trans e7
                have hnn3 : ¬n = n3 := by omega
                have hpn3 : ¬p = n3 := by omega
                have hn13 : ¬n1 = n3 := by omega
                have HFR := Hide.mk hfr
                have HRD := Hide.mk hrd
                have HO3 : Hide (∀ a, a < n → a ≠ p → g3 a = g a) := ⟨fun a ha hne => (hg3 a (by omega) hne).trans (HO2.out a ha hne)⟩
                have P3 : PAt s p g3 n3 k3 := HP2.out.step hn3 hg3 hp3 hk3
                have HP3 := Hide.mk P3
                clear hg3 hrd hfr P3
                iterate 12 (all_goals try (first | with_reducible refine splitI (fun h => ?_) (fun h => ?_) | with_reducible refine splitBI (fun h => ?_) (fun h => ?_) | simp (config := { maxSteps := 1000000 }) (disch := first | assumption | omega | (simp; done) | fail) [Tryd.results60, *]))
                refine WC.mono (HNE.out _ _ k3 (HP3.out.keep (by omega) (fun a ha => (by simp (disch := omega) only [gput_lt]))) _) ?_
                rintro _ (⟨tu, g4, n4, rfl, hn4, hg4, hp4⟩ | ⟨tu, rfl⟩)
                · have e4 : g4 n = some (.cells [.lit (.int .u8 0), .lit (.int .i64 0), .lit (.int .i64 0), .lit (.slice none 0 0)] true 0) := by rw [hg4 n (by omega) (by omega)]; simp (disch := omega) only [gput_lt]; exact e3
                  have e47 : g4 n1 = some (.cells [.lit (.int .u8 10), .lit (.int .i64 0), .lit (.int .i64 0), .lit (.slice none 0 0)] true 0) := by rw [hg4 n1 (by omega) (by omega)]; simp (disch := omega) only [gput_lt]; exact e37
                  have e48 : g4 n3 = some (.cells [.lit (.int .u8 op), .lit (.int .i64 qa), .lit (.int .i64 qb), sv] true 0) := by rw [hg4 n3 (by omega) (by omega)]; simp (disch := omega) only [gput_eq]
                  have HO4 : Hide (∀ a, a < n → a ≠ p → g4 a = g a) := ⟨fun a ha hne => by rw [hg4 a (by omega) hne]; simp (disch := omega) only [gput_lt]; exact HO3.out a ha hne⟩
                  have HF4 : Hide (FreshN g4 (n1 + 1) n4 x [.lit (.int .u8 op), .lit (.int .i64 qa), .lit (.int .i64 qb), sv]) := ⟨HFR.out.keep (by omega) (by omega) (fun a h4 h5 => by rw [hg4 a (by omega) (by omega)]; simp (disch := omega) only [gput_lt])⟩
                  have P4 : PAt s p g4 n4 (nxtM s k3) := HP3.out.step (by omega) (fun a ha hne => by rw [hg4 a (by omega) hne]; simp (disch := omega) only [gput_lt]) hp4 (nxtM_le hk3)
                  have HP4 := Hide.mk P4
                  have HTU := Hide.mk tu
                  have hnk3 := nxtM_ge hk3
                  have hgd := ((read_good m).1 _ _ _ _ (nxtM_le hnl) HRD.out).1
                  clear hg4 P4 tu
                  iterate 12 (all_goals try (first | with_reducible refine splitI (fun h => ?_) (fun h => ?_) | with_reducible refine splitBI (fun h => ?_) (fun h => ?_) | simp (config := { maxSteps := 1000000 }) (disch := first | assumption | omega | (simp; done) | fail) [Tryd.results60, *]))
                  refine WC.mono (HR.out 1 (nxtM s k3) _ _ HP4.out (by omega) (by omega) (by omega)) ?_
                  rintro _ ⟨res, hrd, hend⟩
                  cases res with
                  | err k5 =>
                    obtain ⟨g5, n5, rfl, hn5, hg5, hp5, hk5⟩ := hend
                    have hres : singF s (m + 1) k = some (.err k5) := by
                      rw [singF, if_neg (show ¬tokB s k = openT from HTT.out), HOPJ.out]
                      dsimp only
                      rw [if_pos (by decide), if_pos (show tokB s (nxtM s k) = leftT from HTL.out), HRD.out]
                      dsimp only
                      rw [if_pos (show tokB s k3 = untilT from HTU.out), hrd]
                    have HRES := Hide.mk hres
                    have HG5 := Hide.mk hg5
                    clear hres hg5 hrd
                    iterate 12 (all_goals try (first | with_reducible refine splitI (fun h => ?_) (fun h => ?_) | with_reducible refine splitBI (fun h => ?_) (fun h => ?_) | simp (config := { maxSteps := 1000000 }) (disch := first | assumption | omega | (simp; done) | fail) [Tryd.results60, *]))
                    exact ⟨_, HRES.out, _, _, rfl, by omega, fun a ha hne => (HG5.out a (by omega) hne).trans (HO4.out a ha hne), hp5, hk5⟩
                  | ok y k5 =>
                    obtain ⟨op5, ya, yb, sv5, g5, n5, rfl, hn5, hg5, hp5, hk5, hfr5⟩ := hend
                    have h1c5 := repN_c hfr5.rep
                    have h1a5 : allOne [.lit (.int .u8 op5), .lit (.int .i64 ya), .lit (.int .i64 yb), sv5] = true := by simp [h1c5]
                    have e5 := (hg5 n (by omega) (by omega)).trans e4
                    have e57 := (hg5 n1 (by omega) (by omega)).trans e47
                    have e58 := (hg5 n3 (by omega) (by omega)).trans e48
                    have hnn5 : ¬n = n5 := by omega
                    have hpn5 : ¬p = n5 := by omega
                    have hn15 : ¬n1 = n5 := by omega
                    have HRD2 := Hide.mk hrd
                    have HFX : Hide (FreshN g5 (n1 + 1) n5 x [.lit (.int .u8 op), .lit (.int .i64 qa), .lit (.int .i64 qb), sv]) := ⟨HF4.out.keep (by omega) (by omega) (fun a h4 h5 => hg5 a (by omega) (by omega))⟩
                    have HFY : Hide (FreshN g5 (n1 + 1) n5 y [.lit (.int .u8 op5), .lit (.int .i64 ya), .lit (.int .i64 yb), sv5]) := ⟨hfr5.keep (by omega) (by omega) (fun _ _ _ => rfl)⟩
                    have HO5 : Hide (∀ a, a < n → a ≠ p → g5 a = g a) := ⟨fun a ha hne => (hg5 a (by omega) hne).trans (HO4.out a ha hne)⟩
                    have P5 : PAt s p g5 n5 k5 := HP4.out.step hn5 hg5 hp5 hk5
                    have HP5 := Hide.mk P5
                    clear hg5 hrd hfr5 P5
                    iterate 12 (all_goals try (first | with_reducible refine splitI (fun h => ?_) (fun h => ?_) | with_reducible refine splitBI (fun h => ?_) (fun h => ?_) | simp (config := { maxSteps := 1000000 }) (disch := first | assumption | omega | (simp; done) | fail) [Tryd.results60, *]))
                    refine WC.mono (HNE.out _ _ k5 (HP5.out.low (by omega) (fun a ha => by simp (disch := omega) only [gput_ne])) _) ?_
                    rintro _ (⟨tr, g6, n6, rfl, hn6, hg6, hp6⟩ | ⟨tr, rfl⟩)
                    · have hres : singF s (m + 1) k = some (.ok (.mk 10 0 0 [x, y]) (nxtM s k5)) := by
                        rw [singF, if_neg (show ¬tokB s k = openT from HTT.out), HOPJ.out]
                        dsimp only
                        rw [if_pos (by decide), if_pos (show tokB s (nxtM s k) = leftT from HTL.out), HRD.out]
                        dsimp only
                        rw [if_pos (show tokB s k3 = untilT from HTU.out), HRD2.out]
                        exact if_pos tr
                      have HRES := Hide.mk hres
                      have e6 : g6 n = some (.cells [.lit (.int .u8 0), .lit (.int .i64 0), .lit (.int .i64 0), .lit (.slice none 0 0)] true 0) := by rw [hg6 n (by omega) (by omega)]; simp (disch := omega) only [gput_ne]; exact e5
                      have e67 := hg6 n1 (by omega) (by omega)
                      rw [gput_eq] at e67
                      have HG6 := Hide.mk hg6
                      clear hres hg6
                      iterate 12 (all_goals try (first | with_reducible refine splitI (fun h => ?_) (fun h => ?_) | with_reducible refine splitBI (fun h => ?_) (fun h => ?_) | simp (config := { maxSteps := 1000000 }) (disch := first | assumption | omega | (simp; done) | fail) [Tryd.results60, *]))
                      refine ⟨_, HRES.out, 10, 0, 0, .sl n5 0 2 2, _, _, rfl, by omega, fun a ha hne => ?_, ?_, nxtM_le hk5, (FreshN.node (FreshL.two HFX.out HFY.out) rfl (by omega) (S := n5) (n2 := n6) ?_ (Nat.le_refl _) (by omega) (by omega) ?_).keep (n0 := n) (by omega) (Nat.le_refl _) (fun _ _ _ => rfl)⟩
                      · simp (disch := omega) only [gput_ne, gput_lt]; rw [HG6.out a (by omega) hne]; simp (disch := omega) only [gput_ne]; exact HO5.out a ha hne
                      · simp (disch := omega) only [gput_ne, gput_lt]; exact hp6
                      · simp (disch := omega) only [gput_ne]; rw [HG6.out n5 (by omega) (by omega)]; simp (disch := omega) only [gput_ne, gput_eq]; rfl
                      · intro a h4 h5
                        simp (disch := omega) only [gput_ne]; rw [HG6.out a (by omega) (by omega)]; simp (disch := omega) only [gput_ne]
                    · have hres : singF s (m + 1) k = some (.err k5) := by
                        rw [singF, if_neg (show ¬tokB s k = openT from HTT.out), HOPJ.out]
                        dsimp only
                        rw [if_pos (by decide), if_pos (show tokB s (nxtM s k) = leftT from HTL.out), HRD.out]
                        dsimp only
                        rw [if_pos (show tokB s k3 = untilT from HTU.out), HRD2.out]
                        exact if_neg tr
                      have HRES := Hide.mk hres
                      clear hres
                      iterate 12 (all_goals try (first | with_reducible refine splitI (fun h => ?_) (fun h => ?_) | with_reducible refine splitBI (fun h => ?_) (fun h => ?_) | simp (config := { maxSteps := 1000000 }) (disch := first | assumption | omega | (simp; done) | fail) [Tryd.results60, *]))
                      refine ⟨_, HRES.out, _, _, rfl, by omega, fun a ha hne => ?_, ?_, hk5⟩
                      · simp (disch := omega) only [gput_ne]; exact HO5.out a ha hne
                      · simp (disch := omega) only [gput_ne]; exact HP5.out.cell
                · have hres : singF s (m + 1) k = some (.err k3) := by
                    rw [singF, if_neg (show ¬tokB s k = openT from HTT.out), HOPJ.out]
                    dsimp only
                    rw [if_pos (by decide), if_pos (show tokB s (nxtM s k) = leftT from HTL.out), HRD.out]
                    exact if_neg tu
                  have HRES := Hide.mk hres
                  clear hres
                  iterate 12 (all_goals try (first | with_reducible refine splitI (fun h => ?_) (fun h => ?_) | with_reducible refine splitBI (fun h => ?_) (fun h => ?_) | simp (config := { maxSteps := 1000000 }) (disch := first | assumption | omega | (simp; done) | fail) [Tryd.results60, *]))
                  refine ⟨_, HRES.out, _, _, rfl, by omega, fun a ha hne => ?_, ?_, hk3⟩
                  · simp (disch := omega) only [gput_lt]; exact HO3.out a ha hne
                  · simp (disch := omega) only [gput_lt]; exact HP3.out.cell
            · have hres : singF s (m + 1) k = some (.err (nxtM s k)) := by
                rw [singF, if_neg (show ¬tokB s k = openT from HTT.out), HOPJ.out]
                dsimp only
                rw [if_pos (by decide)]
                exact if_neg tl
              have HRES := Hide.mk hres
              clear hres
              iterate 12 (all_goals try (first | with_reducible refine splitI (fun h => ?_) (fun h => ?_) | with_reducible refine splitBI (fun h => ?_) (fun h => ?_) | simp (config := { maxSteps := 1000000 }) (disch := first | assumption | omega | (simp; done) | fail) [Tryd.results60, *]))
              refine ⟨_, HRES.out, _, _, rfl, by omega, fun a ha hne => ?_, ?_, hnl⟩
              · simp (disch := omega) only [gput_lt]; exact HO1.out a ha hne
              · simp (disch := omega) only [gput_lt]; exact HP1.out.cell
          · have hop3 : opOf (tokB s k) = opFrom (tokB s k) ((List.range 15).drop (10 + 1)) := by rw [HOP2.out]; exact if_neg (fun h => ht h.2.2.symm)
            have HOP3 := Hide.mk hop3
            clear hop3 HOP2 HOP ht
            iterate 12 (all_goals try (first | with_reducible refine splitI (fun h => ?_) (fun h => ?_) | with_reducible refine splitBI (fun h => ?_) (fun h => ?_) | simp (config := { maxSteps := 1000000 }) (disch := first | assumption | omega | (simp; done) | fail) [Tryd.results60, *]))
            refine ih.out (15 - (10 + 1)) _ _ (by omega) ⟨10 + 1, n' + 1, _, by omega, rfl, rfl, by omega, fun b hb => (gput_lt (by omega)).trans (HG.out b hb), (gput_lt (by omega)).trans hz', by simp [*], by simp [*], by simp [*], by simp [*], HOP3.out⟩
        · rw [show subsM 14 = 2 from rfl] at hrow
          iterate 12 (all_goals try (first | with_reducible refine splitI (fun h => ?_) (fun h => ?_) | with_reducible refine splitBI (fun h => ?_) (fun h => ?_) | simp (config := { maxSteps := 1000000 }) (disch := first | assumption | omega | (simp; done) | fail) [Tryd.results60, *]))
          refine WC.mono (HT.out _ _ k (HP'.out.keep (by omega) (fun a ha => (by simp (disch := omega) only [gput_lt]))) _) ?_
          rintro _ (⟨ht, g1, n1, rfl, hn1, hg1, hp1⟩ | ⟨ht, rfl⟩)
          · have hk : k < s.size := tok_full hle ht (signB_pos (by omega))
            have hnk := nxtM_lt hk
            have hnl := nxtM_le hle
            have hopj : opOf (tokB s k) = some 14 := by rw [HOP2.out]; exact if_pos ⟨by omega, by omega, ht.symm⟩
            have HOPJ := Hide.mk hopj
            have e1n : g1 n = some (.cells [.lit (.int .u8 0), .lit (.int .i64 0), .lit (.int .i64 0), .lit (.slice none 0 0)] true 0) := by rw [hg1 n (by omega) (by omega)]; simp (disch := omega) only [gput_lt]; exact hz'
            have e15 := hg1 n' (by omega) (by omega)
            rw [gput_eq] at e15
            have HO1 : Hide (∀ a, a < n → a ≠ p → g1 a = g a) := ⟨fun a ha hne => by rw [hg1 a (by omega) hne]; simp (disch := omega) only [gput_lt]; exact HG.out a ha⟩
            have P1 : PAt s p g1 n1 (nxtM s k) := HP'.out.step (by omega) (fun a ha hne => by rw [hg1 a (by omega) hne]; simp (disch := omega) only [gput_lt]) hp1 hnl
            have HP1 := Hide.mk P1
            have hnn1 : ¬n = n1 := by omega
            have hpn1 : ¬p = n1 := by omega
            have hn1' : ¬n' = n1 := by omega
            clear hg1 P1 hopj ht HOP2 HOP hz'
            iterate 12 (all_goals try (first | with_reducible refine splitI (fun h => ?_) (fun h => ?_) | with_reducible refine splitBI (fun h => ?_) (fun h => ?_) | simp (config := { maxSteps := 1000000 }) (disch := first | assumption | omega | (simp; done) | fail) [Tryd.results60, *]))
            refine WC.mono (HNE.out _ _ (nxtM s k) (HP1.out.keep (by omega) (fun a ha => (by simp (disch := omega) only [gput_lt]))) _) ?_
            rintro _ (⟨tl, g2, n2, rfl, hn2, hg2, hp2⟩ | ⟨tl, rfl⟩)
            · have e2 : g2 n = some (.cells [.lit (.int .u8 0), .lit (.int .i64 0), .lit (.int .i64 0), .lit (.slice none 0 0)] true 0) := by rw [hg2 n (by omega) (by omega)]; simp (disch := omega) only [gput_lt]; exact e1n
              have e7 : g2 n1 = some (.cells [.lit (.int .u8 14), .lit (.int .i64 0), .lit (.int .i64 0), .lit (.slice none 0 0)] true 0) := by rw [hg2 n1 (by omega) (by omega)]; simp (disch := omega) only [gput_eq]
              have e25 := hg2 n' (by omega) (by omega)
              rw [gput_ne (by omega), e15] at e25
              have HO2 : Hide (∀ a, a < n → a ≠ p → g2 a = g a) := ⟨fun a ha hne => by rw [hg2 a (by omega) hne]; simp (disch := omega) only [gput_lt]; exact HO1.out a ha hne⟩
              have P2 : PAt s p g2 n2 (nxtM s (nxtM s k)) := HP1.out.step (by omega) (fun a ha hne => by rw [hg2 a (by omega) hne]; simp (disch := omega) only [gput_lt]) hp2 (nxtM_le hnl)
              have HP2 := Hide.mk P2
              have HTL := Hide.mk tl
              have hnk2 := nxtM_ge hnl
              clear hg2 P2 tl
              iterate 12 (all_goals try (first | with_reducible refine splitI (fun h => ?_) (fun h => ?_) | with_reducible refine splitBI (fun h => ?_) (fun h => ?_) | simp (config := { maxSteps := 1000000 }) (disch := first | assumption | omega | (simp; done) | fail) [Tryd.results60, *]))
              refine WC.mono (HR.out 1 (nxtM s (nxtM s k)) _ _ HP2.out (by omega) (by omega) (by omega)) ?_
              rintro _ ⟨res, hrd, hend⟩
              cases res with
              | err k3 =>
                obtain ⟨g3, n3, rfl, hn3, hg3, hp3, hk3⟩ := hend
                have hres : singF s (m + 1) k = some (.err k3) := by
                  rw [singF, if_neg (show ¬tokB s k = openT from HTT.out), HOPJ.out]
                  dsimp only
                  rw [if_pos (by decide), if_pos (show tokB s (nxtM s k) = leftT from HTL.out), hrd]
                have HRES := Hide.mk hres
                have HG3 := Hide.mk hg3
                clear hres hg3 hrd
                iterate 12 (all_goals try (first | with_reducible refine splitI (fun h => ?_) (fun h => ?_) | with_reducible refine splitBI (fun h => ?_) (fun h => ?_) | simp (config := { maxSteps := 1000000 }) (disch := first | assumption | omega | (simp; done) | fail) [Tryd.results60, *]))
                exact ⟨_, HRES.out, _, _, rfl, by omega, fun a ha hne => (HG3.out a (by omega) hne).trans (HO2.out a ha hne), hp3, hk3⟩
              | ok x k3 =>
                obtain ⟨op, qa, qb, sv, g3, n3, rfl, hn3, hg3, hp3, hk3, hfr⟩ := hend
                have h1c := repN_c hfr.rep
                have h1a : allOne [.lit (.int .u8 op), .lit (.int .i64 qa), .lit (.int .i64 qb), sv] = true := by simp [h1c]
                have e3 := (hg3 n (by omega) (by omega)).trans e2
                have e37 := (hg3 n1 (by omega) (by omega)).trans e7
                have hnn3 : ¬n = n3 := by omega
                have hpn3 : ¬p = n3 := by omega
                have hn13 : ¬n1 = n3 := by omega
                have HFR := Hide.mk hfr
                have HRD := Hide.mk hrd
                have HO3 : Hide (∀ a, a < n → a ≠ p → g3 a = g a) := ⟨fun a ha hne => (hg3 a (by omega) hne).trans (HO2.out a ha hne)⟩
                have P3 : PAt s p g3 n3 k3 := HP2.out.step hn3 hg3 hp3 hk3
                have HP3 := Hide.mk P3
                clear hg3 hrd hfr P3
                iterate 12 (all_goals try (first | with_reducible refine splitI (fun h => ?_) (fun h => ?_) | with_reducible refine splitBI (fun h => ?_) (fun h => ?_) | simp (config := { maxSteps := 1000000 }) (disch := first | assumption | omega | (simp; done) | fail) [Tryd.results60, *]))
                refine WC.mono (HNE.out _ _ k3 (HP3.out.keep (by omega) (fun a ha => (by simp (disch := omega) only [gput_lt]))) _) ?_
                rintro _ (⟨tu, g4, n4, rfl, hn4, hg4, hp4⟩ | ⟨tu, rfl⟩)
                · have e4 : g4 n = some (.cells [.lit (.int .u8 0), .lit (.int .i64 0), .lit (.int .i64 0), .lit (.slice none 0 0)] true 0) := by rw [hg4 n (by omega) (by omega)]; simp (disch := omega) only [gput_lt]; exact e3
                  have e47 : g4 n1 = some (.cells [.lit (.int .u8 14), .lit (.int .i64 0), .lit (.int .i64 0), .lit (.slice none 0 0)] true 0) := by rw [hg4 n1 (by omega) (by omega)]; simp (disch := omega) only [gput_lt]; exact e37
                  have e48 : g4 n3 = some (.cells [.lit (.int .u8 op), .lit (.int .i64 qa), .lit (.int .i64 qb), sv] true 0) := by rw [hg4 n3 (by omega) (by omega)]; simp (disch := omega) only [gput_eq]
                  have HO4 : Hide (∀ a, a < n → a ≠ p → g4 a = g a) := ⟨fun a ha hne => by rw [hg4 a (by omega) hne]; simp (disch := omega) only [gput_lt]; exact HO3.out a ha hne⟩
                  have HF4 : Hide (FreshN g4 (n1 + 1) n4 x [.lit (.int .u8 op), .lit (.int .i64 qa), .lit (.int .i64 qb), sv]) := ⟨HFR.out.keep (by omega) (by omega) (fun a h4 h5 => by rw [hg4 a (by omega) (by omega)]; simp (disch := omega) only [gput_lt])⟩
                  have P4 : PAt s p g4 n4 (nxtM s k3) := HP3.out.step (by omega) (fun a ha hne => by rw [hg4 a (by omega) hne]; simp (disch := omega) only [gput_lt]) hp4 (nxtM_le hk3)
                  have HP4 := Hide.mk P4
                  have HTU := Hide.mk tu
                  have hnk3 := nxtM_ge hk3
                  have hgd := ((read_good m).1 _ _ _ _ (nxtM_le hnl) HRD.out).1
                  clear hg4 P4 tu
                  iterate 12 (all_goals try (first | with_reducible refine splitI (fun h => ?_) (fun h => ?_) | with_reducible refine splitBI (fun h => ?_) (fun h => ?_) | simp (config := { maxSteps := 1000000 }) (disch := first | assumption | omega | (simp; done) | fail) [Tryd.results60, *]))
                  refine WC.mono (HR.out 1 (nxtM s k3) _ _ HP4.out (by omega) (by omega) (by omega)) ?_
                  rintro _ ⟨res, hrd, hend⟩
                  cases res with
                  | err k5 =>
                    obtain ⟨g5, n5, rfl, hn5, hg5, hp5, hk5⟩ := hend
                    have hres : singF s (m + 1) k = some (.err k5) := by
                      rw [singF, if_neg (show ¬tokB s k = openT from HTT.out), HOPJ.out]
                      dsimp only
                      rw [if_pos (by decide), if_pos (show tokB s (nxtM s k) = leftT from HTL.out), HRD.out]
                      dsimp only
                      rw [if_pos (show tokB s k3 = untilT from HTU.out), hrd]
                    have HRES := Hide.mk hres
                    have HG5 := Hide.mk hg5
                    clear hres hg5 hrd
                    iterate 12 (all_goals try (first | with_reducible refine splitI (fun h => ?_) (fun h => ?_) | with_reducible refine splitBI (fun h => ?_) (fun h => ?_) | simp (config := { maxSteps := 1000000 }) (disch := first | assumption | omega | (simp; done) | fail) [Tryd.results60, *]))
                    exact ⟨_, HRES.out, _, _, rfl, by omega, fun a ha hne => (HG5.out a (by omega) hne).trans (HO4.out a ha hne), hp5, hk5⟩
                  | ok y k5 =>
                    obtain ⟨op5, ya, yb, sv5, g5, n5, rfl, hn5, hg5, hp5, hk5, hfr5⟩ := hend
                    have h1c5 := repN_c hfr5.rep
                    have h1a5 : allOne [.lit (.int .u8 op5), .lit (.int .i64 ya), .lit (.int .i64 yb), sv5] = true := by simp [h1c5]
                    have e5 := (hg5 n (by omega) (by omega)).trans e4
                    have e57 := (hg5 n1 (by omega) (by omega)).trans e47
                    have e58 := (hg5 n3 (by omega) (by omega)).trans e48
                    have hnn5 : ¬n = n5 := by omega
                    have hpn5 : ¬p = n5 := by omega
                    have hn15 : ¬n1 = n5 := by omega
                    have HRD2 := Hide.mk hrd
                    have HFX : Hide (FreshN g5 (n1 + 1) n5 x [.lit (.int .u8 op), .lit (.int .i64 qa), .lit (.int .i64 qb), sv]) := ⟨HF4.out.keep (by omega) (by omega) (fun a h4 h5 => hg5 a (by omega) (by omega))⟩
                    have HFY : Hide (FreshN g5 (n1 + 1) n5 y [.lit (.int .u8 op5), .lit (.int .i64 ya), .lit (.int .i64 yb), sv5]) := ⟨hfr5.keep (by omega) (by omega) (fun _ _ _ => rfl)⟩
                    have HO5 : Hide (∀ a, a < n → a ≠ p → g5 a = g a) := ⟨fun a ha hne => (hg5 a (by omega) hne).trans (HO4.out a ha hne)⟩
                    have P5 : PAt s p g5 n5 k5 := HP4.out.step hn5 hg5 hp5 hk5
                    have HP5 := Hide.mk P5
                    clear hg5 hrd hfr5 P5
                    iterate 12 (all_goals try (first | with_reducible refine splitI (fun h => ?_) (fun h => ?_) | with_reducible refine splitBI (fun h => ?_) (fun h => ?_) | simp (config := { maxSteps := 1000000 }) (disch := first | assumption | omega | (simp; done) | fail) [Tryd.results60, *]))
                    refine WC.mono (HNE.out _ _ k5 (HP5.out.low (by omega) (fun a ha => by simp (disch := omega) only [gput_ne])) _) ?_
                    rintro _ (⟨tr, g6, n6, rfl, hn6, hg6, hp6⟩ | ⟨tr, rfl⟩)
                    · have hres : singF s (m + 1) k = some (.ok (.mk 14 0 0 [x, y]) (nxtM s k5)) := by
                        rw [singF, if_neg (show ¬tokB s k = openT from HTT.out), HOPJ.out]
                        dsimp only
                        rw [if_pos (by decide), if_pos (show tokB s (nxtM s k) = leftT from HTL.out), HRD.out]
                        dsimp only
                        rw [if_pos (show tokB s k3 = untilT from HTU.out), HRD2.out]
                        exact if_pos tr
                      have HRES := Hide.mk hres
                      have e6 : g6 n = some (.cells [.lit (.int .u8 0), .lit (.int .i64 0), .lit (.int .i64 0), .lit (.slice none 0 0)] true 0) := by rw [hg6 n (by omega) (by omega)]; simp (disch := omega) only [gput_ne]; exact e5
                      have e67 := hg6 n1 (by omega) (by omega)
                      rw [gput_eq] at e67
                      have HG6 := Hide.mk hg6
                      clear hres hg6
                      iterate 12 (all_goals try (first | with_reducible refine splitI (fun h => ?_) (fun h => ?_) | with_reducible refine splitBI (fun h => ?_) (fun h => ?_) | simp (config := { maxSteps := 1000000 }) (disch := first | assumption | omega | (simp; done) | fail) [Tryd.results60, *]))
                      refine ⟨_, HRES.out, 14, 0, 0, .sl n5 0 2 2, _, _, rfl, by omega, fun a ha hne => ?_, ?_, nxtM_le hk5, (FreshN.node (FreshL.two HFX.out HFY.out) rfl (by omega) (S := n5) (n2 := n6) ?_ (Nat.le_refl _) (by omega) (by omega) ?_).keep (n0 := n) (by omega) (Nat.le_refl _) (fun _ _ _ => rfl)⟩
                      · simp (disch := omega) only [gput_ne, gput_lt]; rw [HG6.out a (by omega) hne]; simp (disch := omega) only [gput_ne]; exact HO5.out a ha hne
                      · simp (disch := omega) only [gput_ne, gput_lt]; exact hp6
                      · simp (disch := omega) only [gput_ne]; rw [HG6.out n5 (by omega) (by omega)]; simp (disch := omega) only [gput_ne, gput_eq]; rfl
                      · intro a h4 h5
                        simp (disch := omega) only [gput_ne]; rw [HG6.out a (by omega) (by omega)]; simp (disch := omega) only [gput_ne]
                    · have hres : singF s (m + 1) k = some (.err k5) := by
                        rw [singF, if_neg (show ¬tokB s k = openT from HTT.out), HOPJ.out]
                        dsimp only
                        rw [if_pos (by decide), if_pos (show tokB s (nxtM s k) = leftT from HTL.out), HRD.out]
                        dsimp only
                        rw [if_pos (show tokB s k3 = untilT from HTU.out), HRD2.out]
                        exact if_neg tr
                      have HRES := Hide.mk hres
                      clear hres
                      iterate 12 (all_goals try (first | with_reducible refine splitI (fun h => ?_) (fun h => ?_) | with_reducible refine splitBI (fun h => ?_) (fun h => ?_) | simp (config := { maxSteps := 1000000 }) (disch := first | assumption | omega | (simp; done) | fail) [Tryd.results60, *]))
                      refine ⟨_, HRES.out, _, _, rfl, by omega, fun a ha hne => ?_, ?_, hk5⟩
                      · simp (disch := omega) only [gput_ne]; exact HO5.out a ha hne
                      · simp (disch := omega) only [gput_ne]; exact HP5.out.cell
                · have hres : singF s (m + 1) k = some (.err k3) := by
                    rw [singF, if_neg (show ¬tokB s k = openT from HTT.out), HOPJ.out]
                    dsimp only
                    rw [if_pos (by decide), if_pos (show tokB s (nxtM s k) = leftT from HTL.out), HRD.out]
                    exact if_neg tu
                  have HRES := Hide.mk hres
                  clear hres
                  iterate 12 (all_goals try (first | with_reducible refine splitI (fun h => ?_) (fun h => ?_) | with_reducible refine splitBI (fun h => ?_) (fun h => ?_) | simp (config := { maxSteps := 1000000 }) (disch := first | assumption | omega | (simp; done) | fail) [Tryd.results60, *]))
                  refine ⟨_, HRES.out, _, _, rfl, by omega, fun a ha hne => ?_, ?_, hk3⟩
                  · simp (disch := omega) only [gput_lt]; exact HO3.out a ha hne
                  · simp (disch := omega) only [gput_lt]; exact HP3.out.cell
            · have hres : singF s (m + 1) k = some (.err (nxtM s k)) := by
                rw [singF, if_neg (show ¬tokB s k = openT from HTT.out), HOPJ.out]
                dsimp only
                rw [if_pos (by decide)]
                exact if_neg tl
              have HRES := Hide.mk hres
              clear hres
              iterate 12 (all_goals try (first | with_reducible refine splitI (fun h => ?_) (fun h => ?_) | with_reducible refine splitBI (fun h => ?_) (fun h => ?_) | simp (config := { maxSteps := 1000000 }) (disch := first | assumption | omega | (simp; done) | fail) [Tryd.results60, *]))
              refine ⟨_, HRES.out, _, _, rfl, by omega, fun a ha hne => ?_, ?_, hnl⟩
              · simp (disch := omega) only [gput_lt]; exact HO1.out a ha hne
              · simp (disch := omega) only [gput_lt]; exact HP1.out.cell
          · have hop3 : opOf (tokB s k) = opFrom (tokB s k) ((List.range 15).drop (14 + 1)) := by rw [HOP2.out]; exact if_neg (fun h => ht h.2.2.symm)
            have HOP3 := Hide.mk hop3
            clear hop3 HOP2 HOP ht
            iterate 12 (all_goals try (first | with_reducible refine splitI (fun h => ?_) (fun h => ?_) | with_reducible refine splitBI (fun h => ?_) (fun h => ?_) | simp (config := { maxSteps := 1000000 }) (disch := first | assumption | omega | (simp; done) | fail) [Tryd.results60, *]))
            refine ih.out (15 - (14 + 1)) _ _ (by omega) ⟨14 + 1, n' + 1, _, by omega, rfl, rfl, by omega, fun b hb => (gput_lt (by omega)).trans (HG.out b hb), (gput_lt (by omega)).trans hz', by simp [*], by simp [*], by simp [*], by simp [*], HOP3.out⟩
      · rw [show subsM 0 = 0 from rfl] at hrow
        have hrow0 : opCells.take 4 = [.lit (.int .i64 ((0 : Nat) : Int)), .lit (.int .i64 r.rank), .lit (.string (signB 0)), .lit (.func (.func r.fn) #[] #[])] := hrow
        iterate 12 (all_goals try (first | with_reducible refine splitI (fun h => ?_) (fun h => ?_) | with_reducible refine splitBI (fun h => ?_) (fun h => ?_) | simp (config := { maxSteps := 1000000 }) (disch := first | assumption | omega | (simp; done) | fail) [Tryd.results60, *]))
        refine WC.mono (HT.out _ _ k (HP'.out.keep (by omega) (fun a ha => (by simp (disch := omega) only [gput_lt]))) _) ?_
        rintro _ (⟨ht, g1, n1, rfl, hn1, hg1, hp1⟩ | ⟨ht, rfl⟩)
        · have hk : k < s.size := tok_full hle ht (signB_pos (by omega))
          have hnk := nxtM_lt hk
          have hnl := nxtM_le hle
          have hopj : opOf (tokB s k) = some 0 := by rw [HOP2.out]; exact if_pos ⟨by omega, by omega, ht.symm⟩
          have HOPJ := Hide.mk hopj
          have e1n : g1 n = some (.cells [.lit (.int .u8 0), .lit (.int .i64 0), .lit (.int .i64 0), .lit (.slice none 0 0)] true 0) := by rw [hg1 n (by omega) (by omega)]; simp (disch := omega) only [gput_lt]; exact hz'
          have e15 := hg1 n' (by omega) (by omega)
          rw [gput_eq] at e15
          have HO1 : Hide (∀ a, a < n → a ≠ p → g1 a = g a) := ⟨fun a ha hne => by rw [hg1 a (by omega) hne]; simp (disch := omega) only [gput_lt]; exact HG.out a ha⟩
          have P1 : PAt s p g1 n1 (nxtM s k) := HP'.out.step (by omega) (fun a ha hne => by rw [hg1 a (by omega) hne]; simp (disch := omega) only [gput_lt]) hp1 hnl
          have HP1 := Hide.mk P1
          have hnn1 : ¬n = n1 := by omega
          have hpn1 : ¬p = n1 := by omega
          have hn1' : ¬n' = n1 := by omega
          clear hg1 P1 hopj ht HOP2 HOP hz'
          have hres : singF s (m + 1) k = some (.ok (.mk 0 0 0 []) (nxtM s k)) := by
            rw [singF, if_neg (show ¬tokB s k = openT from HTT.out), HOPJ.out]
            rfl
          have HRES := Hide.mk hres
          clear hres
          iterate 12 (all_goals try (first | with_reducible refine splitI (fun h => ?_) (fun h => ?_) | with_reducible refine splitBI (fun h => ?_) (fun h => ?_) | simp (config := { maxSteps := 1000000 }) (disch := first | assumption | omega | (simp; done) | fail) [Tryd.results60, *]))
          refine ⟨_, HRES.out, 0, 0, 0, .lit (.slice none 0 0), _, _, rfl, by omega, fun a ha hne => ?_, ?_, hnl, FreshN.leaf (by omega)⟩
          · simp (disch := omega) only [gput_ne, gput_lt]; exact HO1.out a ha hne
          · simp (disch := omega) only [gput_ne, gput_lt]; exact HP1.out.cell
        · have hop3 : opOf (tokB s k) = opFrom (tokB s k) ((List.range 15).drop (0 + 1)) := by rw [HOP2.out]; exact if_neg (fun h => ht h.2.2.symm)
          have HOP3 := Hide.mk hop3
          clear hop3 HOP2 HOP ht
          iterate 12 (all_goals try (first | with_reducible refine splitI (fun h => ?_) (fun h => ?_) | with_reducible refine splitBI (fun h => ?_) (fun h => ?_) | simp (config := { maxSteps := 1000000 }) (disch := first | assumption | omega | (simp; done) | fail) [Tryd.results60, *]))
          refine ih.out (15 - (0 + 1)) _ _ (by omega) ⟨0 + 1, n' + 1, _, by omega, rfl, rfl, by omega, fun b hb => (gput_lt (by omega)).trans (HG.out b hb), (gput_lt (by omega)).trans hz', by simp [*], by simp [*], by simp [*], by simp [*], HOP3.out⟩
      · rcases h12 with rfl | rfl
        · rw [show subsM 1 = 0 from rfl] at hrow
          iterate 12 (all_goals try (first | with_reducible refine splitI (fun h => ?_) (fun h => ?_) | with_reducible refine splitBI (fun h => ?_) (fun h => ?_) | simp (config := { maxSteps := 1000000 }) (disch := first | assumption | omega | (simp; done) | fail) [Tryd.results60, *]))
          refine WC.mono (HT.out _ _ k (HP'.out.keep (by omega) (fun a ha => (by simp (disch := omega) only [gput_lt]))) _) ?_
          rintro _ (⟨ht, g1, n1, rfl, hn1, hg1, hp1⟩ | ⟨ht, rfl⟩)
          · have hk : k < s.size := tok_full hle ht (signB_pos (by omega))
            have hnk := nxtM_lt hk
            have hnl := nxtM_le hle
            have hopj : opOf (tokB s k) = some 1 := by rw [HOP2.out]; exact if_pos ⟨by omega, by omega, ht.symm⟩
            have HOPJ := Hide.mk hopj
            have e1n : g1 n = some (.cells [.lit (.int .u8 0), .lit (.int .i64 0), .lit (.int .i64 0), .lit (.slice none 0 0)] true 0) := by rw [hg1 n (by omega) (by omega)]; simp (disch := omega) only [gput_lt]; exact hz'
            have e15 := hg1 n' (by omega) (by omega)
            rw [gput_eq] at e15
            have HO1 : Hide (∀ a, a < n → a ≠ p → g1 a = g a) := ⟨fun a ha hne => by rw [hg1 a (by omega) hne]; simp (disch := omega) only [gput_lt]; exact HG.out a ha⟩
            have P1 : PAt s p g1 n1 (nxtM s k) := HP'.out.step (by omega) (fun a ha hne => by rw [hg1 a (by omega) hne]; simp (disch := omega) only [gput_lt]) hp1 hnl
            have HP1 := Hide.mk P1
            have hnn1 : ¬n = n1 := by omega
            have hpn1 : ¬p = n1 := by omega
            have hn1' : ¬n' = n1 := by omega
            clear hg1 P1 hopj ht HOP2 HOP hz'
            iterate 12 (all_goals try (first | with_reducible refine splitI (fun h => ?_) (fun h => ?_) | with_reducible refine splitBI (fun h => ?_) (fun h => ?_) | simp (config := { maxSteps := 1000000 }) (disch := first | assumption | omega | (simp; done) | fail) [Tryd.results60, *]))
            refine WC.mono (HNU.out _ _ (nxtM s k) (HP1.out.keep (by omega) (fun a ha => (by simp (disch := omega) only [gput_lt])))) ?_
            rintro _ (⟨a1, g2, n2, hnum, rfl, hn2, hg2, hp2⟩ | ⟨hnum, g2, n2, rfl, hn2, hg2⟩)
            · have hres : singF s (m + 1) k = some (.ok (.mk 1 (a1 : Nat) 0 []) (nxtM s (nxtM s k))) := by
                rw [singF, if_neg (show ¬tokB s k = openT from HTT.out), HOPJ.out]
                dsimp only
                rw [if_neg (by decide), if_neg (by decide), if_neg (by decide), hnum]
                exact if_neg (by decide)
              have HRES := Hide.mk hres
              have e2 : g2 n = some (.cells [.lit (.int .u8 0), .lit (.int .i64 0), .lit (.int .i64 0), .lit (.slice none 0 0)] true 0) := by rw [hg2 n (by omega) (by omega)]; simp (disch := omega) only [gput_lt]; exact e1n
              have e7 : g2 n1 = some (.cells [.lit (.int .u8 1), .lit (.int .i64 0), .lit (.int .i64 0), .lit (.slice none 0 0)] true 0) := by rw [hg2 n1 (by omega) (by omega)]; simp (disch := omega) only [gput_eq]
              have HO2 : Hide (∀ a, a < n → a ≠ p → g2 a = g a) := ⟨fun a ha hne => by rw [hg2 a (by omega) hne]; simp (disch := omega) only [gput_lt]; exact HO1.out a ha hne⟩
              clear hg2 hres
              iterate 12 (all_goals try (first | with_reducible refine splitI (fun h => ?_) (fun h => ?_) | with_reducible refine splitBI (fun h => ?_) (fun h => ?_) | simp (config := { maxSteps := 1000000 }) (disch := first | assumption | omega | (simp; done) | fail) [Tryd.results60, *]))
              refine ⟨_, HRES.out, 1, (a1 : Nat), 0, .lit (.slice none 0 0), _, _, rfl, by omega, fun a ha hne => ?_, ?_, nxtM_le hnl, FreshN.leaf (by omega)⟩
              · simp (disch := omega) only [gput_ne, gput_lt]; exact HO2.out a ha hne
              · simp (disch := omega) only [gput_ne, gput_lt]; exact hp2
            · have hres : singF s (m + 1) k = some (.err (nxtM s k)) := by
                rw [singF, if_neg (show ¬tokB s k = openT from HTT.out), HOPJ.out]
                dsimp only
                rw [if_neg (by decide), if_neg (by decide), if_neg (by decide), hnum]
              have HRES := Hide.mk hres
              have HG2 := Hide.mk hg2
              clear hres hg2
              iterate 12 (all_goals try (first | with_reducible refine splitI (fun h => ?_) (fun h => ?_) | with_reducible refine splitBI (fun h => ?_) (fun h => ?_) | simp (config := { maxSteps := 1000000 }) (disch := first | assumption | omega | (simp; done) | fail) [Tryd.results60, *]))
              exact ⟨_, HRES.out, _, _, rfl, by omega, fun a ha hne => by rw [HG2.out a (by omega)]; simp (disch := omega) only [gput_lt]; exact HO1.out a ha hne, by rw [HG2.out p (by omega)]; simp (disch := omega) only [gput_lt]; exact HP1.out.cell, hnl⟩
          · have hop3 : opOf (tokB s k) = opFrom (tokB s k) ((List.range 15).drop (1 + 1)) := by rw [HOP2.out]; exact if_neg (fun h => ht h.2.2.symm)
            have HOP3 := Hide.mk hop3
            clear hop3 HOP2 HOP ht
            iterate 12 (all_goals try (first | with_reducible refine splitI (fun h => ?_) (fun h => ?_) | with_reducible refine splitBI (fun h => ?_) (fun h => ?_) | simp (config := { maxSteps := 1000000 }) (disch := first | assumption | omega | (simp; done) | fail) [Tryd.results60, *]))
            refine ih.out (15 - (1 + 1)) _ _ (by omega) ⟨1 + 1, n' + 1, _, by omega, rfl, rfl, by omega, fun b hb => (gput_lt (by omega)).trans (HG.out b hb), (gput_lt (by omega)).trans hz', by simp [*], by simp [*], by simp [*], by simp [*], HOP3.out⟩
        · rw [show subsM 2 = 0 from rfl] at hrow
          iterate 12 (all_goals try (first | with_reducible refine splitI (fun h => ?_) (fun h => ?_) | with_reducible refine splitBI (fun h => ?_) (fun h => ?_) | simp (config := { maxSteps := 1000000 }) (disch := first | assumption | omega | (simp; done) | fail) [Tryd.results60, *]))
          refine WC.mono (HT.out _ _ k (HP'.out.keep (by omega) (fun a ha => (by simp (disch := omega) only [gput_lt]))) _) ?_
          rintro _ (⟨ht, g1, n1, rfl, hn1, hg1, hp1⟩ | ⟨ht, rfl⟩)
          · have hk : k < s.size := tok_full hle ht (signB_pos (by omega))
            have hnk := nxtM_lt hk
            have hnl := nxtM_le hle
            have hopj : opOf (tokB s k) = some 2 := by rw [HOP2.out]; exact if_pos ⟨by omega, by omega, ht.symm⟩
            have HOPJ := Hide.mk hopj
            have e1n : g1 n = some (.cells [.lit (.int .u8 0), .lit (.int .i64 0), .lit (.int .i64 0), .lit (.slice none 0 0)] true 0) := by rw [hg1 n (by omega) (by omega)]; simp (disch := omega) only [gput_lt]; exact hz'
            have e15 := hg1 n' (by omega) (by omega)
            rw [gput_eq] at e15
            have HO1 : Hide (∀ a, a < n → a ≠ p → g1 a = g a) := ⟨fun a ha hne => by rw [hg1 a (by omega) hne]; simp (disch := omega) only [gput_lt]; exact HG.out a ha⟩
            have P1 : PAt s p g1 n1 (nxtM s k) := HP'.out.step (by omega) (fun a ha hne => by rw [hg1 a (by omega) hne]; simp (disch := omega) only [gput_lt]) hp1 hnl
            have HP1 := Hide.mk P1
            have hnn1 : ¬n = n1 := by omega
            have hpn1 : ¬p = n1 := by omega
            have hn1' : ¬n' = n1 := by omega
            clear hg1 P1 hopj ht HOP2 HOP hz'
            iterate 12 (all_goals try (first | with_reducible refine splitI (fun h => ?_) (fun h => ?_) | with_reducible refine splitBI (fun h => ?_) (fun h => ?_) | simp (config := { maxSteps := 1000000 }) (disch := first | assumption | omega | (simp; done) | fail) [Tryd.results60, *]))
            refine WC.mono (HNU.out _ _ (nxtM s k) (HP1.out.keep (by omega) (fun a ha => (by simp (disch := omega) only [gput_lt])))) ?_
            rintro _ (⟨a1, g2, n2, hnum, rfl, hn2, hg2, hp2⟩ | ⟨hnum, g2, n2, rfl, hn2, hg2⟩)
            · have hres : singF s (m + 1) k = some (.ok (.mk 2 (a1 : Nat) 0 []) (nxtM s (nxtM s k))) := by
                rw [singF, if_neg (show ¬tokB s k = openT from HTT.out), HOPJ.out]
                dsimp only
                rw [if_neg (by decide), if_neg (by decide), if_neg (by decide), hnum]
                exact if_neg (by decide)
              have HRES := Hide.mk hres
              have e2 : g2 n = some (.cells [.lit (.int .u8 0), .lit (.int .i64 0), .lit (.int .i64 0), .lit (.slice none 0 0)] true 0) := by rw [hg2 n (by omega) (by omega)]; simp (disch := omega) only [gput_lt]; exact e1n
              have e7 : g2 n1 = some (.cells [.lit (.int .u8 2), .lit (.int .i64 0), .lit (.int .i64 0), .lit (.slice none 0 0)] true 0) := by rw [hg2 n1 (by omega) (by omega)]; simp (disch := omega) only [gput_eq]
              have HO2 : Hide (∀ a, a < n → a ≠ p → g2 a = g a) := ⟨fun a ha hne => by rw [hg2 a (by omega) hne]; simp (disch := omega) only [gput_lt]; exact HO1.out a ha hne⟩
              clear hg2 hres
              iterate 12 (all_goals try (first | with_reducible refine splitI (fun h => ?_) (fun h => ?_) | with_reducible refine splitBI (fun h => ?_) (fun h => ?_) | simp (config := { maxSteps := 1000000 }) (disch := first | assumption | omega | (simp; done) | fail) [Tryd.results60, *]))
              refine ⟨_, HRES.out, 2, (a1 : Nat), 0, .lit (.slice none 0 0), _, _, rfl, by omega, fun a ha hne => ?_, ?_, nxtM_le hnl, FreshN.leaf (by omega)⟩
              · simp (disch := omega) only [gput_ne, gput_lt]; exact HO2.out a ha hne
              · simp (disch := omega) only [gput_ne, gput_lt]; exact hp2
            · have hres : singF s (m + 1) k = some (.err (nxtM s k)) := by
                rw [singF, if_neg (show ¬tokB s k = openT from HTT.out), HOPJ.out]
                dsimp only
                rw [if_neg (by decide), if_neg (by decide), if_neg (by decide), hnum]
              have HRES := Hide.mk hres
              have HG2 := Hide.mk hg2
              clear hres hg2
              iterate 12 (all_goals try (first | with_reducible refine splitI (fun h => ?_) (fun h => ?_) | with_reducible refine splitBI (fun h => ?_) (fun h => ?_) | simp (config := { maxSteps := 1000000 }) (disch := first | assumption | omega | (simp; done) | fail) [Tryd.results60, *]))
              exact ⟨_, HRES.out, _, _, rfl, by omega, fun a ha hne => by rw [HG2.out a (by omega)]; simp (disch := omega) only [gput_lt]; exact HO1.out a ha hne, by rw [HG2.out p (by omega)]; simp (disch := omega) only [gput_lt]; exact HP1.out.cell, hnl⟩
          · have hop3 : opOf (tokB s k) = opFrom (tokB s k) ((List.range 15).drop (2 + 1)) := by rw [HOP2.out]; exact if_neg (fun h => ht h.2.2.symm)
            have HOP3 := Hide.mk hop3
            clear hop3 HOP2 HOP ht
            iterate 12 (all_goals try (first | with_reducible refine splitI (fun h => ?_) (fun h => ?_) | with_reducible refine splitBI (fun h => ?_) (fun h => ?_) | simp (config := { maxSteps := 1000000 }) (disch := first | assumption | omega | (simp; done) | fail) [Tryd.results60, *]))
            refine ih.out (15 - (2 + 1)) _ _ (by omega) ⟨2 + 1, n' + 1, _, by omega, rfl, rfl, by omega, fun b hb => (gput_lt (by omega)).trans (HG.out b hb), (gput_lt (by omega)).trans hz', by simp [*], by simp [*], by simp [*], by simp [*], HOP3.out⟩
      · rw [show subsM 3 = 0 from rfl] at hrow
        iterate 12 (all_goals try (first | with_reducible refine splitI (fun h => ?_) (fun h => ?_) | with_reducible refine splitBI (fun h => ?_) (fun h => ?_) | simp (config := { maxSteps := 1000000 }) (disch := first | assumption | omega | (simp; done) | fail) [Tryd.results60, *]))
        refine WC.mono (HT.out _ _ k (HP'.out.keep (by omega) (fun a ha => (by simp (disch := omega) only [gput_lt]))) _) ?_
        rintro _ (⟨ht, g1, n1, rfl, hn1, hg1, hp1⟩ | ⟨ht, rfl⟩)
        · have hk : k < s.size := tok_full hle ht (signB_pos (by omega))
          have hnk := nxtM_lt hk
          have hnl := nxtM_le hle
          have hopj : opOf (tokB s k) = some 3 := by rw [HOP2.out]; exact if_pos ⟨by omega, by omega, ht.symm⟩
          have HOPJ := Hide.mk hopj
          have e1n : g1 n = some (.cells [.lit (.int .u8 0), .lit (.int .i64 0), .lit (.int .i64 0), .lit (.slice none 0 0)] true 0) := by rw [hg1 n (by omega) (by omega)]; simp (disch := omega) only [gput_lt]; exact hz'
          have e15 := hg1 n' (by omega) (by omega)
          rw [gput_eq] at e15
          have HO1 : Hide (∀ a, a < n → a ≠ p → g1 a = g a) := ⟨fun a ha hne => by rw [hg1 a (by omega) hne]; simp (disch := omega) only [gput_lt]; exact HG.out a ha⟩
          have P1 : PAt s p g1 n1 (nxtM s k) := HP'.out.step (by omega) (fun a ha hne => by rw [hg1 a (by omega) hne]; simp (disch := omega) only [gput_lt]) hp1 hnl
          have HP1 := Hide.mk P1
          have hnn1 : ¬n = n1 := by omega
          have hpn1 : ¬p = n1 := by omega
          have hn1' : ¬n' = n1 := by omega
          clear hg1 P1 hopj ht HOP2 HOP hz'
          iterate 12 (all_goals try (first | with_reducible refine splitI (fun h => ?_) (fun h => ?_) | with_reducible refine splitBI (fun h => ?_) (fun h => ?_) | simp (config := { maxSteps := 1000000 }) (disch := first | assumption | omega | (simp; done) | fail) [Tryd.results60, *]))
          refine WC.mono (HNU.out _ _ (nxtM s k) (HP1.out.keep (by omega) (fun a ha => (by simp (disch := omega) only [gput_lt])))) ?_
          rintro _ (⟨a1, g2, n2, hnum, rfl, hn2, hg2, hp2⟩ | ⟨hnum, g2, n2, rfl, hn2, hg2⟩)
          · have e2 : g2 n = some (.cells [.lit (.int .u8 0), .lit (.int .i64 0), .lit (.int .i64 0), .lit (.slice none 0 0)] true 0) := by rw [hg2 n (by omega) (by omega)]; simp (disch := omega) only [gput_lt]; exact e1n
            have e7 : g2 n1 = some (.cells [.lit (.int .u8 3), .lit (.int .i64 0), .lit (.int .i64 0), .lit (.slice none 0 0)] true 0) := by rw [hg2 n1 (by omega) (by omega)]; simp (disch := omega) only [gput_eq]
            have HO2 : Hide (∀ a, a < n → a ≠ p → g2 a = g a) := ⟨fun a ha hne => by rw [hg2 a (by omega) hne]; simp (disch := omega) only [gput_lt]; exact HO1.out a ha hne⟩
            have P2 : PAt s p g2 n2 (nxtM s (nxtM s k)) := HP1.out.step (by omega) (fun a ha hne => by rw [hg2 a (by omega) hne]; simp (disch := omega) only [gput_lt]) hp2 (nxtM_le hnl)
            have HP2 := Hide.mk P2
            have HNUM := Hide.mk hnum
            clear hg2 P2 hnum
            iterate 12 (all_goals try (first | with_reducible refine splitI (fun h => ?_) (fun h => ?_) | with_reducible refine splitBI (fun h => ?_) (fun h => ?_) | simp (config := { maxSteps := 1000000 }) (disch := first | assumption | omega | (simp; done) | fail) [Tryd.results60, *]))
            refine WC.mono (HNU.out _ _ (nxtM s (nxtM s k)) (HP2.out.low (by omega) (fun a ha => by simp (disch := omega) only [gput_ne]))) ?_
            rintro _ (⟨a2, g3, n3, hnum2, rfl, hn3, hg3, hp3⟩ | ⟨hnum2, g3, n3, rfl, hn3, hg3⟩)
            · have hres : singF s (m + 1) k = some (.ok (.mk 3 (a1 : Nat) (a2 : Nat) []) (nxtM s (nxtM s (nxtM s k)))) := by
                rw [singF, if_neg (show ¬tokB s k = openT from HTT.out), HOPJ.out]
                dsimp only
                rw [if_neg (by decide), if_neg (by decide), if_neg (by decide), HNUM.out]
                dsimp only
                rw [if_pos rfl, hnum2]
              have HRES := Hide.mk hres
              have e3 : g3 n = some (.cells [.lit (.int .u8 0), .lit (.int .i64 0), .lit (.int .i64 0), .lit (.slice none 0 0)] true 0) := by rw [hg3 n (by omega) (by omega), gput_ne (by omega)]; exact e2
              have e8 := hg3 n1 (by omega) (by omega)
              rw [gput_eq] at e8
              have HO3 : Hide (∀ a, a < n → a ≠ p → g3 a = g a) := ⟨fun a ha hne => by rw [hg3 a (by omega) hne, gput_ne (by omega)]; exact HO2.out a ha hne⟩
              clear hg3 hres
              iterate 12 (all_goals try (first | with_reducible refine splitI (fun h => ?_) (fun h => ?_) | with_reducible refine splitBI (fun h => ?_) (fun h => ?_) | simp (config := { maxSteps := 1000000 }) (disch := first | assumption | omega | (simp; done) | fail) [Tryd.results60, *]))
              refine ⟨_, HRES.out, 3, (a1 : Nat), (a2 : Nat), .lit (.slice none 0 0), _, _, rfl, by omega, fun a ha hne => ?_, ?_, nxtM_le (nxtM_le hnl), FreshN.leaf (by omega)⟩
              · simp (disch := omega) only [gput_ne, gput_lt]; exact HO3.out a ha hne
              · simp (disch := omega) only [gput_ne, gput_lt]; exact hp3
            · have hres : singF s (m + 1) k = some (.err (nxtM s (nxtM s k))) := by
                rw [singF, if_neg (show ¬tokB s k = openT from HTT.out), HOPJ.out]
                dsimp only
                rw [if_neg (by decide), if_neg (by decide), if_neg (by decide), HNUM.out]
                dsimp only
                rw [if_pos rfl, hnum2]
              have HRES := Hide.mk hres
              have HG3 := Hide.mk hg3
              clear hres hg3
              iterate 12 (all_goals try (first | with_reducible refine splitI (fun h => ?_) (fun h => ?_) | with_reducible refine splitBI (fun h => ?_) (fun h => ?_) | simp (config := { maxSteps := 1000000 }) (disch := first | assumption | omega | (simp; done) | fail) [Tryd.results60, *]))
              exact ⟨_, HRES.out, _, _, rfl, by omega, fun a ha hne => by rw [HG3.out a (by omega), gput_ne (by omega)]; exact HO2.out a ha hne, by rw [HG3.out p (by omega), gput_ne (by omega)]; exact HP2.out.cell, nxtM_le hnl⟩
          · have hres : singF s (m + 1) k = some (.err (nxtM s k)) := by
              rw [singF, if_neg (show ¬tokB s k = openT from HTT.out), HOPJ.out]
              dsimp only
              rw [if_neg (by decide), if_neg (by decide), if_neg (by decide), hnum]
            have HRES := Hide.mk hres
            have HG2 := Hide.mk hg2
            clear hres hg2
            iterate 12 (all_goals try (first | with_reducible refine splitI (fun h => ?_) (fun h => ?_) | with_reducible refine splitBI (fun h => ?_) (fun h => ?_) | simp (config := { maxSteps := 1000000 }) (disch := first | assumption | omega | (simp; done) | fail) [Tryd.results60, *]))
            exact ⟨_, HRES.out, _, _, rfl, by omega, fun a ha hne => by rw [HG2.out a (by omega)]; simp (disch := omega) only [gput_lt]; exact HO1.out a ha hne, by rw [HG2.out p (by omega)]; simp (disch := omega) only [gput_lt]; exact HP1.out.cell, hnl⟩
        · have hop3 : opOf (tokB s k) = opFrom (tokB s k) ((List.range 15).drop (3 + 1)) := by rw [HOP2.out]; exact if_neg (fun h => ht h.2.2.symm)
          have HOP3 := Hide.mk hop3
          clear hop3 HOP2 HOP ht
          iterate 12 (all_goals try (first | with_reducible refine splitI (fun h => ?_) (fun h => ?_) | with_reducible refine splitBI (fun h => ?_) (fun h => ?_) | simp (config := { maxSteps := 1000000 }) (disch := first | assumption | omega | (simp; done) | fail) [Tryd.results60, *]))
          refine ih.out (15 - (3 + 1)) _ _ (by omega) ⟨3 + 1, n' + 1, _, by omega, rfl, rfl, by omega, fun b hb => (gput_lt (by omega)).trans (HG.out b hb), (gput_lt (by omega)).trans hz', by simp [*], by simp [*], by simp [*], by simp [*], HOP3.out⟩
      · rw [hs1] at hrow
        iterate 12 (all_goals try (first | with_reducible refine splitI (fun h => ?_) (fun h => ?_) | with_reducible refine splitBI (fun h => ?_) (fun h => ?_) | simp (config := { maxSteps := 1000000 }) (disch := first | assumption | omega | (simp; done) | fail) [Tryd.results60, *]))
        refine WC.mono (HT.out _ _ k (HP'.out.keep (by omega) (fun a ha => (by simp (disch := omega) only [gput_lt]))) _) ?_
        rintro _ (⟨ht, g1, n1, rfl, hn1, hg1, hp1⟩ | ⟨ht, rfl⟩)
        · have hk : k < s.size := tok_full hle ht (signB_pos (by omega))
          have hnk := nxtM_lt hk
          have hnl := nxtM_le hle
          have hopj : opOf (tokB s k) = some j := by rw [HOP2.out]; exact if_pos ⟨by omega, by omega, ht.symm⟩
          have HOPJ := Hide.mk hopj
          have e1n : g1 n = some (.cells [.lit (.int .u8 0), .lit (.int .i64 0), .lit (.int .i64 0), .lit (.slice none 0 0)] true 0) := by rw [hg1 n (by omega) (by omega)]; simp (disch := omega) only [gput_lt]; exact hz'
          have e15 := hg1 n' (by omega) (by omega)
          rw [gput_eq] at e15
          have HO1 : Hide (∀ a, a < n → a ≠ p → g1 a = g a) := ⟨fun a ha hne => by rw [hg1 a (by omega) hne]; simp (disch := omega) only [gput_lt]; exact HG.out a ha⟩
          have P1 : PAt s p g1 n1 (nxtM s k) := HP'.out.step (by omega) (fun a ha hne => by rw [hg1 a (by omega) hne]; simp (disch := omega) only [gput_lt]) hp1 hnl
          have HP1 := Hide.mk P1
          have hnn1 : ¬n = n1 := by omega
          have hpn1 : ¬p = n1 := by omega
          have hn1' : ¬n' = n1 := by omega
          clear hg1 P1 hopj ht HOP2 HOP hz'
          iterate 12 (all_goals try (first | with_reducible refine splitI (fun h => ?_) (fun h => ?_) | with_reducible refine splitBI (fun h => ?_) (fun h => ?_) | simp (config := { maxSteps := 1000000 }) (disch := first | assumption | omega | (simp; done) | fail) [Tryd.results60, *]))
          refine WC.mono (HS.out (nxtM s k) _ _ (HP1.out.keep (by omega) (fun a ha => (by simp (disch := omega) only [gput_lt]))) (by omega)) ?_
          rintro _ ⟨res, hrd, hend⟩
          cases res with
          | err k2 =>
            obtain ⟨g2, n2, rfl, hn2, hg2, hp2, hk2⟩ := hend
            have hres : singF s (m + 1) k = some (.err k2) := by
              rw [singF, if_neg (show ¬tokB s k = openT from HTT.out), HOPJ.out]
              dsimp only
              rw [if_neg (by rw [hs1]; decide), if_pos hs1, hrd]
            have HRES := Hide.mk hres
            have HG2 := Hide.mk hg2
            clear hres hg2 hrd
            iterate 12 (all_goals try (first | with_reducible refine splitI (fun h => ?_) (fun h => ?_) | with_reducible refine splitBI (fun h => ?_) (fun h => ?_) | simp (config := { maxSteps := 1000000 }) (disch := first | assumption | omega | (simp; done) | fail) [Tryd.results60, *]))
            exact ⟨_, HRES.out, _, _, rfl, by omega, fun a ha hne => by rw [HG2.out a (by omega) hne]; simp (disch := omega) only [gput_lt]; exact HO1.out a ha hne, hp2, hk2⟩
          | ok x k2 =>
            obtain ⟨op, qa, qb, sv, g2, n2, rfl, hn2, hg2, hp2, hk2, hfr⟩ := hend
            have h1c := repN_c hfr.rep
            have h1a : allOne [.lit (.int .u8 op), .lit (.int .i64 qa), .lit (.int .i64 qb), sv] = true := by simp [h1c]
            have hres : singF s (m + 1) k = some (.ok (.mk j 0 0 [x]) k2) := by
              rw [singF, if_neg (show ¬tokB s k = openT from HTT.out), HOPJ.out]
              dsimp only
              rw [if_neg (by rw [hs1]; decide), if_pos hs1, hrd]
            have HRES := Hide.mk hres
            have e2 : g2 n = some (.cells [.lit (.int .u8 0), .lit (.int .i64 0), .lit (.int .i64 0), .lit (.slice none 0 0)] true 0) := by rw [hg2 n (by omega) (by omega)]; simp (disch := omega) only [gput_lt]; exact e1n
            have e7 : g2 n1 = some (.cells [.lit (.int .u8 j), .lit (.int .i64 0), .lit (.int .i64 0), .lit (.slice none 0 0)] true 0) := by rw [hg2 n1 (by omega) (by omega)]; simp (disch := omega) only [gput_eq]
            have hnn2 : ¬n = n2 := by omega
            have hpn2 : ¬p = n2 := by omega
            have hn12 : ¬n1 = n2 := by omega
            have HFR := Hide.mk hfr
            have HO2 : Hide (∀ a, a < n → a ≠ p → g2 a = g a) := ⟨fun a ha hne => by rw [hg2 a (by omega) hne]; simp (disch := omega) only [gput_lt]; exact HO1.out a ha hne⟩
            clear hg2 hrd hfr hres
            iterate 12 (all_goals try (first | with_reducible refine splitI (fun h => ?_) (fun h => ?_) | with_reducible refine splitBI (fun h => ?_) (fun h => ?_) | simp (config := { maxSteps := 1000000 }) (disch := first | assumption | omega | (simp; done) | fail) [Tryd.results60, *]))
            refine ⟨_, HRES.out, j, 0, 0, .sl n2 0 1 1, _, _, rfl, by omega, fun a ha hne => ?_, ?_, hk2, (FreshN.node (FreshL.one (HFR.out.keep (n0 := n1 + 1) (by omega) (Nat.le_refl _) (fun _ _ _ => rfl))) rfl (by omega) (S := n2) ?_ (Nat.le_refl _) (by omega) (by omega) ?_).keep (n0 := n) (by omega) (Nat.le_refl _) (fun _ _ _ => rfl)⟩
            · simp (disch := omega) only [gput_ne, gput_lt]; exact HO2.out a ha hne
            · simp (disch := omega) only [gput_ne, gput_lt]; exact hp2
            · simp (disch := omega) only [gput_ne, gput_eq]
            · intro a h4 h5
              simp (disch := omega) only [gput_ne, gput_lt]
        · have hop3 : opOf (tokB s k) = opFrom (tokB s k) ((List.range 15).drop (j + 1)) := by rw [HOP2.out]; exact if_neg (fun h => ht h.2.2.symm)
          have HOP3 := Hide.mk hop3
          clear hop3 HOP2 HOP ht
          iterate 12 (all_goals try (first | with_reducible refine splitI (fun h => ?_) (fun h => ?_) | with_reducible refine splitBI (fun h => ?_) (fun h => ?_) | simp (config := { maxSteps := 1000000 }) (disch := first | assumption | omega | (simp; done) | fail) [Tryd.results60, *]))
          refine ih.out (15 - (j + 1)) _ _ (by omega) ⟨j + 1, n' + 1, _, by omega, rfl, rfl, by omega, fun b hb => (gput_lt (by omega)).trans (HG.out b hb), (gput_lt (by omega)).trans hz', by simp [*], by simp [*], by simp [*], by simp [*], HOP3.out⟩
  · have hjn : j = 15 := by omega
    subst hjn
    have hnone : opOf (tokB s k) = none := by rw [HOP.out]; rfl
    have hres : singF s (m + 1) k = some (.err k) := by
      rw [singF, if_neg (show ¬tokB s k = openT from HTT.out), hnone]
    have HRES := Hide.mk hres
    clear hres hnone
    iterate 12 (all_goals try (first | with_reducible refine splitI (fun h => ?_) (fun h => ?_) | with_reducible refine splitBI (fun h => ?_) (fun h => ?_) | simp (config := { maxSteps := 1000000 }) (disch := first | assumption | omega | (simp; done) | fail) [Tryd.results60, *]))
    exact ⟨_, HRES.out, _, _, rfl, by omega, fun a ha hne => HG.out a ha, HP'.out.cell, hle⟩
end Go.Ai
end

section
namespace Go.Ai
open Go.Proofs
set_option maxRecDepth 10000
set_option maxHeartbeats 40000000
theorem cell21 : loadB (some (false, 1)) (some opsB) 21 = some (.lit (.int .i64 2)) := by rfl
theorem cell22 : loadB (some (false, 1)) (some opsB) 22 = some (.lit (.string ⟨#[97, 110, 100]⟩)) := by rfl
theorem cell26 : loadB (some (false, 1)) (some opsB) 26 = some (.lit (.string ⟨#[111, 114]⟩)) := by rfl
theorem read_step {s : ByteArray} {p m : Nat} (hs : s.size ≤ 1000000) (hmm : m ≤ 100000000) (hR : ∀ m', m' ≤ m → ReadOK s p m') (hS : SingOK s p m) : ReadOK s p (m + 1) := by
  intro rank k g n h hr1 hr3 hm
  have hp0 := h.p0
  have hpn := h.pn
  have hle := h.le
  have HH := Hide.mk h
  have HT := Hide.mk (fun (g : Nat → Option Blk) (n : Nat) (k : Nat) (h : PAt s p g n k) t => take_w h hs t)
  have HRM := Hide.mk hR
  have HS := Hide.mk hS
  have hpn' : ¬p = n := by omega
  have hops := h.ops
  have c21 := cell21
  have c22 := cell22
  have c26 := cell26
  clear h hR hS
  have hrk : rank = 3 ∨ rank = 2 ∨ rank = 1 := by omega
  rcases hrk with rfl | rfl | rfl
  · refine WC.enterP (noO_ok _ _) hG pl42 Tryd.func42 rfl (by decide +kernel) (Nat.le_of_ble_eq_true (by kernel_rfl)) ?_
    iterate 12 (all_goals try (first | with_reducible refine splitI (fun h => ?_) (fun h => ?_) | with_reducible refine splitBI (fun h => ?_) (fun h => ?_) | simp (config := { maxSteps := 1000000 }) (disch := first | assumption | omega | (simp; done) | fail) [Tryd.results42, *]))
    refine WC.mono (HS.out k _ _ (HH.out.keep (by omega) (fun a ha => (by simp (disch := omega) only [gput_lt]))) (by omega)) ?_
    rintro _ ⟨res, hrd, hend⟩
    have hres : readF s (m + 1) 3 k = some res := by rw [readF, if_pos (by decide)]; exact hrd
    have HRES := Hide.mk hres
    clear hres hrd
    cases res with
    | err k2 =>
      obtain ⟨g2, n2, rfl, hn2, hg2, hp2, hk2⟩ := hend
      have HG2 := Hide.mk hg2
      clear hg2
      iterate 12 (all_goals try (first | with_reducible refine splitI (fun h => ?_) (fun h => ?_) | with_reducible refine splitBI (fun h => ?_) (fun h => ?_) | simp (config := { maxSteps := 1000000 }) (disch := first | assumption | omega | (simp; done) | fail) [Tryd.results42, *]))
      exact ⟨_, HRES.out, _, _, rfl, by omega, fun a ha hne => by rw [HG2.out a (by omega) hne]; simp (disch := omega) only [gput_lt], hp2, hk2⟩
    | ok x k2 =>
      obtain ⟨op, qa, qb, sv, g2, n2, rfl, hn2, hg2, hp2, hk2, hfr⟩ := hend
      have h1c := repN_c hfr.rep
      have h1a : allOne [.lit (.int .u8 op), .lit (.int .i64 qa), .lit (.int .i64 qb), sv] = true := by simp [h1c]
      have e2 : g2 n = some (.cells [.lit (.int .u8 0), .lit (.int .i64 0), .lit (.int .i64 0), .lit (.slice none 0 0)] true 0) := by rw [hg2 n (by omega) (by omega)]; simp
      have HFR := Hide.mk hfr
      have HG2 := Hide.mk hg2
      clear hg2 hfr
      iterate 12 (all_goals try (first | with_reducible refine splitI (fun h => ?_) (fun h => ?_) | with_reducible refine splitBI (fun h => ?_) (fun h => ?_) | simp (config := { maxSteps := 1000000 }) (disch := first | assumption | omega | (simp; done) | fail) [Tryd.results42, *]))
      refine ⟨_, HRES.out, _, _, _, _, _, _, rfl, by omega, fun a ha hne => ?_, by rw [gput_ne hpn']; exact hp2, hk2, HFR.out.keep (by omega) (by omega) (fun a h4 h5 => gput_ne (by omega))⟩
      rw [gput_lt ha, HG2.out a (by omega) hne]
      simp (disch := omega) only [gput_lt]
  · -- rank 2
    refine WC.enterP (noO_ok _ _) hG pl42 Tryd.func42 rfl (by decide +kernel) (Nat.le_of_ble_eq_true (by kernel_rfl)) ?_
    iterate 12 (all_goals try (first | with_reducible refine splitI (fun h => ?_) (fun h => ?_) | with_reducible refine splitBI (fun h => ?_) (fun h => ?_) | simp (config := { maxSteps := 1000000 }) (disch := first | assumption | omega | (simp; done) | fail) [Tryd.results42, *]))
    refine WC.mono (HRM.out m (Nat.le_refl _) 3 k _ _ (HH.out.keep (by omega) (fun a ha => (by simp (disch := omega) only [gput_lt]))) (by omega) (by omega) (by omega)) ?_
    rintro _ ⟨res, hrd, hend⟩
    cases res with
    | err k2 =>
      obtain ⟨g2, n2, rfl, hn2, hg2, hp2, hk2⟩ := hend
      have hres : readF s (m + 1) 2 k = some (.err k2) := by rw [readF, if_neg (by decide), hrd]
      have HRES := Hide.mk hres
      have HG2 := Hide.mk hg2
      clear hres hg2 hrd
      iterate 12 (all_goals try (first | with_reducible refine splitI (fun h => ?_) (fun h => ?_) | with_reducible refine splitBI (fun h => ?_) (fun h => ?_) | simp (config := { maxSteps := 1000000 }) (disch := first | assumption | omega | (simp; done) | fail) [Tryd.results42, *]))
      exact ⟨_, HRES.out, _, _, rfl, by omega, fun a ha hne => by rw [HG2.out a (by omega) hne]; simp (disch := omega) only [gput_lt], hp2, hk2⟩
    | ok x k1 =>
      obtain ⟨op, qa, qb, sv, g1, n1, rfl, hn1, hg1, hp1, hk1, hfr⟩ := hend
      have hgd := ((read_good m).1 _ _ _ _ hle hrd).1
      have h1c := repN_c hfr.rep
      have h1a : allOne [.lit (.int .u8 op), .lit (.int .i64 qa), .lit (.int .i64 qb), sv] = true := by simp [h1c]
      have e1 : g1 n = some (.cells [.lit (.int .u8 0), .lit (.int .i64 0), .lit (.int .i64 0), .lit (.slice none 0 0)] true 0) := by rw [hg1 n (by omega) (by omega)]; simp
      have hnn1 : ¬n = n1 := by omega
      have hpn1 : ¬p = n1 := by omega
      have hres : readF s (m + 1) 2 k = loopF s m 2 x k1 := by rw [readF, if_neg (by decide), hrd]
      have HRES := Hide.mk hres
      have HFR := Hide.mk hfr
      have HO1 : Hide (∀ a, a < n → a ≠ p → g1 a = g a) := ⟨fun a ha hne => by rw [hg1 a (by omega) hne]; simp (disch := omega) only [gput_lt]⟩
      have P1 : PAt s p g1 n1 k1 := HH.out.step (by omega) (fun a ha hne => HO1.out a ha hne) hp1 hk1
      have HP1 := Hide.mk P1
      clear hg1 hrd hfr hres P1
      iterate 12 (all_goals try (first | with_reducible refine splitI (fun h => ?_) (fun h => ?_) | with_reducible refine splitBI (fun h => ?_) (fun h => ?_) | simp (config := { maxSteps := 1000000 }) (disch := first | assumption | omega | (simp; done) | fail) [Tryd.results42, *]))
      refine LX.ind (fun m' gf H' => ∃ (x' : NodeM) (op' : Nat) (a' b' : Int) (sv' : AV) (k' n' : Nat) (g' : Nat → Option Blk), H' = ⟨.fn g', n'⟩ ∧ n1 < n' ∧ g' n1 = some (.cells [.lit (.int .u8 op'), .lit (.int .i64 a'), .lit (.int .i64 b'), sv'] true 0) ∧ oneC sv' = true ∧
        FreshQ g' (n + 1) n1 n' x' [.lit (.int .u8 op'), .lit (.int .i64 a'), .lit (.int .i64 b'), sv'] ∧ (∀ a, a < n → a ≠ p → g' a = g a) ∧ g' n = some (.cells [.lit (.int .u8 0), .lit (.int .i64 0), .lit (.int .i64 0), .lit (.slice none 0 0)] true 0) ∧ PAt s p g' n' k' ∧ k < k' ∧
        gf 0 = some (.ptr p 0) ∧ gf 1 = some (.lit (.int .i64 2)) ∧ gf 4 = some (.ptr n 0) ∧ gf 5 = some (.ptr n1 0) ∧
        readF s (m + 1) 2 k = loopF s m' 2 x' k' ∧ 20 * (s.size - k') + 1 ≤ m' ∧ m' ≤ m) (m0 := m) ?_ ?_
      · refine ⟨x, op, qa, qb, sv, k1, n1 + 1, _, rfl, by omega, gput_eq, h1c, FreshQ.of HFR.out (Nat.le_refl _) (by omega) (fun a h4 h5 => (by simp (disch := omega) only [gput_lt])), fun a ha hne => ?_, ?_, HP1.out.keep (by omega) (fun a ha => (by simp (disch := omega) only [gput_lt])), hgd, by simp, by simp, by simp, by simp, HRES.out, by omega, Nat.le_refl _⟩
        · simp (disch := omega) only [gput_lt]; exact HO1.out a ha hne
        · simp (disch := omega) only [gput_lt]; exact e1
      rintro m' gf H' ⟨x', op', a', b', sv', k', n', g', rfl, hn', hq', h1c', hfq, hg', hz', P', hkk, q0, q1, q4, q5, hld, hm1, hm2⟩ ih
      refine LX.roundP (noO_ok _ _) hG pl42 (by decide +kernel) ?_
      have h1a' : allOne [.lit (.int .u8 op'), .lit (.int .i64 a'), .lit (.int .i64 b'), sv'] = true := by simp [h1c']
      have HFQ := Hide.mk hfq
      have HG' := Hide.mk hg'
      have HP' := Hide.mk P'
      have HLD := Hide.mk hld
      have hle' := P'.le
      have hops' := P'.ops
      have hp' := P'.p0
      obtain ⟨m'', rfl⟩ : ∃ m'', m' = m'' + 1 := ⟨m' - 1, by omega⟩
      clear hfq hg' P' hld HO1 HFR HRES HP1 h1a e1 hops
      iterate 12 (all_goals try (first | with_reducible refine splitI (fun h => ?_) (fun h => ?_) | with_reducible refine splitBI (fun h => ?_) (fun h => ?_) | simp (config := { maxSteps := 1000000 }) (disch := first | assumption | omega | (simp; done) | fail) [Tryd.results42, *]))
      refine WC.mono (HT.out _ _ k' (HP'.out.keep (by omega) (fun a ha => by first | rfl | simp (disch := omega) only [gput_lt])) _) ?_
      rintro _ (⟨ht, g2, n2, rfl, hn2, hg2, hp2⟩ | ⟨ht, rfl⟩)
      · have hks : k' < s.size := tok_full hle' ht (by decide)
        have hnk := nxtM_lt hks
        have hq2 := (hg2 n1 (by omega) (by omega)).trans hq'
        have hz2 := (hg2 n (by omega) (by omega)).trans hz'
        have P2 : PAt s p g2 n2 (nxtM s k') := HP'.out.step hn2 hg2 hp2 (nxtM_le hle')
        have HP2 := Hide.mk P2
        have HQ2 : Hide (FreshQ g2 (n + 1) n1 n2 x' [.lit (.int .u8 op'), .lit (.int .i64 a'), .lit (.int .i64 b'), sv']) := ⟨HFQ.out.keep hn2 (fun a h4 h5 h6 => hg2 a (by omega) (by omega))⟩
        have HO2 : Hide (∀ a, a < n → a ≠ p → g2 a = g a) := ⟨fun a ha hne => (hg2 a (by omega) hne).trans (HG'.out a ha hne)⟩
        have HTT := Hide.mk ht
        clear hg2 P2 ht
        iterate 12 (all_goals try (first | with_reducible refine splitI (fun h => ?_) (fun h => ?_) | with_reducible refine splitBI (fun h => ?_) (fun h => ?_) | simp (config := { maxSteps := 1000000 }) (disch := first | assumption | omega | (simp; done) | fail) [Tryd.results42, *]))
        refine WC.mono (HRM.out m'' (by omega) 3 (nxtM s k') _ _ (HP2.out.keep (by omega) (fun a ha => by first | rfl | simp (disch := omega) only [gput_lt])) (by omega) (by omega) (by omega)) ?_
        rintro _ ⟨res, hrd, hend⟩
        cases res with
        | err k3 =>
          obtain ⟨g3, n3, rfl, hn3, hg3, hp3, hk3⟩ := hend
          have hres : readF s (m + 1) 2 k = some (.err k3) := by rw [HLD.out, loopF, if_pos (show tokB s k' = signB (bopM 2) from HTT.out), hrd]
          have HRES := Hide.mk hres
          have HG3 := Hide.mk hg3
          clear hres hg3 hrd
          iterate 12 (all_goals try (first | with_reducible refine splitI (fun h => ?_) (fun h => ?_) | with_reducible refine splitBI (fun h => ?_) (fun h => ?_) | simp (config := { maxSteps := 1000000 }) (disch := first | assumption | omega | (simp; done) | fail) [Tryd.results42, *]))
          exact ⟨_, HRES.out, _, _, rfl, by omega, fun a ha hne => (HG3.out a (by omega) hne).trans (HO2.out a ha hne), hp3, hk3⟩
        | ok y k3 =>
          obtain ⟨op3, ya, yb, sv3, g3, n3, rfl, hn3, hg3, hp3, hk3, hfr3⟩ := hend
          have hgd3 := ((read_good m'').1 _ _ _ _ (nxtM_le hle') hrd).1
          have h1c3 := repN_c hfr3.rep
          have h1a3 : allOne [.lit (.int .u8 op3), .lit (.int .i64 ya), .lit (.int .i64 yb), sv3] = true := by simp [h1c3]
          have hres : readF s (m + 1) 2 k = loopF s m'' 2 (.mk 5 0 0 [x', y]) k3 := by rw [HLD.out, loopF, if_pos (show tokB s k' = signB (bopM 2) from HTT.out), hrd]; rfl
          have HRES := Hide.mk hres
          have hq3 := (hg3 n1 (by omega) (by omega)).trans hq2
          have hz3 := (hg3 n (by omega) (by omega)).trans hz2
          have hn13 : ¬n1 = n3 := by omega
          have hnn3 : ¬n = n3 := by omega
          have HQ3 : Hide (FreshQ g3 (n + 1) n1 n3 x' [.lit (.int .u8 op'), .lit (.int .i64 a'), .lit (.int .i64 b'), sv']) := ⟨HQ2.out.keep hn3 (fun a h4 h5 h6 => hg3 a (by omega) (by omega))⟩
          have HFY := Hide.mk hfr3
          have HO3 : Hide (∀ a, a < n → a ≠ p → g3 a = g a) := ⟨fun a ha hne => (hg3 a (by omega) hne).trans (HO2.out a ha hne)⟩
          have P3 : PAt s p g3 n3 k3 := HP2.out.step hn3 hg3 hp3 hk3
          have HP3 := Hide.mk P3
          clear hg3 hrd hfr3 hres P3
          iterate 12 (all_goals try (first | with_reducible refine splitI (fun h => ?_) (fun h => ?_) | with_reducible refine splitBI (fun h => ?_) (fun h => ?_) | simp (config := { maxSteps := 1000000 }) (disch := first | assumption | omega | (simp; done) | fail) [Tryd.results42, *]))
          refine ih.out m'' _ _ (by omega) ⟨.mk 5 0 0 [x', y], 5, 0, 0, .sl n3 0 2 2, k3, n3 + 1, _, rfl, by omega, gput_eq, rfl, HQ3.out.bin HFY.out (n2 := n3 + 1) (by omega) (by omega) (by omega) (S := n3) ?_ (by omega) (Nat.le_refl _) (by omega) (by omega) ?_, fun a ha hne => ?_, ?_, HP3.out.low (by omega) (fun a ha => by simp (disch := omega) only [gput_ne]), by omega, by simp [*], by simp [*], by simp [*], by simp [*], HRES.out, by omega, by omega⟩
          · simp (disch := omega) only [gput_ne, gput_eq]
            rfl
          · intro a h5 h6 h7
            simp (disch := omega) only [gput_ne]
          · simp (disch := omega) only [gput_ne]
            exact HO3.out a ha hne
          · simp (disch := omega) only [gput_ne]
            exact hz3
      · have hres : readF s (m + 1) 2 k = some (.ok x' k') := by rw [HLD.out, loopF, if_neg (show ¬tokB s k' = signB (bopM 2) from ht)]
        have HRES := Hide.mk hres
        clear hres ht
        iterate 12 (all_goals try (first | with_reducible refine splitI (fun h => ?_) (fun h => ?_) | with_reducible refine splitBI (fun h => ?_) (fun h => ?_) | simp (config := { maxSteps := 1000000 }) (disch := first | assumption | omega | (simp; done) | fail) [Tryd.results42, *]))
        refine ⟨_, HRES.out, _, _, _, _, _, _, rfl, by omega, fun a ha hne => ?_, ?_, hle', HFQ.out.fresh (by omega) (by omega) (fun a h4 h5 h6 => by rw [gput_ne (by omega)])⟩
        · rw [gput_lt ha]; exact HG'.out a ha hne
        · rw [gput_ne (by omega)]; exact HP'.out.cell
  · -- rank 1
    refine WC.enterP (noO_ok _ _) hG pl42 Tryd.func42 rfl (by decide +kernel) (Nat.le_of_ble_eq_true (by kernel_rfl)) ?_
    iterate 12 (all_goals try (first | with_reducible refine splitI (fun h => ?_) (fun h => ?_) | with_reducible refine splitBI (fun h => ?_) (fun h => ?_) | simp (config := { maxSteps := 1000000 }) (disch := first | assumption | omega | (simp; done) | fail) [Tryd.results42, *]))
    refine WC.mono (HRM.out m (Nat.le_refl _) 2 k _ _ (HH.out.keep (by omega) (fun a ha => (by simp (disch := omega) only [gput_lt]))) (by omega) (by omega) (by omega)) ?_
    rintro _ ⟨res, hrd, hend⟩
    cases res with
    | err k2 =>
      obtain ⟨g2, n2, rfl, hn2, hg2, hp2, hk2⟩ := hend
      have hres : readF s (m + 1) 1 k = some (.err k2) := by rw [readF, if_neg (by decide), hrd]
      have HRES := Hide.mk hres
      have HG2 := Hide.mk hg2
      clear hres hg2 hrd
      iterate 12 (all_goals try (first | with_reducible refine splitI (fun h => ?_) (fun h => ?_) | with_reducible refine splitBI (fun h => ?_) (fun h => ?_) | simp (config := { maxSteps := 1000000 }) (disch := first | assumption | omega | (simp; done) | fail) [Tryd.results42, *]))
      exact ⟨_, HRES.out, _, _, rfl, by omega, fun a ha hne => by rw [HG2.out a (by omega) hne]; simp (disch := omega) only [gput_lt], hp2, hk2⟩
    | ok x k1 =>
      obtain ⟨op, qa, qb, sv, g1, n1, rfl, hn1, hg1, hp1, hk1, hfr⟩ := hend
      have hgd := ((read_good m).1 _ _ _ _ hle hrd).1
      have h1c := repN_c hfr.rep
      have h1a : allOne [.lit (.int .u8 op), .lit (.int .i64 qa), .lit (.int .i64 qb), sv] = true := by simp [h1c]
      have e1 : g1 n = some (.cells [.lit (.int .u8 0), .lit (.int .i64 0), .lit (.int .i64 0), .lit (.slice none 0 0)] true 0) := by rw [hg1 n (by omega) (by omega)]; simp
      have hnn1 : ¬n = n1 := by omega
      have hpn1 : ¬p = n1 := by omega
      have hres : readF s (m + 1) 1 k = loopF s m 1 x k1 := by rw [readF, if_neg (by decide), hrd]
      have HRES := Hide.mk hres
      have HFR := Hide.mk hfr
      have HO1 : Hide (∀ a, a < n → a ≠ p → g1 a = g a) := ⟨fun a ha hne => by rw [hg1 a (by omega) hne]; simp (disch := omega) only [gput_lt]⟩
      have P1 : PAt s p g1 n1 k1 := HH.out.step (by omega) (fun a ha hne => HO1.out a ha hne) hp1 hk1
      have HP1 := Hide.mk P1
      clear hg1 hrd hfr hres P1
      iterate 12 (all_goals try (first | with_reducible refine splitI (fun h => ?_) (fun h => ?_) | with_reducible refine splitBI (fun h => ?_) (fun h => ?_) | simp (config := { maxSteps := 1000000 }) (disch := first | assumption | omega | (simp; done) | fail) [Tryd.results42, *]))
      refine LX.ind (fun m' gf H' => ∃ (x' : NodeM) (op' : Nat) (a' b' : Int) (sv' : AV) (k' n' : Nat) (g' : Nat → Option Blk), H' = ⟨.fn g', n'⟩ ∧ n1 < n' ∧ g' n1 = some (.cells [.lit (.int .u8 op'), .lit (.int .i64 a'), .lit (.int .i64 b'), sv'] true 0) ∧ oneC sv' = true ∧
        FreshQ g' (n + 1) n1 n' x' [.lit (.int .u8 op'), .lit (.int .i64 a'), .lit (.int .i64 b'), sv'] ∧ (∀ a, a < n → a ≠ p → g' a = g a) ∧ g' n = some (.cells [.lit (.int .u8 0), .lit (.int .i64 0), .lit (.int .i64 0), .lit (.slice none 0 0)] true 0) ∧ PAt s p g' n' k' ∧ k < k' ∧
        gf 0 = some (.ptr p 0) ∧ gf 1 = some (.lit (.int .i64 1)) ∧ gf 4 = some (.ptr n 0) ∧ gf 5 = some (.ptr n1 0) ∧
        readF s (m + 1) 1 k = loopF s m' 1 x' k' ∧ 20 * (s.size - k') + 1 ≤ m' ∧ m' ≤ m) (m0 := m) ?_ ?_
      · refine ⟨x, op, qa, qb, sv, k1, n1 + 1, _, rfl, by omega, gput_eq, h1c, FreshQ.of HFR.out (Nat.le_refl _) (by omega) (fun a h4 h5 => (by simp (disch := omega) only [gput_lt])), fun a ha hne => ?_, ?_, HP1.out.keep (by omega) (fun a ha => (by simp (disch := omega) only [gput_lt])), hgd, by simp, by simp, by simp, by simp, HRES.out, by omega, Nat.le_refl _⟩
        · simp (disch := omega) only [gput_lt]; exact HO1.out a ha hne
        · simp (disch := omega) only [gput_lt]; exact e1
      rintro m' gf H' ⟨x', op', a', b', sv', k', n', g', rfl, hn', hq', h1c', hfq, hg', hz', P', hkk, q0, q1, q4, q5, hld, hm1, hm2⟩ ih
      refine LX.roundP (noO_ok _ _) hG pl42 (by decide +kernel) ?_
      have h1a' : allOne [.lit (.int .u8 op'), .lit (.int .i64 a'), .lit (.int .i64 b'), sv'] = true := by simp [h1c']
      have HFQ := Hide.mk hfq
      have HG' := Hide.mk hg'
      have HP' := Hide.mk P'
      have HLD := Hide.mk hld
      have hle' := P'.le
      have hops' := P'.ops
      have hp' := P'.p0
      obtain ⟨m'', rfl⟩ : ∃ m'', m' = m'' + 1 := ⟨m' - 1, by omega⟩
      clear hfq hg' P' hld HO1 HFR HRES HP1 h1a e1 hops
      iterate 12 (all_goals try (first | with_reducible refine splitI (fun h => ?_) (fun h => ?_) | with_reducible refine splitBI (fun h => ?_) (fun h => ?_) | simp (config := { maxSteps := 1000000 }) (disch := first | assumption | omega | (simp; done) | fail) [Tryd.results42, *]))
      refine WC.mono (HT.out _ _ k' (HP'.out.keep (by omega) (fun a ha => by first | rfl | simp (disch := omega) only [gput_lt])) _) ?_
      rintro _ (⟨ht, g2, n2, rfl, hn2, hg2, hp2⟩ | ⟨ht, rfl⟩)
      · have hks : k' < s.size := tok_full hle' ht (by decide)
        have hnk := nxtM_lt hks
        have hq2 := (hg2 n1 (by omega) (by omega)).trans hq'
        have hz2 := (hg2 n (by omega) (by omega)).trans hz'
        have P2 : PAt s p g2 n2 (nxtM s k') := HP'.out.step hn2 hg2 hp2 (nxtM_le hle')
        have HP2 := Hide.mk P2
        have HQ2 : Hide (FreshQ g2 (n + 1) n1 n2 x' [.lit (.int .u8 op'), .lit (.int .i64 a'), .lit (.int .i64 b'), sv']) := ⟨HFQ.out.keep hn2 (fun a h4 h5 h6 => hg2 a (by omega) (by omega))⟩
        have HO2 : Hide (∀ a, a < n → a ≠ p → g2 a = g a) := ⟨fun a ha hne => (hg2 a (by omega) hne).trans (HG'.out a ha hne)⟩
        have HTT := Hide.mk ht
        clear hg2 P2 ht
        iterate 12 (all_goals try (first | with_reducible refine splitI (fun h => ?_) (fun h => ?_) | with_reducible refine splitBI (fun h => ?_) (fun h => ?_) | simp (config := { maxSteps := 1000000 }) (disch := first | assumption | omega | (simp; done) | fail) [Tryd.results42, *]))
        refine WC.mono (HRM.out m'' (by omega) 2 (nxtM s k') _ _ (HP2.out.keep (by omega) (fun a ha => by first | rfl | simp (disch := omega) only [gput_lt])) (by omega) (by omega) (by omega)) ?_
        rintro _ ⟨res, hrd, hend⟩
        cases res with
        | err k3 =>
          obtain ⟨g3, n3, rfl, hn3, hg3, hp3, hk3⟩ := hend
          have hres : readF s (m + 1) 1 k = some (.err k3) := by rw [HLD.out, loopF, if_pos (show tokB s k' = signB (bopM 1) from HTT.out), hrd]
          have HRES := Hide.mk hres
          have HG3 := Hide.mk hg3
          clear hres hg3 hrd
          iterate 12 (all_goals try (first | with_reducible refine splitI (fun h => ?_) (fun h => ?_) | with_reducible refine splitBI (fun h => ?_) (fun h => ?_) | simp (config := { maxSteps := 1000000 }) (disch := first | assumption | omega | (simp; done) | fail) [Tryd.results42, *]))
          exact ⟨_, HRES.out, _, _, rfl, by omega, fun a ha hne => (HG3.out a (by omega) hne).trans (HO2.out a ha hne), hp3, hk3⟩
        | ok y k3 =>
          obtain ⟨op3, ya, yb, sv3, g3, n3, rfl, hn3, hg3, hp3, hk3, hfr3⟩ := hend
          have hgd3 := ((read_good m'').1 _ _ _ _ (nxtM_le hle') hrd).1
          have h1c3 := repN_c hfr3.rep
          have h1a3 : allOne [.lit (.int .u8 op3), .lit (.int .i64 ya), .lit (.int .i64 yb), sv3] = true := by simp [h1c3]
          have hres : readF s (m + 1) 1 k = loopF s m'' 1 (.mk 6 0 0 [x', y]) k3 := by rw [HLD.out, loopF, if_pos (show tokB s k' = signB (bopM 1) from HTT.out), hrd]; rfl
          have HRES := Hide.mk hres
          have hq3 := (hg3 n1 (by omega) (by omega)).trans hq2
          have hz3 := (hg3 n (by omega) (by omega)).trans hz2
          have hn13 : ¬n1 = n3 := by omega
          have hnn3 : ¬n = n3 := by omega
          have HQ3 : Hide (FreshQ g3 (n + 1) n1 n3 x' [.lit (.int .u8 op'), .lit (.int .i64 a'), .lit (.int .i64 b'), sv']) := ⟨HQ2.out.keep hn3 (fun a h4 h5 h6 => hg3 a (by omega) (by omega))⟩
          have HFY := Hide.mk hfr3
          have HO3 : Hide (∀ a, a < n → a ≠ p → g3 a = g a) := ⟨fun a ha hne => (hg3 a (by omega) hne).trans (HO2.out a ha hne)⟩
          have P3 : PAt s p g3 n3 k3 := HP2.out.step hn3 hg3 hp3 hk3
          have HP3 := Hide.mk P3
          clear hg3 hrd hfr3 hres P3
          iterate 12 (all_goals try (first | with_reducible refine splitI (fun h => ?_) (fun h => ?_) | with_reducible refine splitBI (fun h => ?_) (fun h => ?_) | simp (config := { maxSteps := 1000000 }) (disch := first | assumption | omega | (simp; done) | fail) [Tryd.results42, *]))
          refine ih.out m'' _ _ (by omega) ⟨.mk 6 0 0 [x', y], 6, 0, 0, .sl n3 0 2 2, k3, n3 + 1, _, rfl, by omega, gput_eq, rfl, HQ3.out.bin HFY.out (n2 := n3 + 1) (by omega) (by omega) (by omega) (S := n3) ?_ (by omega) (Nat.le_refl _) (by omega) (by omega) ?_, fun a ha hne => ?_, ?_, HP3.out.low (by omega) (fun a ha => by simp (disch := omega) only [gput_ne]), by omega, by simp [*], by simp [*], by simp [*], by simp [*], HRES.out, by omega, by omega⟩
          · simp (disch := omega) only [gput_ne, gput_eq]
            rfl
          · intro a h5 h6 h7
            simp (disch := omega) only [gput_ne]
          · simp (disch := omega) only [gput_ne]
            exact HO3.out a ha hne
          · simp (disch := omega) only [gput_ne]
            exact hz3
      · have hres : readF s (m + 1) 1 k = some (.ok x' k') := by rw [HLD.out, loopF, if_neg (show ¬tokB s k' = signB (bopM 1) from ht)]
        have HRES := Hide.mk hres
        clear hres ht
        iterate 12 (all_goals try (first | with_reducible refine splitI (fun h => ?_) (fun h => ?_) | with_reducible refine splitBI (fun h => ?_) (fun h => ?_) | simp (config := { maxSteps := 1000000 }) (disch := first | assumption | omega | (simp; done) | fail) [Tryd.results42, *]))
        refine ⟨_, HRES.out, _, _, _, _, _, _, rfl, by omega, fun a ha hne => ?_, ?_, hle', HFQ.out.fresh (by omega) (by omega) (fun a h4 h5 h6 => by rw [gput_ne (by omega)])⟩
        · rw [gput_lt ha]; exact HG'.out a ha hne
        · rw [gput_ne (by omega)]; exact HP'.out.cell
theorem par_ok {s : ByteArray} {p : Nat} (hs : s.size ≤ 1000000) : ∀ m, m ≤ 100000000 → ReadOK s p m ∧ SingOK s p m := by
  intro m
  induction m using Nat.strongRecOn with
  | _ m IH =>
  intro hm
  cases m with
  | zero => exact ⟨fun rank k g n h h1 h2 h3 => by omega, fun k g n h h1 => by omega⟩
  | succ m =>
    exact ⟨read_step hs (by omega) (fun m' h => (IH m' (by omega) (by omega)).1) (IH m (by omega) (by omega)).2, single_w hs (IH m (by omega) (by omega)).1 (IH m (by omega) (by omega)).2⟩
end Go.Ai
end

section
namespace Go.Ai
open Go.Proofs
set_option maxRecDepth 10000
set_option maxHeartbeats 40000000
end Go.Ai
end

section
namespace Go.Ai
open Go.Proofs
set_option maxRecDepth 10000
set_option maxHeartbeats 40000000
theorem sign_w (o : Nat) (ho : o < 15) (g : Nat → Option Blk) (n : Nat) : WC 6 Tryd.prog 44 [.lit (.int .u8 o)] ⟨.fn g, n⟩ fun r => r = .ret (.lit (.string (signB o))) ⟨.fn g, n⟩ := by
  refine WC.drop1 rfl ?_
  rcases op_cases ho with rfl | rfl | rfl | rfl | rfl | rfl | rfl | rfl | rfl | rfl | rfl | rfl | rfl | rfl | rfl
  all_goals
    refine WC.enterP (noO_ok _ _) hG [] Tryd.func44 rfl (by decide +kernel) (Nat.le_of_ble_eq_true (by kernel_rfl)) ?_
    iterate 12 (all_goals try (first | with_reducible refine splitI (fun h => ?_) (fun h => ?_) | with_reducible refine splitBI (fun h => ?_) (fun h => ?_) | simp (config := { maxSteps := 1000000 }) (disch := first | assumption | omega | (simp; done) | fail) [Tryd.results44, *]))
    refine ⟨_, ⟨?_, rfl⟩, ⟨by dsimp only; omega, fun b hb => ?_⟩⟩
    · rfl
    · exact gput_lt hb
theorem subs_w (o : Nat) (ho : o < 15) (H : Mem) : WC 6 Tryd.prog 71 [.lit (.int .u8 o)] H fun r => r = .ret (.lit (.int .i64 (subsM o))) H := by
  rcases op_cases ho with rfl | rfl | rfl | rfl | rfl | rfl | rfl | rfl | rfl | rfl | rfl | rfl | rfl | rfl | rfl
  all_goals
    refine WC.enterP (noO_ok _ _) hG [] Tryd.func71 rfl (by decide +kernel) (Nat.le_of_ble_eq_true (by kernel_rfl)) ?_
    iterate 20 (all_goals try (first | with_reducible refine splitI (fun h => ?_) (fun h => ?_) | with_reducible refine splitBI (fun h => ?_) (fun h => ?_) | simp (config := { maxSteps := 1000000 }) (disch := first | assumption | omega | (simp; done) | fail) [Tryd.results71, *]))
    all_goals rfl
end Go.Ai
end

section
namespace Go.Ai
open Go.Proofs
set_option maxRecDepth 10000
set_option maxHeartbeats 40000000
end Go.Ai
end

section
namespace Go.Ai
open Go.Proofs
set_option maxRecDepth 10000
set_option maxHeartbeats 40000000
/-- Where a result of the reference's parser stands. -/
def ResAt (pos : List Nat) (res : ParR) (x : NodeM) (j : Nat) (e : Int) : Prop :=
  match res with
  | .ok y k => e = 1 ∧ x = y ∧ pos[j]? = some k
  | .err k => e = 0 ∧ pos[j]? = some k
theorem ResAt.has {pos : List Nat} {res : ParR} {x : NodeM} {j : Nat} {e : Int} (h : ResAt pos res x j e) : ∃ k, pos[j]? = some k := by
  cases res with
  | ok y k => exact ⟨k, h.2.2⟩
  | err k => exact ⟨k, h.2⟩
theorem ResAt.ok {pos : List Nat} {res : ParR} {x : NodeM} {j : Nat} (h : ResAt pos res x j 1) : ∃ y k, res = .ok y k ∧ x = y ∧ pos[j]? = some k := by
  cases res with
  | ok y k => exact ⟨y, k, rfl, h.2.1, h.2.2⟩
  | err k => exact absurd h.1 (by decide)
end Go.Ai
end

section
namespace Go.Ai
open Go.Proofs
set_option maxRecDepth 10000
end Go.Ai
end

section
namespace Go.Ai
open Go.Proofs
set_option maxRecDepth 10000
set_option maxHeartbeats 4000000
section
variable {P : Program} {O : CallF} {L : LoopF} {ops : Array Oper} {l : List Oper} {fr : Fr} {u : Mode} {H H' : Mem} {d : Option Tmp} {op : Op} {t : TypeId} {p : String} {af : Array Edge}
theorem seqD_val {v : AV} (h : opV P H fr.ev ⟨d, op, t, p, af, none⟩ = .val v H') : seqOpsD P O ops (⟨d, op, t, p, af, none⟩ :: l) fr u H = seqOpsD P O ops l (fr.put d v) u H' := by
  show (afterD O ⟨d, op, t, p, af, none⟩ fr u (seqOpsD P O ops l) H (opV P H fr.ev ⟨d, op, t, p, af, none⟩)) = _
  rw [h]
  show fr.putK d v _ = _
  rw [Fr.putK_eq]
theorem seqD_skip (h : opV P H fr.ev ⟨d, op, t, p, af, none⟩ = .skip H') : seqOpsD P O ops (⟨d, op, t, p, af, none⟩ :: l) fr u H = seqOpsD P O ops l (fr.put d (.lit undef)) u H' := by
  show (afterD O ⟨d, op, t, p, af, none⟩ fr u (seqOpsD P O ops l) H (opV P H fr.ev ⟨d, op, t, p, af, none⟩)) = _
  rw [h]
  show fr.putK d (.lit undef) _ = _
  rw [Fr.putK_eq]
theorem seqD_rec (h : opV P H fr.ev ⟨d, op, t, p, af, none⟩ = .recover) : seqOpsD P O ops (⟨d, op, t, p, af, none⟩ :: l) fr .returning H = seqOpsD P O ops l (fr.put d (.lit .nilIface)) .returning H := by
  show (afterD O ⟨d, op, t, p, af, none⟩ fr .returning (seqOpsD P O ops l) H (opV P H fr.ev ⟨d, op, t, p, af, none⟩)) = _
  rw [h]
  show fr.putK d (.lit .nilIface) _ = _
  rw [Fr.putK_eq]
end
section
variable {P : Program} {W : WF} {Q : Out → Prop} {fr : Fr} {H : Mem} {ev : Ev} {d : Option Tmp} {ty : TypeId} {p : String} {af : Array Edge} {g : Option (Nat × Bool)}
noncomputable def dfrS (P : Program) (H : Mem) (ev : Ev) (o : Oper) (args : Option (List AV)) (f : Option AV) : R := match args, f with
  | some args, some (.func fn first cap) => .dfr fn cap (first ++ args) H
  | _, _ => opV P H ev o
theorem op_defer {f : Operand} {args : Array Operand} {at_ : Array TypeId} : opV P H ev ⟨d, .defer ⟨.value f, args, at_⟩, ty, p, af, g⟩ = dfrS P H ev ⟨d, .defer ⟨.value f, args, at_⟩, ty, p, af, g⟩ (evals ev args.toList) (ev f) := by
  unfold dfrS
  split
  · rename_i l fn first cap h1 h2
    show deferOp H ev ⟨.value f, args, at_⟩ = _
    unfold deferOp
    dsimp only
    rw [h1]
    dsimp only
    rw [h2]
  · rfl
theorem dfrS_congr {tk : Nat} (_h0 : tick = tk) {o : Oper} {args args' : Option (List AV)} {f f' : Option AV} (h1 : args = args') (h2 : f = f') : dfrS P H ev o args f = dfrS P H ev o args' f' := by rw [h1, h2]
attribute [congr] dfrS_congr
theorem dfrS_some {o : Oper} {args first cap : List AV} {fn : Fn} : dfrS P H ev o (some args) (some (.func fn first cap)) = .dfr fn cap (first ++ args) H := (rfl)
theorem afterW_dfr {o : Oper} {k : Fr → Mem → Prop} {fn : Fn} {cap args : List AV} : afterW W o fr k Q (.dfr fn cap args H) = k ((fr.defer (fn, cap, args)).put o.dst (.lit undef)) H := (rfl)
theorem fr_defer {gf : Nat → Option AV} {ds : List Dfr} {x : Dfr} : (Fr.f gf ds).defer x = Fr.f gf (x :: ds) := (rfl)
attribute [simp] op_defer dfrS_some afterW_dfr fr_defer
end
theorem lastW_ret {P : Program} {fn : Func} {fr : Fr} {K : COut → Prop} {H : Mem} : lastW P fn fr K .returning H = endW P fn.results.toList K fr H := by
  unfold lastW resultsA endW
  dsimp only
  rcases resVars P fr H fn.results.toList with _ | l
  · rfl
  · match l with
    | [] => rfl
    | [_] => rfl
    | _ :: _ :: _ => rfl
theorem leaveX_nil {G : Nat} {P : Program} {O : CallF} {fn : Func} {K : COut → Prop} {H : Mem} {gf : Nat → Option AV} : leaveX G P O fn K (.ret (.f gf []) H) = endW P fn.results.toList K (.f gf []) H := lastW_ret
attribute [simp] leaveX_nil
theorem endDW_ret {P : Program} {g : Func} {K : Mode → Mem → Prop} {fr : Fr} {H : Mem} (hd : fr.defers = []) (hr : g.results.toList = []) (h : K .returning H) : endDW P g K (.norm fr .returning H) := by
  unfold endDW resultsA
  dsimp only
  rw [hd, hr]
  exact h
theorem endDW_rec {P : Program} {g : Func} {K : Mode → Mem → Prop} {fr : Fr} {H : Mem} {v : AV} (hd : fr.defers = []) (hr : g.results.toList = []) (h : K .returning H) : endDW P g K (.norm fr (.recovered v) H) := by
  unfold endDW resultsA
  dsimp only
  rw [hd, hr]
  exact h
theorem XW_skip {G : Nat} {P : Program} {n : Nat} {fr : Fr} {H : Mem} {Q : Out → Prop} (h : Q (.norm fr H)) : XW G P n .skip fr H Q := fun _ _ _ _ ρ _ _ s => wp_skip ⟨_, h, ρ, s⟩
theorem parse_ret {K : COut → Prop} {gf : Nat → Option AV} {g : Nat → Option Blk} {n : Nat} {q x a e : AV}
    (h : endW Tryd.prog Tryd.f16.results.toList K (.f gf [(.func 40, [q, x, a, e], [])]) ⟨.fn (gput (gput g n (some (.cells [] true 0))) n (some (.cells [] true 0))), n + 1⟩) :
    leaveX 6 Tryd.prog noO Tryd.f16 K (.ret (.f gf [(.func 40, [q, x, a, e], [])]) ⟨.fn g, n⟩) := by
  refine ⟨Tryd.f40, _, Tryd.func40, rfl, hb40, by decide +kernel, Nat.le_of_ble_eq_true (by kernel_rfl), ?_⟩
  show execDW 6 Tryd.prog 17 noO (.seq (.region 0 _ false) _) _ _ _ _
  unfold execDW
  unfold execDW
  rw [show ([] ++ [q, x, a, e] : List AV) = [q, x, a, e] from rfl]
  dsimp only
  show (match seqOpsD Tryd.prog noO _ (_ :: _) (frameW [q, x, a, e]) .returning ⟨.fn g, n⟩ with | .bad => False | r => _)
  rw [seqD_rec (by kernel_rfl), seqD_val (v := .lit (.tuple #[.agg #[], .bool false])) (H' := ⟨.fn g, n⟩) (by kernel_rfl), seqD_val (v := .lit (.tuple #[.agg #[], .bool false])) (H' := ⟨.fn g, n⟩) (by kernel_rfl),
    seqD_val (v := .lit (.agg #[])) (H' := ⟨.fn g, n⟩) (by kernel_rfl), seqD_val (v := .lit (.bool false)) (H' := ⟨.fn g, n⟩) (by kernel_rfl),
    seqD_val (v := .ptr n 0) (H' := ⟨.fn (gput g n (some (.cells [] true 0))), n + 1⟩) (by kernel_rfl)]
  rw [seqD_skip (H' := ⟨.fn (gput (gput g n (some (.cells [] true 0))) n (some (.cells [] true 0))), n + 1⟩) ?_]
  rotate_left 1
  · show oStore Tryd.prog ⟨.fn (gput g n (some (.cells [] true 0))), n + 1⟩ 91 (some (.ptr n 0)) (some (.lit (.agg #[]))) = _
    rw [oStore_ptr, show cellsOf (.lit (.agg #[])) = [] from rfl]
    simp
  rw [seqD_val (v := .lit (.bool false)) (H' := ⟨.fn (gput (gput g n (some (.cells [] true 0))) n (some (.cells [] true 0))), n + 1⟩) (by kernel_rfl)]
  show execDW 6 Tryd.prog 17 noO (.seq (.region 1 _ false) (.cond _ _ _)) _ _ _ _
  unfold execDW
  unfold execDW
  dsimp only
  rw [seqD_val (v := .lit (.bool false)) (H' := ⟨.fn (gput (gput g n (some (.cells [] true 0))) n (some (.cells [] true 0))), n + 1⟩) (by kernel_rfl)]
  show execDW 6 Tryd.prog 17 noO (.cond (.tmp 11) _ .skip) _ _ _ _
  unfold execDW
  show execDW 6 Tryd.prog 17 noO .skip _ _ _ _
  refine XW_skip ?_
  refine endDW_ret rfl rfl ?_
  rw [lastW_ret]
  exact h
theorem seqD_recP {P : Program} {O : CallF} {ops : Array Oper} {l : List Oper} {fr : Fr} {H : Mem} {d : Option Tmp} {op : Op} {t : TypeId} {p : String} {af : Array Edge} {v : AV} (h : opV P H fr.ev ⟨d, op, t, p, af, none⟩ = .recover) : seqOpsD P O ops (⟨d, op, t, p, af, none⟩ :: l) fr (.panicking v) H = seqOpsD P O ops l (fr.put d v) (.recovered v) H := by
  show (afterD O ⟨d, op, t, p, af, none⟩ fr (.panicking v) (seqOpsD P O ops l) H (opV P H fr.ev ⟨d, op, t, p, af, none⟩)) = _
  rw [h]
  show fr.putK d v _ = _
  rw [Fr.putK_eq]
theorem parse_panic {K : COut → Prop} {gf : Nat → Option AV} {g : Nat → Option Blk} {n q p x a e : Nat} {k : Int} {c0 c1 c2 c3 c4 c5 c6 c7 : AV} (hq : g q = some (.cells [.ptr p 0] true 0)) (hp : g p = some (.cells [c6, c7, .lit (.int .i64 k)] true 0)) (hx : g x = some (.cells [c0, c1, c2, c3] true 0))
    (ha : g a = some (.cells [c4] true 0)) (he : g e = some (.cells [c5] true 0)) (lq : q < n) (lp : p < n) (lx : x < n) (la : a < n) (le : e < n) (nxa : ¬x = a) (nxe : ¬x = e) (nae : ¬a = e) (nqx : ¬q = x) (npx : ¬p = x) (nqa : ¬q = a) (npa : ¬p = a)
    (h : ∀ g1 n1, n ≤ n1 → (∀ b, b < n → b ≠ x → b ≠ a → b ≠ e → g1 b = g b) → g1 x = some (.cells [.lit (.int .u8 0), .lit (.int .i64 0), .lit (.int .i64 0), .lit (.slice none 0 0)] true 0) → g1 a = some (.cells [.lit (.int .i64 k)] true 0) → g1 e = some (.cells [.lit (.int .i64 4)] true 0) →
      endW Tryd.prog Tryd.f16.results.toList K (.f gf [(.func 40, [.ptr q 0, .ptr x 0, .ptr a 0, .ptr e 0], [])]) ⟨.fn g1, n1⟩) :
    leaveX 6 Tryd.prog noO Tryd.f16 K (.panic (.iface 91 (.agg [])) (.f gf [(.func 40, [.ptr q 0, .ptr x 0, .ptr a 0, .ptr e 0], [])]) ⟨.fn g, n⟩) := by
  refine ⟨Tryd.f40, _, Tryd.func40, rfl, hb40, by decide +kernel, Nat.le_of_ble_eq_true (by kernel_rfl), ?_⟩
  show execDW 6 Tryd.prog 17 noO (.seq (.region 0 _ false) _) _ _ _ _
  unfold execDW
  unfold execDW
  rw [show ([] ++ [.ptr q 0, .ptr x 0, .ptr a 0, .ptr e 0] : List AV) = [.ptr q 0, .ptr x 0, .ptr a 0, .ptr e 0] from rfl]
  dsimp only
  show (match seqOpsD Tryd.prog noO _ (_ :: _) (frameW [.ptr q 0, .ptr x 0, .ptr a 0, .ptr e 0]) _ ⟨.fn g, n⟩ with | .bad => False | r => _)
  rw [seqD_recP (by kernel_rfl), seqD_val (v := .tup [.agg [], .lit (.bool true)]) (H' := ⟨.fn g, n⟩) (by kernel_rfl), seqD_val (v := .tup [.agg [], .lit (.bool true)]) (H' := ⟨.fn g, n⟩) (by kernel_rfl),
    seqD_val (v := .agg []) (H' := ⟨.fn g, n⟩) (by kernel_rfl), seqD_val (v := .lit (.bool true)) (H' := ⟨.fn g, n⟩) (by kernel_rfl),
    seqD_val (v := .ptr n 0) (H' := ⟨.fn (gput g n (some (.cells [] true 0))), n + 1⟩) (by kernel_rfl)]
  rw [seqD_skip (H' := ⟨.fn (gput (gput g n (some (.cells [] true 0))) n (some (.cells [] true 0))), n + 1⟩) ?_]
  rotate_left 1
  · show oStore Tryd.prog ⟨.fn (gput g n (some (.cells [] true 0))), n + 1⟩ 91 (some (.ptr n 0)) (some (.agg [])) = _
    rw [oStore_ptr, show cellsOf (.agg []) = [] from rfl]
    simp
  rw [seqD_val (v := .lit (.bool true)) (H' := ⟨.fn (gput (gput g n (some (.cells [] true 0))) n (some (.cells [] true 0))), n + 1⟩) (by kernel_rfl)]
  show execDW 6 Tryd.prog 17 noO (.seq (.region 1 _ false) (.cond _ _ _)) _ _ _ _
  unfold execDW
  unfold execDW
  dsimp only
  rw [seqD_val (v := .lit (.bool true)) (H' := ⟨.fn (gput (gput g n (some (.cells [] true 0))) n (some (.cells [] true 0))), n + 1⟩) (by kernel_rfl)]
  show execDW 6 Tryd.prog 17 noO (.cond (.tmp 11) _ .skip) _ _ _ _
  unfold execDW
  have hqn : ¬q = n := by omega
  have hpn : ¬p = n := by omega
  have hxn : ¬x = n := by omega
  have han : ¬a = n := by omega
  have hen : ¬e = n := by omega
  have nax : ¬a = x := fun h => nxa h.symm
  have nex : ¬e = x := fun h => nxe h.symm
  have nea : ¬e = a := fun h => nae h.symm
  have HK := Hide.mk h
  clear h
  show execDW 6 Tryd.prog 17 noO (.region 2 _ false) _ _ _ _
  unfold execDW
  rw [seqD_val (v := .agg [.lit (.int .u8 0), .lit (.int .i64 0), .lit (.int .i64 0), .lit (.slice none 0 0)]) (H' := ⟨.fn (gput (gput g n (some (.cells [] true 0))) n (some (.cells [] true 0))), n + 1⟩) (by kernel_rfl)]
  rw [seqD_val (v := .ptr p 0) (H' := ⟨.fn (gput (gput g n (some (.cells [] true 0))) n (some (.cells [] true 0))), n + 1⟩) ?_]
  rotate_left 1
  · show oLoad Tryd.prog ⟨.fn (gput (gput g n (some (.cells [] true 0))) n (some (.cells [] true 0))), n + 1⟩ 87 (some (.ptr q 0)) = _
    simp (disch := first | assumption | omega | (simp; done) | fail) [gput_ne, *]
  rw [seqD_val (v := .ptr p 0) (H' := ⟨.fn (gput (gput g n (some (.cells [] true 0))) n (some (.cells [] true 0))), n + 1⟩) (by kernel_rfl)]
  rw [seqD_val (v := .ptr p 2) (H' := ⟨.fn (gput (gput g n (some (.cells [] true 0))) n (some (.cells [] true 0))), n + 1⟩) (by kernel_rfl)]
  rw [seqD_val (v := .lit (.int .i64 k)) (H' := ⟨.fn (gput (gput g n (some (.cells [] true 0))) n (some (.cells [] true 0))), n + 1⟩) ?_]
  rotate_left 1
  · show oLoad Tryd.prog ⟨.fn (gput (gput g n (some (.cells [] true 0))) n (some (.cells [] true 0))), n + 1⟩ 3 (some (.ptr p 2)) = _
    simp (disch := first | assumption | omega | (simp; done) | fail) [gput_ne, *]
  rw [seqD_skip (H' := ⟨.fn (gput (gput (gput g n (some (.cells [] true 0))) n (some (.cells [] true 0))) x (some (.cells [.lit (.int .u8 0), .lit (.int .i64 0), .lit (.int .i64 0), .lit (.slice none 0 0)] true 0))), n + 1⟩) ?_]
  rotate_left 1
  · show oStore Tryd.prog ⟨.fn (gput (gput g n (some (.cells [] true 0))) n (some (.cells [] true 0))), n + 1⟩ 34 (some (.ptr x 0)) (some (.agg [.lit (.int .u8 0), .lit (.int .i64 0), .lit (.int .i64 0), .lit (.slice none 0 0)])) = _
    simp (disch := first | assumption | omega | (simp; done) | fail) [gput_ne, *]
  rw [seqD_skip (H' := ⟨.fn (gput (gput (gput (gput g n (some (.cells [] true 0))) n (some (.cells [] true 0))) x (some (.cells [.lit (.int .u8 0), .lit (.int .i64 0), .lit (.int .i64 0), .lit (.slice none 0 0)] true 0))) a (some (.cells [.lit (.int .i64 k)] true 0))), n + 1⟩) ?_]
  rotate_left 1
  · show oStore Tryd.prog ⟨.fn (gput (gput (gput g n (some (.cells [] true 0))) n (some (.cells [] true 0))) x (some (.cells [.lit (.int .u8 0), .lit (.int .i64 0), .lit (.int .i64 0), .lit (.slice none 0 0)] true 0))), n + 1⟩ 3 (some (.ptr a 0)) (some (.lit (.int .i64 k))) = _
    simp (disch := first | assumption | omega | (simp; done) | fail) [gput_ne, *]
  rw [seqD_skip (H' := ⟨.fn (gput (gput (gput (gput (gput g n (some (.cells [] true 0))) n (some (.cells [] true 0))) x (some (.cells [.lit (.int .u8 0), .lit (.int .i64 0), .lit (.int .i64 0), .lit (.slice none 0 0)] true 0))) a (some (.cells [.lit (.int .i64 k)] true 0))) e (some (.cells [.lit (.int .i64 4)] true 0))), n + 1⟩) ?_]
  rotate_left 1
  · show oStore Tryd.prog ⟨.fn (gput (gput (gput (gput g n (some (.cells [] true 0))) n (some (.cells [] true 0))) x (some (.cells [.lit (.int .u8 0), .lit (.int .i64 0), .lit (.int .i64 0), .lit (.slice none 0 0)] true 0))) a (some (.cells [.lit (.int .i64 k)] true 0))), n + 1⟩ 38 (some (.ptr e 0)) (some (.lit (.int .i64 4))) = _
    simp (disch := first | assumption | omega | (simp; done) | fail) [gput_ne, *]
  refine endDW_rec rfl rfl ?_
  rw [lastW_ret]
  refine HK.out _ _ (by omega) (fun b h1 h2 h3 h4 => ?_) ?_ ?_ ?_
  · rw [gput_ne h4, gput_ne h3, gput_ne h2, gput_lt h1, gput_lt h1]
  · rw [gput_ne nxe, gput_ne nxa, gput_same]
  · rw [gput_ne nae, gput_same]
  · rw [gput_same]
end Go.Ai
end

section
namespace Go.Ai
open Go.Proofs
set_option maxRecDepth 10000
set_option maxHeartbeats 40000000
theorem small_w : ∀ (m : Nat), m ≤ 1000000 → ∀ (x : NodeM), sizeN x ≤ m → ∀ (g : Nat → Option Blk) (n p : Nat) (cs : List AV) (left : Int), repN g n x cs → p < n → g p = some (.cells [.lit (.int .i64 left)] true 0) → 0 ≤ left → left ≤ 1000000 →
    WC 6 Tryd.prog 43 [.agg cs, .ptr p 0] ⟨.fn g, n⟩ fun r => r = .ret (.lit (.bool (smallM x left).1)) ⟨.fn (gput g p (some (.cells [.lit (.int .i64 (smallM x left).2)] true 0))), n⟩ := by
  intro m
  induction m with
  | zero => intro _ x hx; cases x; unfold sizeN at hx; omega
  | succ m ihm =>
    intro hm x hx g n p cs left hr hp hgp h0 h1
    have IH := Hide.mk ihm
    clear ihm
    refine WC.drop2 rfl rfl ?_
    cases x with
    | mk op k kb subs =>
      obtain ⟨hop, sv, rfl, hsv⟩ := hr
      rw [smallM]
      obtain ⟨sv', hq⟩ : ∃ sv', Hide (sv' = sv) := ⟨_, ⟨rfl⟩⟩
      have hsz : sizeL subs ≤ m := by unfold sizeN at hx; omega
      have hlen : subs.length ≤ 1000000 := Nat.le_trans (len_size subs) (by omega)
      rcases hsv with ⟨hsub, rfl | rfl⟩ | ⟨a, off, r, han, ⟨c, rfl⟩ | ⟨c, rfl⟩, hrow, hrep⟩
      all_goals refine WC.enterP (noO_ok _ _) hG [] Tryd.func43 rfl (by decide +kernel) (Nat.le_of_ble_eq_true (by kernel_rfl)) ?_
      all_goals iterate 14 (all_goals try (first | with_reducible refine splitI (fun h => ?_) (fun h => ?_) | with_reducible refine splitBI (fun h => ?_) (fun h => ?_) | simp (disch := first | assumption | omega | (simp; done) | fail) [Tryd.results43, *]))
      all_goals
        refine LX.ind (fun m gf H' => ∃ (k n' : Nat) (g' : Nat → Option Blk) (left' : Int), k ≤ subs.length ∧ m = subs.length - k ∧ H' = ⟨.fn g', n'⟩ ∧ n ≤ n' ∧ (∀ b, b < n → b ≠ p → g' b = g b) ∧ g' p = some (.cells [.lit (.int .i64 left')] true 0) ∧
          -1 ≤ left' ∧ left' ≤ 1000000 ∧ gf 1 = some (.ptr p 0) ∧ gf 13 = some sv' ∧ gf 14 = some (.lit (.int .i64 subs.length)) ∧ gf 15 = some (.lit (.int .i64 k)) ∧ smallL subs (left - 1) = smallL (subs.drop k) left') (m0 := subs.length) ?_ ?_
        · refine ⟨0, _, _, left - 1, Nat.zero_le _, rfl, rfl, by omega, fun b hb hne => ?_, ?_, by omega, by omega, by simp, by simp [hq.out], by simp [*], by simp, rfl⟩
          · unfold gput; rw [if_neg hne, if_neg (Nat.ne_of_lt hb)]
          · unfold gput; rw [if_pos rfl]
        rintro m' gf H' ⟨k, n', g', left', hk, rfl, rfl, hn', hg', hgp', hl0, hl1, g1, g13, g14, g15, hc⟩ ih
        refine LX.roundP (noO_ok _ _) hG [] (by decide +kernel) ?_
        rw [hq.out] at g13
        have HG := Hide.mk hg'
        have HC := Hide.mk hc
        clear hg' hc
        by_cases hlt : k < subs.length
        · first
          | (exfalso; rw [hsub] at hlt; simp at hlt; done)
          | (have hy0 := repL_at hrep k hlt
             have hrl := repL_len hrep
             have hap : a ≠ p := row_ne hrow hgp (by omega)
             have hrow' := (hrow.mono (HG.out a han hap)).agg (k := k * 4) (s := 4) (by omega)
             have hdrop : subs.drop k = subs[k] :: subs.drop (k + 1) := List.drop_eq_getElem_cons hlt
             have hszy : sizeN subs[k] ≤ m := Nat.le_trans (size_mem (List.getElem_mem hlt)) hsz
             generalize subs[k] = y at hy0 hdrop hszy
             obtain ⟨k2, k3, sv2, hcy, h1c, hop2⟩ := repN_one hy0
             rw [hcy] at hrow' hy0
             have h1a : allOne [.lit (.int .u8 y.op), .lit (.int .i64 k2), .lit (.int .i64 k3), sv2] = true := by simp [h1c]
             have HY := Hide.mk hy0
             have HD := Hide.mk hdrop
             have HR := Hide.mk hrep
             have HR2 := Hide.mk hrow
             clear hy0 hdrop hrep hrow hcy hrl
             iterate 14 (all_goals try (first | with_reducible refine splitI (fun h => ?_) (fun h => ?_) | with_reducible refine splitBI (fun h => ?_) (fun h => ?_) | simp (disch := first | assumption | omega | (simp; done) | fail) [Tryd.results43, *]))
             · refine ⟨_, _, ⟨?_, rfl, rfl⟩, by omega, fun b hb hne => (gput_lt (by omega)).trans (HG.out b hb hne), ?_⟩
               · rw [HC.out, HD.out, smallL, if_pos h]
               · rw [gput_lt (by omega), hgp', HC.out, HD.out, smallL, if_pos h]
             · have hge : ¬left' < 0 := h
               have hlo := smallM_lo y left' (by omega)
               refine (IH.out (by omega) y hszy _ _ p _ left' (repN_put (b' := n' + 1) (by omega) (fun a ha hne => (gput_lt (by omega)).trans (HG.out a ha hne)) hgp ((gput_lt (by omega)).trans hgp') HY.out) (by omega) ((gput_lt (by omega)).trans hgp') (by omega) hl1).mono ?_
               rintro _ rfl
               iterate 10 (all_goals try (first | with_reducible refine splitI (fun h => ?_) (fun h => ?_) | with_reducible refine splitBI (fun h => ?_) (fun h => ?_) | simp (disch := first | assumption | omega | (simp; done) | fail) [Tryd.results43, *]))
               · refine ih.out (subs.length - (k + 1)) _ _ (by omega) ⟨k + 1, n' + 1, _, (smallM y left').2, hlt, rfl, rfl, by omega, fun b hb hne => ?_, ?_, hlo.1, by omega, by simp [*], by simp [*, hq.out], by simp [*], by simp, ?_⟩
                 · unfold gput; rw [if_neg hne]; dsimp only; rw [if_neg (by omega)]; exact HG.out b hb hne
                 · unfold gput; rw [if_pos rfl]
                 · rw [HC.out, HD.out, smallL_true hge h]
               · refine ⟨_, _, ⟨?_, rfl, rfl⟩, by omega, fun b hb hne => ?_, ?_⟩
                 · rw [HC.out, HD.out, smallL_false hge h]
                 · unfold gput; rw [if_neg hne]; dsimp only; rw [if_neg (by omega)]; exact HG.out b hb hne
                 · unfold gput; rw [if_pos rfl, HC.out, HD.out, smallL_false hge h])
        · have HDN := Hide.mk (List.drop_eq_nil_of_le (by omega) : subs.drop k = [])
          have hkn : k = subs.length := by omega
          subst hkn
          first | clear hsub | clear hrep hrow
          iterate 10 (all_goals try (first | with_reducible refine splitI (fun h => ?_) (fun h => ?_) | with_reducible refine splitBI (fun h => ?_) (fun h => ?_) | simp (disch := first | assumption | omega | (simp; done) | fail) [Tryd.results43, *]))
          all_goals
            refine ⟨_, _, ⟨?_, rfl, rfl⟩, hn', fun b hb hne => HG.out b hb hne, ?_⟩
            · rw [HC.out, HDN.out, smallL]; simp [h]
            · rw [hgp', HC.out, HDN.out, smallL]
end Go.Ai
end

section
namespace Go.Ai
open Go.Proofs
set_option maxRecDepth 10000
set_option maxHeartbeats 40000000
def ParQ (ret : NodeM × Int × Int) (g : Nat → Option Blk) (n : Nat) (r : COut) : Prop := ∃ cs g' n', r = .ret (.tup [.agg cs, .lit (.int .i64 ret.2.1), .lit (.int .i64 ret.2.2)]) ⟨.fn g', n'⟩ ∧ n ≤ n' ∧ (∀ a, a < n → g' a = g a) ∧ FreshN g' n n' ret.1 cs
theorem Parse_w (s : ByteArray) (g : Nat → Option Blk) (n : Nat) (hg : g 0 = some opsB) (hg1 : g 1 = some (.cells bP false 0)) (hg2 : g 2 = some (.cells bX false 0)) (hge : g 3 = some (.cells bY false 0)) (hn0 : 3 < n) :
    WC 6 Tryd.prog 16 [.lit (.string s)] ⟨.fn g, n⟩ fun r => ParQ (parseM s) g n r := by
  generalize hret : parseM s = ret
  have HRET := Hide.mk hret
  clear hret
  refine WC.enterX (noO_ok _ _) hG [] Tryd.func16 rfl (by decide +kernel) (Nat.le_of_ble_eq_true (by kernel_rfl)) ?_
  by_cases hbig : 65536 < s.size
  · have hbigI : (65536 : Int) < (s.size : Int) := by omega
    have e1 : ret = (.mk 0 0 0 [], 0, 3) := by rw [← HRET.out, parseM, if_pos hbig]
    subst e1
    iterate 12 (all_goals try (first | with_reducible refine splitI (fun h => ?_) (fun h => ?_) | with_reducible refine splitBI (fun h => ?_) (fun h => ?_) | simp (config := { maxSteps := 1000000 }) (disch := first | assumption | omega | (simp; done) | fail) [Tryd.results16, *]))
    refine ⟨_, _, _, rfl, by omega, fun a ha => ?_, FreshN.leaf (by omega)⟩
    simp (disch := omega) only [gput_lt]
  · have hbigI : ¬(65536 : Int) < (s.size : Int) := by omega
    have hs : s.size ≤ 1000000 := by omega
    have HR3 : Hide ((match readF s (20 * s.size + 9) 1 (advM s 0) with
      | some (.err k) => (.mk 0 0 0 [], ((k : Nat) : Int), 4)
      | some (.ok x k) => if tokB s k ≠ ⟨#[]⟩ then (.mk 0 0 0 [], ((k : Nat) : Int), 4) else if (smallM x 64).1 = false then (.mk 0 0 0 [], 0, 3) else (x, 0, 0)
      | none => (.mk 0 0 0 [], 0, 0)) = ret) := ⟨by rw [← HRET.out, parseM]; exact (if_neg hbig).symm⟩
    clear HRET
    iterate 12 (all_goals try (first | with_reducible refine splitI (fun h => ?_) (fun h => ?_) | with_reducible refine splitBI (fun h => ?_) (fun h => ?_) | simp (config := { maxSteps := 1000000 }) (disch := first | assumption | omega | (simp; done) | fail) [Tryd.results16, *]))
    refine WC.mono (next_w s ⟨#[]⟩ 0 (n + 1 + 1 + 1) _ _ hs (by simp) (by omega) (Nat.zero_le _)) ?_
    rintro _ ⟨g1, n1, rfl, hn1, hg1', hp1⟩
    rw [show (0 + (⟨#[]⟩ : ByteArray).size) = 0 from rfl] at hp1
    have old : ∀ a, a < n → g1 a = g a := fun a ha => by rw [hg1' a (by omega) (by omega)]; simp (disch := omega) only [gput_lt]
    have P1 : PAt s (n + 1 + 1 + 1) g1 n1 (advM s 0) := ⟨(old 0 (by omega)).trans hg, (old 1 (by omega)).trans hg1, (old 2 (by omega)).trans hg2, (old 3 (by omega)).trans hge, by omega, by omega, hp1, (advM_le (Nat.zero_le _)).2⟩
    have q1 : g1 (n + 1 + 1 + 1 + 1) = some (.cells [.ptr (n + 1 + 1 + 1) 0] true 0) := by rw [hg1' _ (by omega) (by omega)]; simp
    have x1 : g1 n = some (.cells [.lit (.int .u8 0), .lit (.int .i64 0), .lit (.int .i64 0), .lit (.slice none 0 0)] true 0) := by rw [hg1' _ (by omega) (by omega)]; simp (disch := omega) only [gput_lt, gput_same]
    have a1 : g1 (n + 1) = some (.cells [.lit (.int .i64 0)] true 0) := by rw [hg1' _ (by omega) (by omega)]; simp
    have e1 : g1 (n + 1 + 1) = some (.cells [.lit (.int .i64 0)] true 0) := by rw [hg1' _ (by omega) (by omega)]; simp
    have o1 : Hide (∀ a, a < n → g1 a = g a) := ⟨old⟩
    have HP1 := Hide.mk P1
    clear hg1' P1 hp1 old
    have HRW := Hide.mk (par_ok (p := n + 1 + 1 + 1) hs (20 * s.size + 9) (by omega)).1
    generalize advM s 0 = k0 at *
    iterate 14 (all_goals try (first | with_reducible refine splitI (fun h => ?_) (fun h => ?_) | with_reducible refine splitBI (fun h => ?_) (fun h => ?_) | simp (config := { maxSteps := 1000000 }) (disch := first | assumption | omega | (simp; done) | fail) [Tryd.results16, *]))
    refine WC.mono (HRW.out 1 k0 _ _ HP1.out (by omega) (by omega) (by omega)) ?_
    rintro _ ⟨res, hrd, hend⟩
    have HR4 := HR3.out
    rw [hrd] at HR4
    have HRD := Hide.mk hrd
    clear hrd HR3
    cases res with
    | err k2 =>
      obtain ⟨g2, n2, rfl, hn2, hg2, hp2, hk2⟩ := hend
      dsimp only at HR4
      subst HR4
      have HG2 := Hide.mk hg2
      have q2 := (hg2 _ (by omega) (by omega)).trans q1
      have x2 := (hg2 _ (by omega) (by omega)).trans x1
      have a2 := (hg2 _ (by omega) (by omega)).trans a1
      have e2 := (hg2 _ (by omega) (by omega)).trans e1
      clear hg2
      iterate 14 (all_goals try (first | with_reducible refine splitI (fun h => ?_) (fun h => ?_) | with_reducible refine splitBI (fun h => ?_) (fun h => ?_) | simp (config := { maxSteps := 1000000 }) (disch := first | assumption | omega | (simp; done) | fail) [Tryd.results16, *]))
      unfold parB at hp2
      refine parse_panic q2 hp2 x2 a2 e2 (by omega) (by omega) (by omega) (by omega) (by omega) (by omega) (by omega) (by omega) (by omega) (by omega) (by omega) (by omega) (fun g3 n3 hn3 hg3 gx ga ge => ?_)
      have HG3 := Hide.mk hg3
      clear hg3
      iterate 4 (all_goals try simp (disch := first | assumption | omega | (simp; done) | fail) [Tryd.results16, *])
      have hg3 := HG3.out
      refine ⟨_, _, _, rfl, by omega, fun a ha => ?_, FreshN.leaf (by omega)⟩
      rw [hg3 a (by omega) (by omega) (by omega) (by omega), HG2.out a (by omega) (by omega)]
      exact o1.out a ha
    | ok x k2 =>
      obtain ⟨op, qa, qb, sv2, g2, n2, rfl, hn2, hg2, hp2, hk2, hfr⟩ := hend
      dsimp only at HR4
      have HR5 := Hide.mk HR4
      clear HR4
      have hsz : sizeN x ≤ 1000000 := by
        have := ((read_good _).1 _ _ _ _ HP1.out.le HRD.out).2.2.1
        omega
      have HG2 := Hide.mk hg2
      have q2 := (hg2 _ (by omega) (by omega)).trans q1
      have x2 := (hg2 _ (by omega) (by omega)).trans x1
      have a2 := (hg2 _ (by omega) (by omega)).trans a1
      have e2 := (hg2 _ (by omega) (by omega)).trans e1
      have P2 : PAt s (n + 1 + 1 + 1) g2 n2 k2 := HP1.out.step (by omega) hg2 hp2 hk2
      have HP2 := Hide.mk P2
      clear hg2 P2
      unfold parB at hp2
      have h1c := repN_c hfr.rep
      have h1a : allOne [.lit (.int .u8 op), .lit (.int .i64 qa), .lit (.int .i64 qb), sv2] = true := by simp [h1c]
      have HFR := Hide.mk hfr
      clear hfr
      by_cases hte : tokB s k2 = ⟨#[]⟩
      · rw [hte] at hp2
        have HR6 := HR5.out
        rw [if_neg (fun h => h hte)] at HR6
        have HR7 := Hide.mk HR6
        clear HR6 HR5
        iterate 14 (all_goals try (first | with_reducible refine splitI (fun h => ?_) (fun h => ?_) | with_reducible refine splitBI (fun h => ?_) (fun h => ?_) | simp (config := { maxSteps := 1000000 }) (disch := first | assumption | omega | (simp; done) | fail) [Tryd.results16, *]))
        refine WC.mono (small_w 1000000 (Nat.le_refl _) x hsz _ _ n2 _ 64 ((HFR.out.keep (n0 := n1) (n2 := n2 + 1) (Nat.le_refl _) (by omega) (fun a h1 h2 => by simp (disch := omega) only [gput_lt, gput_gt])).rep) (by omega) (by simp) (by omega) (by omega)) ?_
        rintro _ rfl
        have HN2 : ¬n = n2 := by omega
        cases hck : (smallM x 64).1 with
        | true =>
          have HR8 := HR7.out
          rw [if_neg (by rw [hck]; decide)] at HR8
          subst HR8
          clear HR7 hck
          iterate 14 (all_goals try (first | with_reducible refine splitI (fun h => ?_) (fun h => ?_) | with_reducible refine splitBI (fun h => ?_) (fun h => ?_) | simp (config := { maxSteps := 1000000 }) (disch := first | assumption | omega | (simp; done) | fail) [Tryd.results16, *]))
          refine parse_ret ?_
          iterate 6 (all_goals try (simp (disch := first | assumption | omega | (simp; done) | fail) [Tryd.results16, *]))
          refine ⟨_, _, _, rfl, by omega, fun a ha => ?_, HFR.out.keep (by omega) (by omega) (fun a h1 h2 => ?_)⟩
          · simp (disch := omega) only [gput_lt]
            rw [HG2.out a (by omega) (by omega)]
            exact o1.out a ha
          · simp (disch := omega) only [gput_lt, gput_gt]
        | false =>
          have HR8 := HR7.out
          rw [if_pos hck] at HR8
          subst HR8
          clear HR7 hck
          iterate 14 (all_goals try (first | with_reducible refine splitI (fun h => ?_) (fun h => ?_) | with_reducible refine splitBI (fun h => ?_) (fun h => ?_) | simp (config := { maxSteps := 1000000 }) (disch := first | assumption | omega | (simp; done) | fail) [Tryd.results16, *]))
          refine parse_ret ?_
          iterate 6 (all_goals try (simp (disch := first | assumption | omega | (simp; done) | fail) [Tryd.results16, *]))
          refine ⟨_, _, _, rfl, by omega, fun a ha => ?_, FreshN.leaf (by omega)⟩
          simp (disch := omega) only [gput_lt]
          rw [HG2.out a (by omega) (by omega)]
          exact o1.out a ha
      · have HR6 := HR5.out
        rw [if_pos hte] at HR6
        subst HR6
        clear HR5
        have hteI : ¬tokB s k2 = ⟨#[]⟩ := hte
        iterate 14 (all_goals try (first | with_reducible refine splitI (fun h => ?_) (fun h => ?_) | with_reducible refine splitBI (fun h => ?_) (fun h => ?_) | simp (config := { maxSteps := 1000000 }) (disch := first | assumption | omega | (simp; done) | fail) [Tryd.results16, *]))
        refine parse_panic ((gput_gt (by omega)).trans q2) ((gput_gt (by omega)).trans hp2) gput_same ((gput_gt (by omega)).trans a2) ((gput_gt (by omega)).trans e2) (by omega) (by omega) (by omega) (by omega) (by omega) (by omega) (by omega) (by omega) (by omega) (by omega) (by omega) (by omega) (fun g3 n3 hn3 hg3 gx ga ge => ?_)
        have HG3 := Hide.mk hg3
        clear hg3
        iterate 4 (all_goals try simp (disch := first | assumption | omega | (simp; done) | fail) [Tryd.results16, *])
        have hg3 := HG3.out
        refine ⟨_, _, _, rfl, by omega, fun a ha => ?_, FreshN.leaf (by omega)⟩
        rw [hg3 a (by omega) (by omega) (by omega) (by omega), gput_lt ha, HG2.out a (by omega) (by omega)]
        exact o1.out a ha
end Go.Ai
end
