/- A small verified interpreter over names, its proofs, and what was proved with it. No condition. -/
import Derived.Test.YtfllomlghjolpaaDoorP08
import Derived.Test.YtfllomlghjolpaaDoorP06
import Derived.Test.YtfllomlghjolpaaDoorP07
set_option linter.all false
set_option linter.deprecated false
section
namespace Go.Ai
open Go.Proofs
set_option maxRecDepth 10000
set_option maxHeartbeats 40000000
def RLevOK (s : ByteArray) (pos : List Nat) (ta m : Nat) : Prop := ∀ (rank i k : Nat) (g : Nat → Option Blk) (n : Nat), RAt s pos ta g n → pos[i]? = some k → 1 ≤ rank → rank ≤ 3 → 20 * (s.size - k) + 10 ≤ m + rank →
  WC 6 Tryd.prog 48 [.slq ta 0 pos.length 0, .lit (.int .i64 i), .lit (.int .i64 rank)] ⟨.fn g, n⟩ fun r => ∃ res, readF s m rank k = some res ∧ REnd pos g n res r
def RSinOK (s : ByteArray) (pos : List Nat) (ta m : Nat) : Prop := ∀ (i k : Nat) (g : Nat → Option Blk) (n : Nat), RAt s pos ta g n → pos[i]? = some k → 20 * (s.size - k) + 6 ≤ m →
  WC 6 Tryd.prog 64 [.slq ta 0 pos.length 0, .lit (.int .i64 i)] ⟨.fn g, n⟩ fun r => ∃ res, singF s m k = some res ∧ REnd pos g n res r
/-- Where the loop of a level stands. -/
def LevS (s : ByteArray) (pos : List Nat) (m R k m' : Nat) (x' : NodeM) (j' : Nat) (e' : Int) : Prop :=
  (e' = 1 ∧ ∃ k', pos[j']? = some k' ∧ readF s (m + 1) R k = loopF s m' R x' k' ∧ 20 * (s.size - k') + 1 ≤ m' ∧ m' ≤ m) ∨ (e' = 0 ∧ ∃ k', pos[j']? = some k' ∧ readF s (m + 1) R k = some (.err k'))
theorem rlevel_step {s : ByteArray} {pos : List Nat} {ta m : Nat} (hP : PosOK s pos) (hpl : pos.length ≤ 1000001) (hs : s.size ≤ 1000000) (hmm : m ≤ 100000000) (hR : ∀ m', m' ≤ m → RLevOK s pos ta m') (hS : RSinOK s pos ta m) : RLevOK s pos ta (m + 1) := by
  intro rank i k g n h hi hr1 hr3 hm
  have hle := (hP i k hi).1
  have hta := h.tan
  have HTOK : Hide (∀ j k, pos[j]? = some k → loadB (some (false, 1)) (g ta) (j * 2) = some (.lit (.string (tokB s k)))) := ⟨fun j k hj => by have := (row_tok (z := 1) h.toks hj).1; rwa [Nat.zero_add] at this⟩
  have HH := Hide.mk h
  have HP := Hide.mk hP
  have HPI := Hide.mk hi
  have HRM := Hide.mk hR
  have HS := Hide.mk hS
  have htan : ¬ta = n := by omega
  clear h hP hi hR hS
  have hrk : rank = 3 ∨ rank = 2 ∨ rank = 1 := by omega
  rcases hrk with rfl | rfl | rfl
  · refine WC.enterP (noO_ok _ _) hG pl48 Tryd.func48 rfl (by decide +kernel) (Nat.le_of_ble_eq_true (by kernel_rfl)) ?_
    iterate 12 (all_goals try (first | with_reducible refine splitI (fun h => ?_) (fun h => ?_) | with_reducible refine splitBI (fun h => ?_) (fun h => ?_) | simp (config := { maxSteps := 1000000 }) (disch := first | assumption | omega | (simp; done) | fail) [Tryd.results48, *]))
    refine WC.mono (HS.out i k _ _ (HH.out.keep (by omega) (fun a ha => (by simp (disch := omega) only [gput_lt]))) HPI.out (by omega)) ?_
    rintro _ ⟨res, hrd, x, op, qa, qb, sv, j, e, g1, n1, rfl, hn1, hg1, hfr, hend⟩
    have hres : readF s (m + 1) 3 k = some res := by rw [readF, if_pos (by decide)]; exact hrd
    have h1c := repN_c hfr.rep
    have h1a : allOne [.lit (.int .u8 op), .lit (.int .i64 qa), .lit (.int .i64 qb), sv, .lit (.int .i64 j), .lit (.int .i64 e)] = true := by simp [h1c]
    have e1 : g1 n = some (.cells [.lit (.int .u8 0), .lit (.int .i64 0), .lit (.int .i64 0), .lit (.slice none 0 0), .lit (.int .i64 0), .lit (.int .i64 0)] true 0) := by rw [hg1 n (by omega)]; simp
    have HRES := Hide.mk hres
    have HFR := Hide.mk hfr
    have HG1 := Hide.mk hg1
    have HE := Hide.mk hend
    clear hres hrd hfr hg1 hend
    iterate 12 (all_goals try (first | with_reducible refine splitI (fun h => ?_) (fun h => ?_) | with_reducible refine splitBI (fun h => ?_) (fun h => ?_) | simp (config := { maxSteps := 1000000 }) (disch := first | assumption | omega | (simp; done) | fail) [Tryd.results48, *]))
    refine ⟨_, HRES.out, x, op, qa, qb, sv, j, e, _, _, rfl, by omega, fun a ha => ?_, HFR.out.keep (by omega) (by omega) (fun a h4 h5 => gput_ne (by omega)), HE.out⟩
    rw [gput_lt ha, HG1.out a (by omega)]
    simp (disch := omega) only [gput_lt]
  · -- rank 2
    refine WC.enterP (noO_ok _ _) hG pl48 Tryd.func48 rfl (by decide +kernel) (Nat.le_of_ble_eq_true (by kernel_rfl)) ?_
    iterate 12 (all_goals try (first | with_reducible refine splitI (fun h => ?_) (fun h => ?_) | with_reducible refine splitBI (fun h => ?_) (fun h => ?_) | simp (config := { maxSteps := 1000000 }) (disch := first | assumption | omega | (simp; done) | fail) [Tryd.results48, *]))
    refine WC.mono (HRM.out m (Nat.le_refl _) 3 i k _ _ (HH.out.keep (by omega) (fun a ha => (by simp (disch := omega) only [gput_lt]))) HPI.out (by omega) (by omega) (by omega)) ?_
    rintro _ ⟨res, hrd, x, op, qa, qb, sv, j, e, g1, n1, rfl, hn1, hg1, hfr, hend⟩
    have h1c := repN_c hfr.rep
    have h1a : allOne [.lit (.int .u8 op), .lit (.int .i64 qa), .lit (.int .i64 qb), sv, .lit (.int .i64 j), .lit (.int .i64 e)] = true := by simp [h1c]
    have e1 : g1 n = some (.cells [.lit (.int .u8 0), .lit (.int .i64 0), .lit (.int .i64 0), .lit (.slice none 0 0), .lit (.int .i64 0), .lit (.int .i64 0)] true 0) := by rw [hg1 n (by omega)]; simp
    have hnn1 : ¬n = n1 := by omega
    have htn1 : ¬ta = n1 := by omega
    have hls : LevS s pos m 2 k m x j e := by
      cases res with
      | ok y k1 =>
        obtain ⟨rfl, rfl, hj⟩ := hend
        have hgd := (read_good m).1 _ _ _ _ hle hrd
        have hg3 := hgd.1
        exact .inl ⟨rfl, k1, hj, by rw [readF, if_neg (by decide), hrd], by omega, Nat.le_refl _⟩
      | err k1 =>
        obtain ⟨rfl, hj⟩ := hend
        exact .inr ⟨rfl, k1, hj, by rw [readF, if_neg (by decide), hrd]⟩
    have HLS := Hide.mk hls
    have HFR := Hide.mk hfr
    have HO1 : Hide (∀ a, a < n → g1 a = g a) := ⟨fun a ha => by rw [hg1 a (by omega)]; simp (disch := omega) only [gput_lt]⟩
    clear hg1 hrd hfr hls hend
    iterate 12 (all_goals try (first | with_reducible refine splitI (fun h => ?_) (fun h => ?_) | with_reducible refine splitBI (fun h => ?_) (fun h => ?_) | simp (config := { maxSteps := 1000000 }) (disch := first | assumption | omega | (simp; done) | fail) [Tryd.results48, *]))
    refine LX.ind (fun m' gf H' => ∃ (x' : NodeM) (op' : Nat) (a' b' : Int) (sv' : AV) (j' : Nat) (e' : Int) (n' : Nat) (g' : Nat → Option Blk), H' = ⟨.fn g', n'⟩ ∧ n1 < n' ∧ g' n1 = some (.cells [.lit (.int .u8 op'), .lit (.int .i64 a'), .lit (.int .i64 b'), sv', .lit (.int .i64 j'), .lit (.int .i64 e')] true 0) ∧ oneC sv' = true ∧
      FreshQ g' (n + 1) n1 n' x' [.lit (.int .u8 op'), .lit (.int .i64 a'), .lit (.int .i64 b'), sv'] ∧ (∀ a, a < n → g' a = g a) ∧ g' n = some (.cells [.lit (.int .u8 0), .lit (.int .i64 0), .lit (.int .i64 0), .lit (.slice none 0 0), .lit (.int .i64 0), .lit (.int .i64 0)] true 0) ∧
      gf 0 = some (.slq ta 0 pos.length 0) ∧ gf 2 = some (.lit (.int .i64 2)) ∧ gf 6 = some (.ptr n 0) ∧ gf 7 = some (.lit (.int .u8 5)) ∧ gf 8 = some (.ptr n1 0) ∧
      LevS s pos m 2 k m' x' j' e') (m0 := m) ?_ ?_
    · refine ⟨x, op, qa, qb, sv, j, e, n1 + 1, _, rfl, by omega, gput_eq, h1c, FreshQ.of HFR.out (Nat.le_refl _) (by omega) (fun a h4 h5 => (by simp (disch := omega) only [gput_lt])), fun a ha => ?_, ?_, by simp, by simp, by simp, by simp, by simp, HLS.out⟩
      · simp (disch := omega) only [gput_lt]; exact HO1.out a ha
      · simp (disch := omega) only [gput_lt]; exact e1
    rintro m' gf H' ⟨x', op', a', b', sv', j', e', n', g', rfl, hn', hq', h1c', hfq, hg', hz', q0, q2, q6, q7, q8, hls⟩ ih
    refine LX.roundP (noO_ok _ _) hG pl48 (by decide +kernel) ?_
    have HFQ := Hide.mk hfq
    have HG' := Hide.mk hg'
    have hta' := hg' ta hta
    clear hfq hg' HO1 HFR HLS h1a e1 h1c
    rcases hls with ⟨rfl, k', hj', hld, hm1, hm2⟩ | ⟨rfl, k', hj', hld⟩
    · have h1a' : allOne [.lit (.int .u8 op'), .lit (.int .i64 a'), .lit (.int .i64 b'), sv', .lit (.int .i64 j'), .lit (.int .i64 1)] = true := by simp [h1c']
      have h1b' : allOne [.lit (.int .u8 op'), .lit (.int .i64 a'), .lit (.int .i64 b'), sv'] = true := by simp [h1c']
      have hle' := (HP.out j' k' hj').1
      have hnx' := (HP.out j' k' hj').2
      have hjl : j' < pos.length := (List.getElem?_eq_some_iff.1 hj').1
      have hjI : (j' : Int) < (pos.length : Int) := by omega
      have r2 := HTOK.out j' k' hj'
      rw [← hta'] at r2
      have HLD := Hide.mk hld
      have HJ := Hide.mk hj'
      obtain ⟨m'', rfl⟩ : ∃ m'', m' = m'' + 1 := ⟨m' - 1, by omega⟩
      clear hld hj' hta'
      by_cases ht : tokB s k' = signB 5
      · have hks : k' < s.size := tok_full hle' ht (by decide)
        have hnk := nxtM_lt hks
        have hnl := nxtM_le hle'
        have HN := Hide.mk (hnx' hks)
        have HTT := Hide.mk ht
        clear hnx'
        iterate 12 (all_goals try (first | with_reducible refine splitI (fun h => ?_) (fun h => ?_) | with_reducible refine splitBI (fun h => ?_) (fun h => ?_) | simp (config := { maxSteps := 1000000 }) (disch := first | assumption | omega | (simp; done) | fail) [Tryd.results48, *]))
        refine WC.mono (sign_w 5 (by decide) _ _) ?_
        rintro _ rfl
        iterate 12 (all_goals try (first | with_reducible refine splitI (fun h => ?_) (fun h => ?_) | with_reducible refine splitBI (fun h => ?_) (fun h => ?_) | simp (config := { maxSteps := 1000000 }) (disch := first | assumption | omega | (simp; done) | fail) [Tryd.results48, *]))
        refine WC.mono (HRM.out m'' (by omega) 3 (j' + 1) (nxtM s k') _ _ (HH.out.keep (by omega) (fun a ha => HG'.out a ha)) HN.out (by omega) (by omega) (by omega)) ?_
        rintro _ ⟨res, hrd, x3, op3, ya, yb, sv3, j3, e3, g3, n3, rfl, hn3, hg3, hfr3, hend⟩
        have h1c3 := repN_c hfr3.rep
        have h1a3 : allOne [.lit (.int .u8 op3), .lit (.int .i64 ya), .lit (.int .i64 yb), sv3, .lit (.int .i64 j3), .lit (.int .i64 e3)] = true := by simp [h1c3]
        have h1b3 : allOne [.lit (.int .u8 op3), .lit (.int .i64 ya), .lit (.int .i64 yb), sv3] = true := by simp [h1c3]
        have hls : LevS s pos m 2 k m'' (.mk 5 0 0 [x', x3]) j3 e3 := by
          cases res with
          | ok y k3 =>
            obtain ⟨rfl, rfl, hj⟩ := hend
            have hgd := (read_good m'').1 _ _ _ _ hnl hrd
            have hg3 := hgd.1
            exact .inl ⟨rfl, k3, hj, by rw [HLD.out, loopF, if_pos (show tokB s k' = signB (bopM 2) from HTT.out), hrd]; rfl, by omega, by omega⟩
          | err k3 =>
            obtain ⟨rfl, hj⟩ := hend
            exact .inr ⟨rfl, k3, hj, by rw [HLD.out, loopF, if_pos (show tokB s k' = signB (bopM 2) from HTT.out), hrd]⟩
        have HLS := Hide.mk hls
        have hq3 := (hg3 n1 (by omega)).trans hq'
        have hz3 := (hg3 n (by omega)).trans hz'
        have hn13 : ¬n1 = n3 := by omega
        have hnn3 : ¬n = n3 := by omega
        have HQ3 : Hide (FreshQ g3 (n + 1) n1 n3 x' [.lit (.int .u8 op'), .lit (.int .i64 a'), .lit (.int .i64 b'), sv']) := ⟨HFQ.out.keep hn3 (fun a h4 h5 h6 => hg3 a (by omega))⟩
        have HFY := Hide.mk hfr3
        have HO3 : Hide (∀ a, a < n → g3 a = g a) := ⟨fun a ha => (hg3 a (by omega)).trans (HG'.out a ha)⟩
        clear hg3 hrd hfr3 hls hend ht
        iterate 12 (all_goals try (first | with_reducible refine splitI (fun h => ?_) (fun h => ?_) | with_reducible refine splitBI (fun h => ?_) (fun h => ?_) | simp (config := { maxSteps := 1000000 }) (disch := first | assumption | omega | (simp; done) | fail) [Tryd.results48, *]))
        refine ih.out m'' _ _ (by omega) ⟨.mk 5 0 0 [x', x3], 5, 0, 0, .sl (n3 + 1) 0 2 2, j3, e3, n3 + 1 + 1, _, rfl, by omega, gput_eq, rfl, HQ3.out.bin HFY.out (n2 := n3 + 1 + 1) (by omega) (by omega) (by omega) (S := n3 + 1) ?_ (by omega) (by omega) (by omega) (by omega) ?_, fun a ha => ?_, ?_, by simp [*], by simp [*], by simp [*], by simp [*], by simp [*], HLS.out⟩
        · simp (disch := omega) only [gput_ne, gput_eq]
          rfl
        · intro a h5 h6 h7
          simp (disch := omega) only [gput_ne]
        · simp (disch := omega) only [gput_ne]
          exact HO3.out a ha
        · simp (disch := omega) only [gput_ne]
          exact hz3
      · have hres : readF s (m + 1) 2 k = some (.ok x' k') := by rw [HLD.out, loopF, if_neg (show ¬tokB s k' = signB (bopM 2) from ht)]
        have HRES := Hide.mk hres
        clear hres
        iterate 12 (all_goals try (first | with_reducible refine splitI (fun h => ?_) (fun h => ?_) | with_reducible refine splitBI (fun h => ?_) (fun h => ?_) | simp (config := { maxSteps := 1000000 }) (disch := first | assumption | omega | (simp; done) | fail) [Tryd.results48, *]))
        refine WC.mono (sign_w 5 (by decide) _ _) ?_
        rintro _ rfl
        iterate 12 (all_goals try (first | with_reducible refine splitI (fun h => ?_) (fun h => ?_) | with_reducible refine splitBI (fun h => ?_) (fun h => ?_) | simp (config := { maxSteps := 1000000 }) (disch := first | assumption | omega | (simp; done) | fail) [Tryd.results48, *]))
        refine ⟨_, HRES.out, x', op', a', b', sv', j', 1, _, _, rfl, by omega, fun a ha => ?_, HFQ.out.fresh (by omega) (by omega) (fun a h4 h5 h6 => by rw [gput_ne (by omega)]), rfl, rfl, HJ.out⟩
        rw [gput_lt ha]; exact HG'.out a ha
    · have h1a' : allOne [.lit (.int .u8 op'), .lit (.int .i64 a'), .lit (.int .i64 b'), sv', .lit (.int .i64 j'), .lit (.int .i64 0)] = true := by simp [h1c']
      have HRES := Hide.mk hld
      have HJ := Hide.mk hj'
      clear hld hj'
      iterate 12 (all_goals try (first | with_reducible refine splitI (fun h => ?_) (fun h => ?_) | with_reducible refine splitBI (fun h => ?_) (fun h => ?_) | simp (config := { maxSteps := 1000000 }) (disch := first | assumption | omega | (simp; done) | fail) [Tryd.results48, *]))
      refine ⟨_, HRES.out, x', op', a', b', sv', j', 0, _, _, rfl, by omega, fun a ha => ?_, HFQ.out.fresh (by omega) (by omega) (fun a h4 h5 h6 => by rw [gput_ne (by omega)]), rfl, HJ.out⟩
      rw [gput_lt ha]; exact HG'.out a ha
  · -- rank 1
    refine WC.enterP (noO_ok _ _) hG pl48 Tryd.func48 rfl (by decide +kernel) (Nat.le_of_ble_eq_true (by kernel_rfl)) ?_
    iterate 12 (all_goals try (first | with_reducible refine splitI (fun h => ?_) (fun h => ?_) | with_reducible refine splitBI (fun h => ?_) (fun h => ?_) | simp (config := { maxSteps := 1000000 }) (disch := first | assumption | omega | (simp; done) | fail) [Tryd.results48, *]))
    refine WC.mono (HRM.out m (Nat.le_refl _) 2 i k _ _ (HH.out.keep (by omega) (fun a ha => (by simp (disch := omega) only [gput_lt]))) HPI.out (by omega) (by omega) (by omega)) ?_
    rintro _ ⟨res, hrd, x, op, qa, qb, sv, j, e, g1, n1, rfl, hn1, hg1, hfr, hend⟩
    have h1c := repN_c hfr.rep
    have h1a : allOne [.lit (.int .u8 op), .lit (.int .i64 qa), .lit (.int .i64 qb), sv, .lit (.int .i64 j), .lit (.int .i64 e)] = true := by simp [h1c]
    have e1 : g1 n = some (.cells [.lit (.int .u8 0), .lit (.int .i64 0), .lit (.int .i64 0), .lit (.slice none 0 0), .lit (.int .i64 0), .lit (.int .i64 0)] true 0) := by rw [hg1 n (by omega)]; simp
    have hnn1 : ¬n = n1 := by omega
    have htn1 : ¬ta = n1 := by omega
    have hls : LevS s pos m 1 k m x j e := by
      cases res with
      | ok y k1 =>
        obtain ⟨rfl, rfl, hj⟩ := hend
        have hgd := (read_good m).1 _ _ _ _ hle hrd
        have hg3 := hgd.1
        exact .inl ⟨rfl, k1, hj, by rw [readF, if_neg (by decide), hrd], by omega, Nat.le_refl _⟩
      | err k1 =>
        obtain ⟨rfl, hj⟩ := hend
        exact .inr ⟨rfl, k1, hj, by rw [readF, if_neg (by decide), hrd]⟩
    have HLS := Hide.mk hls
    have HFR := Hide.mk hfr
    have HO1 : Hide (∀ a, a < n → g1 a = g a) := ⟨fun a ha => by rw [hg1 a (by omega)]; simp (disch := omega) only [gput_lt]⟩
    clear hg1 hrd hfr hls hend
    iterate 12 (all_goals try (first | with_reducible refine splitI (fun h => ?_) (fun h => ?_) | with_reducible refine splitBI (fun h => ?_) (fun h => ?_) | simp (config := { maxSteps := 1000000 }) (disch := first | assumption | omega | (simp; done) | fail) [Tryd.results48, *]))
    refine LX.ind (fun m' gf H' => ∃ (x' : NodeM) (op' : Nat) (a' b' : Int) (sv' : AV) (j' : Nat) (e' : Int) (n' : Nat) (g' : Nat → Option Blk), H' = ⟨.fn g', n'⟩ ∧ n1 < n' ∧ g' n1 = some (.cells [.lit (.int .u8 op'), .lit (.int .i64 a'), .lit (.int .i64 b'), sv', .lit (.int .i64 j'), .lit (.int .i64 e')] true 0) ∧ oneC sv' = true ∧
      FreshQ g' (n + 1) n1 n' x' [.lit (.int .u8 op'), .lit (.int .i64 a'), .lit (.int .i64 b'), sv'] ∧ (∀ a, a < n → g' a = g a) ∧ g' n = some (.cells [.lit (.int .u8 0), .lit (.int .i64 0), .lit (.int .i64 0), .lit (.slice none 0 0), .lit (.int .i64 0), .lit (.int .i64 0)] true 0) ∧
      gf 0 = some (.slq ta 0 pos.length 0) ∧ gf 2 = some (.lit (.int .i64 1)) ∧ gf 6 = some (.ptr n 0) ∧ gf 7 = some (.lit (.int .u8 6)) ∧ gf 8 = some (.ptr n1 0) ∧
      LevS s pos m 1 k m' x' j' e') (m0 := m) ?_ ?_
    · refine ⟨x, op, qa, qb, sv, j, e, n1 + 1, _, rfl, by omega, gput_eq, h1c, FreshQ.of HFR.out (Nat.le_refl _) (by omega) (fun a h4 h5 => (by simp (disch := omega) only [gput_lt])), fun a ha => ?_, ?_, by simp, by simp, by simp, by simp, by simp, HLS.out⟩
      · simp (disch := omega) only [gput_lt]; exact HO1.out a ha
      · simp (disch := omega) only [gput_lt]; exact e1
    rintro m' gf H' ⟨x', op', a', b', sv', j', e', n', g', rfl, hn', hq', h1c', hfq, hg', hz', q0, q2, q6, q7, q8, hls⟩ ih
    refine LX.roundP (noO_ok _ _) hG pl48 (by decide +kernel) ?_
    have HFQ := Hide.mk hfq
    have HG' := Hide.mk hg'
    have hta' := hg' ta hta
    clear hfq hg' HO1 HFR HLS h1a e1 h1c
    rcases hls with ⟨rfl, k', hj', hld, hm1, hm2⟩ | ⟨rfl, k', hj', hld⟩
    · have h1a' : allOne [.lit (.int .u8 op'), .lit (.int .i64 a'), .lit (.int .i64 b'), sv', .lit (.int .i64 j'), .lit (.int .i64 1)] = true := by simp [h1c']
      have h1b' : allOne [.lit (.int .u8 op'), .lit (.int .i64 a'), .lit (.int .i64 b'), sv'] = true := by simp [h1c']
      have hle' := (HP.out j' k' hj').1
      have hnx' := (HP.out j' k' hj').2
      have hjl : j' < pos.length := (List.getElem?_eq_some_iff.1 hj').1
      have hjI : (j' : Int) < (pos.length : Int) := by omega
      have r2 := HTOK.out j' k' hj'
      rw [← hta'] at r2
      have HLD := Hide.mk hld
      have HJ := Hide.mk hj'
      obtain ⟨m'', rfl⟩ : ∃ m'', m' = m'' + 1 := ⟨m' - 1, by omega⟩
      clear hld hj' hta'
      by_cases ht : tokB s k' = signB 6
      · have hks : k' < s.size := tok_full hle' ht (by decide)
        have hnk := nxtM_lt hks
        have hnl := nxtM_le hle'
        have HN := Hide.mk (hnx' hks)
        have HTT := Hide.mk ht
        clear hnx'
        iterate 12 (all_goals try (first | with_reducible refine splitI (fun h => ?_) (fun h => ?_) | with_reducible refine splitBI (fun h => ?_) (fun h => ?_) | simp (config := { maxSteps := 1000000 }) (disch := first | assumption | omega | (simp; done) | fail) [Tryd.results48, *]))
        refine WC.mono (sign_w 6 (by decide) _ _) ?_
        rintro _ rfl
        iterate 12 (all_goals try (first | with_reducible refine splitI (fun h => ?_) (fun h => ?_) | with_reducible refine splitBI (fun h => ?_) (fun h => ?_) | simp (config := { maxSteps := 1000000 }) (disch := first | assumption | omega | (simp; done) | fail) [Tryd.results48, *]))
        refine WC.mono (HRM.out m'' (by omega) 2 (j' + 1) (nxtM s k') _ _ (HH.out.keep (by omega) (fun a ha => HG'.out a ha)) HN.out (by omega) (by omega) (by omega)) ?_
        rintro _ ⟨res, hrd, x3, op3, ya, yb, sv3, j3, e3, g3, n3, rfl, hn3, hg3, hfr3, hend⟩
        have h1c3 := repN_c hfr3.rep
        have h1a3 : allOne [.lit (.int .u8 op3), .lit (.int .i64 ya), .lit (.int .i64 yb), sv3, .lit (.int .i64 j3), .lit (.int .i64 e3)] = true := by simp [h1c3]
        have h1b3 : allOne [.lit (.int .u8 op3), .lit (.int .i64 ya), .lit (.int .i64 yb), sv3] = true := by simp [h1c3]
        have hls : LevS s pos m 1 k m'' (.mk 6 0 0 [x', x3]) j3 e3 := by
          cases res with
          | ok y k3 =>
            obtain ⟨rfl, rfl, hj⟩ := hend
            have hgd := (read_good m'').1 _ _ _ _ hnl hrd
            have hg3 := hgd.1
            exact .inl ⟨rfl, k3, hj, by rw [HLD.out, loopF, if_pos (show tokB s k' = signB (bopM 1) from HTT.out), hrd]; rfl, by omega, by omega⟩
          | err k3 =>
            obtain ⟨rfl, hj⟩ := hend
            exact .inr ⟨rfl, k3, hj, by rw [HLD.out, loopF, if_pos (show tokB s k' = signB (bopM 1) from HTT.out), hrd]⟩
        have HLS := Hide.mk hls
        have hq3 := (hg3 n1 (by omega)).trans hq'
        have hz3 := (hg3 n (by omega)).trans hz'
        have hn13 : ¬n1 = n3 := by omega
        have hnn3 : ¬n = n3 := by omega
        have HQ3 : Hide (FreshQ g3 (n + 1) n1 n3 x' [.lit (.int .u8 op'), .lit (.int .i64 a'), .lit (.int .i64 b'), sv']) := ⟨HFQ.out.keep hn3 (fun a h4 h5 h6 => hg3 a (by omega))⟩
        have HFY := Hide.mk hfr3
        have HO3 : Hide (∀ a, a < n → g3 a = g a) := ⟨fun a ha => (hg3 a (by omega)).trans (HG'.out a ha)⟩
        clear hg3 hrd hfr3 hls hend ht
        iterate 12 (all_goals try (first | with_reducible refine splitI (fun h => ?_) (fun h => ?_) | with_reducible refine splitBI (fun h => ?_) (fun h => ?_) | simp (config := { maxSteps := 1000000 }) (disch := first | assumption | omega | (simp; done) | fail) [Tryd.results48, *]))
        refine ih.out m'' _ _ (by omega) ⟨.mk 6 0 0 [x', x3], 6, 0, 0, .sl (n3 + 1) 0 2 2, j3, e3, n3 + 1 + 1, _, rfl, by omega, gput_eq, rfl, HQ3.out.bin HFY.out (n2 := n3 + 1 + 1) (by omega) (by omega) (by omega) (S := n3 + 1) ?_ (by omega) (by omega) (by omega) (by omega) ?_, fun a ha => ?_, ?_, by simp [*], by simp [*], by simp [*], by simp [*], by simp [*], HLS.out⟩
        · simp (disch := omega) only [gput_ne, gput_eq]
          rfl
        · intro a h5 h6 h7
          simp (disch := omega) only [gput_ne]
        · simp (disch := omega) only [gput_ne]
          exact HO3.out a ha
        · simp (disch := omega) only [gput_ne]
          exact hz3
      · have hres : readF s (m + 1) 1 k = some (.ok x' k') := by rw [HLD.out, loopF, if_neg (show ¬tokB s k' = signB (bopM 1) from ht)]
        have HRES := Hide.mk hres
        clear hres
        iterate 12 (all_goals try (first | with_reducible refine splitI (fun h => ?_) (fun h => ?_) | with_reducible refine splitBI (fun h => ?_) (fun h => ?_) | simp (config := { maxSteps := 1000000 }) (disch := first | assumption | omega | (simp; done) | fail) [Tryd.results48, *]))
        refine WC.mono (sign_w 6 (by decide) _ _) ?_
        rintro _ rfl
        iterate 12 (all_goals try (first | with_reducible refine splitI (fun h => ?_) (fun h => ?_) | with_reducible refine splitBI (fun h => ?_) (fun h => ?_) | simp (config := { maxSteps := 1000000 }) (disch := first | assumption | omega | (simp; done) | fail) [Tryd.results48, *]))
        refine ⟨_, HRES.out, x', op', a', b', sv', j', 1, _, _, rfl, by omega, fun a ha => ?_, HFQ.out.fresh (by omega) (by omega) (fun a h4 h5 h6 => by rw [gput_ne (by omega)]), rfl, rfl, HJ.out⟩
        rw [gput_lt ha]; exact HG'.out a ha
    · have h1a' : allOne [.lit (.int .u8 op'), .lit (.int .i64 a'), .lit (.int .i64 b'), sv', .lit (.int .i64 j'), .lit (.int .i64 0)] = true := by simp [h1c']
      have HRES := Hide.mk hld
      have HJ := Hide.mk hj'
      clear hld hj'
      iterate 12 (all_goals try (first | with_reducible refine splitI (fun h => ?_) (fun h => ?_) | with_reducible refine splitBI (fun h => ?_) (fun h => ?_) | simp (config := { maxSteps := 1000000 }) (disch := first | assumption | omega | (simp; done) | fail) [Tryd.results48, *]))
      refine ⟨_, HRES.out, x', op', a', b', sv', j', 0, _, _, rfl, by omega, fun a ha => ?_, HFQ.out.fresh (by omega) (by omega) (fun a h4 h5 h6 => by rw [gput_ne (by omega)]), rfl, HJ.out⟩
      rw [gput_lt ha]; exact HG'.out a ha
end Go.Ai
end

section
namespace Go.Ai
open Go.Proofs
set_option maxRecDepth 10000
set_option maxHeartbeats 40000000
/-- Where a result of the reference's parser stands. -/
def ResAt (pos : List Nat) (res : ParR) (x : NodeM) (j : Nat) (e : Int) : Prop :=
  match res with
  | .ok y k => e = 1 ∧ x = y ∧ pos[j]? = some k
  | .err k => e = 0 ∧ pos[j]? = some k
theorem ResAt.has {pos : List Nat} {res : ParR} {x : NodeM} {j : Nat} {e : Int} (h : ResAt pos res x j e) : ∃ k, pos[j]? = some k := by
  cases res with
  | ok y k => exact ⟨k, h.2.2⟩
  | err k => exact ⟨k, h.2⟩
theorem ResAt.ok {pos : List Nat} {res : ParR} {x : NodeM} {j : Nat} (h : ResAt pos res x j 1) : ∃ y k, res = .ok y k ∧ x = y ∧ pos[j]? = some k := by
  cases res with
  | ok y k => exact ⟨y, k, rfl, h.2.1, h.2.2⟩
  | err k => exact absurd h.1 (by decide)
/-- The numbers after a letter. -/
noncomputable def numR (s : ByteArray) (J : Nat) : Nat → Nat → Int → Int → Nat → Option ParR
  | 0, _, A, B, k => some (.ok (.mk J A B []) k)
  | l + 1, t, A, B, k =>
    match numM (tokB s k) with
    | none => some (.err k)
    | some a => numR s J l (t + 1) (if t = 0 then (a : Nat) else A) (if t = 0 then B else (a : Nat)) (nxtM s k)
theorem tokB_le {s : ByteArray} {k : Nat} (h : k ≤ s.size) : (tokB s k).size ≤ s.size := by
  have := tok_le h
  omega
theorem num_sing {s : ByteArray} {m k J M : Nat} (h : (J = 0 ∧ M = 0) ∨ (J = 1 ∧ M = 1) ∨ (J = 2 ∧ M = 1) ∨ (J = 3 ∧ M = 2)) : (match some J with
      | none => some (.err k)
      | some o =>
        if subsM o = 2 then
          if tokB s (nxtM s k) = leftT then
            match readF s m 1 (nxtM s (nxtM s k)) with
            | some (.ok a k1) =>
              if tokB s k1 = untilT then
                match readF s m 1 (nxtM s k1) with
                | some (.ok b k2) => if tokB s k2 = rightT then some (.ok (.mk o 0 0 [a, b]) (nxtM s k2)) else some (.err k2)
                | r => r
              else some (.err k1)
            | r => r
          else some (.err (nxtM s k))
        else if subsM o = 1 then
          match singF s m (nxtM s k) with
          | some (.ok x k') => some (.ok (.mk o 0 0 [x]) k')
          | r => r
        else if o = 0 then some (.ok (.mk 0 0 0 []) (nxtM s k))
        else match numM (tokB s (nxtM s k)) with
          | none => some (.err (nxtM s k))
          | some a =>
            if o = 3 then
              match numM (tokB s (nxtM s (nxtM s k))) with
              | none => some (.err (nxtM s (nxtM s k)))
              | some b => some (.ok (.mk 3 (a : Nat) (b : Nat) []) (nxtM s (nxtM s (nxtM s k))))
            else some (.ok (.mk o (a : Nat) 0 []) (nxtM s (nxtM s k)))) = numR s J M 0 0 0 (nxtM s k) := by
  rcases h with ⟨rfl, rfl⟩ | ⟨rfl, rfl⟩ | ⟨rfl, rfl⟩ | ⟨rfl, rfl⟩
  · rfl
  · dsimp only
    rw [if_neg (by decide), if_neg (by decide), if_neg (by decide), numR]
    cases numM (tokB s (nxtM s k)) with
    | none => rfl
    | some a => rfl
  · dsimp only
    rw [if_neg (by decide), if_neg (by decide), if_neg (by decide), numR]
    cases numM (tokB s (nxtM s k)) with
    | none => rfl
    | some a => rfl
  · dsimp only
    rw [if_neg (by decide), if_neg (by decide), if_neg (by decide), numR]
    cases numM (tokB s (nxtM s k)) with
    | none => rfl
    | some a =>
      dsimp only
      rw [if_pos rfl, numR]
      cases numM (tokB s (nxtM s (nxtM s k))) with
      | none => rfl
      | some b => rfl
theorem rsingle_w {s : ByteArray} {pos : List Nat} {ta m : Nat} (hP : PosOK s pos) (hpl : pos.length ≤ 1000001) (hs : s.size ≤ 1000000) (hR : RLevOK s pos ta m) (hS : RSinOK s pos ta m) : RSinOK s pos ta (m + 1) := by
  intro i k g n h hi hm
  have hle := (hP i k hi).1
  have hta := h.tan
  have HTOK : Hide (∀ j k, pos[j]? = some k → loadB (some (false, 1)) (g ta) (j * 2) = some (.lit (.string (tokB s k)))) := ⟨fun j k hj => by have := (row_tok (z := 1) h.toks hj).1; rwa [Nat.zero_add] at this⟩
  have r1 := HTOK.out i k hi
  have hiI : (i : Int) < (pos.length : Int) := by have := (List.getElem?_eq_some_iff.1 hi).1; omega
  have HH := Hide.mk h
  have HP := Hide.mk hP
  have HPI := Hide.mk hi
  have HR := Hide.mk hR
  have HS := Hide.mk hS
  have htan : ¬ta = n := by omega
  clear h hP hi hR hS
  by_cases ht : tokB s k = openT
  · have hk : k < s.size := tok_full hle ht (by decide)
    have hnk := nxtM_lt hk
    have hnl := nxtM_le hle
    have HN := Hide.mk ((HP.out i k HPI.out).2 hk)
    have HTT := Hide.mk ht
    have ht' : tokB s k = ⟨#[40]⟩ := ht
    rw [ht'] at r1
    clear ht ht'
    refine WC.enterP (noO_ok _ _) hG pl64 Tryd.func64 rfl (by decide +kernel) (Nat.le_of_ble_eq_true (by kernel_rfl)) ?_
    iterate 12 (all_goals try (first | with_reducible refine splitI (fun h => ?_) (fun h => ?_) | with_reducible refine splitBI (fun h => ?_) (fun h => ?_) | simp (config := { maxSteps := 1000000 }) (disch := first | assumption | omega | (simp; done) | fail) [Tryd.results64, *]))
    refine WC.mono (HR.out 1 (i + 1) (nxtM s k) _ _ (HH.out.keep (by omega) (fun a ha => (by simp (disch := omega) only [gput_lt]))) HN.out (by omega) (by omega) (by omega)) ?_
    rintro _ ⟨res, hrd, x, op, qa, qb, sv, j, e, g1, n1, rfl, hn1, hg1, hfr, hend⟩
    have h1c := repN_c hfr.rep
    have hend' : ResAt pos res x j e := hend
    obtain ⟨kk, hkk⟩ := hend'.has
    have e1 : g1 n = some (.cells [.lit (.int .u8 0), .lit (.int .i64 0), .lit (.int .i64 0), .lit (.slice none 0 0), .lit (.int .i64 0), .lit (.int .i64 0)] true 0) := by rw [hg1 n (by omega)]; simp
    have HFR := Hide.mk hfr
    have HRD := Hide.mk hrd
    have HE := Hide.mk hend'
    have HKK := Hide.mk hkk
    have HO1 : Hide (∀ a, a < n → g1 a = g a) := ⟨fun a ha => by rw [hg1 a (by omega)]; simp (disch := omega) only [gput_lt]⟩
    clear hg1 hrd hfr hend hkk hend'
    iterate 12 (all_goals try (first | with_reducible refine splitI (fun h => ?_) (fun h => ?_) | with_reducible refine splitBI (fun h => ?_) (fun h => ?_) | simp (config := { maxSteps := 1000000 }) (disch := first | assumption | omega | (simp; done) | fail) [Tryd.results64, *]))
    refine WC.mono (rneed_w (HH.out.keep (by omega) (fun a ha => HO1.out a ha)) op qa qb sv h1c j kk HKK.out hpl e ⟨#[41]⟩) ?_
    rintro _ ⟨j2, e2, g2, n2, rfl, hn2, hg2, hc⟩
    have h1a : allOne [.lit (.int .u8 op), .lit (.int .i64 qa), .lit (.int .i64 qb), sv, .lit (.int .i64 j2), .lit (.int .i64 e2)] = true := by simp [h1c]
    have hrs : ∃ res, singF s (m + 1) k = some res ∧ ResAt pos res x j2 e2 := by
      rcases hc with ⟨⟨rfl, htr⟩, rfl, rfl⟩ | ⟨htr, rfl, rfl⟩
      · obtain ⟨y, k2, rfl, rfl, hj⟩ := HE.out.ok
        have hk2 : kk = k2 := Option.some.inj (HKK.out.symm.trans hj)
        subst hk2
        have hgd := (read_good m).1 _ _ _ _ hnl HRD.out
        have hk5 : kk < s.size := tok_full hgd.2.1 htr (by decide)
        refine ⟨.ok x (nxtM s kk), ?_, rfl, rfl, (HP.out j _ HKK.out).2 hk5⟩
        rw [singF, if_pos (show tokB s k = openT from HTT.out), HRD.out]
        exact if_pos htr
      · cases res with
        | ok y k2 =>
          obtain ⟨rfl, rfl, hj⟩ := HE.out
          have hk2 : kk = k2 := Option.some.inj (HKK.out.symm.trans hj)
          subst hk2
          refine ⟨.err kk, ?_, rfl, HKK.out⟩
          rw [singF, if_pos (show tokB s k = openT from HTT.out), HRD.out]
          exact if_neg (fun h => htr ⟨rfl, h⟩)
        | err k2 =>
          obtain ⟨rfl, hj⟩ := HE.out
          refine ⟨.err k2, ?_, rfl, hj⟩
          rw [singF, if_pos (show tokB s k = openT from HTT.out), HRD.out]
    have HRS := Hide.mk hrs
    have e2n := (hg2 n (by omega)).trans e1
    have HG2 := Hide.mk hg2
    clear hg2 hrs hc
    iterate 12 (all_goals try (first | with_reducible refine splitI (fun h => ?_) (fun h => ?_) | with_reducible refine splitBI (fun h => ?_) (fun h => ?_) | simp (config := { maxSteps := 1000000 }) (disch := first | assumption | omega | (simp; done) | fail) [Tryd.results64, *]))
    obtain ⟨res, h8, h9⟩ := HRS.out
    refine ⟨_, h8, x, op, qa, qb, sv, j2, e2, _, _, rfl, by omega, fun a ha => ?_, HFR.out.keep (by omega) (by omega) (fun a h4 h5 => by rw [gput_ne (by omega), HG2.out a (by omega)]), h9⟩
    rw [gput_lt ha, HG2.out a (by omega)]; exact HO1.out a ha
  have HTT := Hide.mk ht
  have ht' : ¬tokB s k = ⟨#[40]⟩ := ht
  clear ht
  refine WC.enterP (noO_ok _ _) hG pl64 Tryd.func64 rfl (by decide +kernel) (Nat.le_of_ble_eq_true (by kernel_rfl)) ?_
  iterate 12 (all_goals try (first | with_reducible refine splitI (fun h => ?_) (fun h => ?_) | with_reducible refine splitBI (fun h => ?_) (fun h => ?_) | simp (config := { maxSteps := 1000000 }) (disch := first | assumption | omega | (simp; done) | fail) [Tryd.results64, *]))
  refine LX.ind (fun m' gf H' => ∃ (j n' : Nat) (g' : Nat → Option Blk), j ≤ 15 ∧ m' = 15 - j ∧ H' = ⟨.fn g', n'⟩ ∧ n < n' ∧ (∀ b, b < n → g' b = g b) ∧ g' n = some (.cells [.lit (.int .u8 0), .lit (.int .i64 0), .lit (.int .i64 0), .lit (.slice none 0 0), .lit (.int .i64 0), .lit (.int .i64 0)] true 0) ∧
    gf 0 = some (.slq ta 0 pos.length 0) ∧ gf 1 = some (.lit (.int .i64 i)) ∧ gf 4 = some (.ptr n 0) ∧ gf 5 = some (.lit (.int .u8 j)) ∧ opOf (tokB s k) = opFrom (tokB s k) ((List.range 15).drop j)) (m0 := 15) ?_ ?_
  · exact ⟨0, n + 1, _, by omega, rfl, rfl, by omega, fun b hb => (by simp (disch := omega) only [gput_lt]), by simp, by simp, by simp, by simp, by simp, rfl⟩
  rintro m' gf H' ⟨j, n', g', hj, rfl, rfl, hn', hg', hz', q0, q1, q4, q5, hop⟩ ih
  refine LX.roundP (noO_ok _ _) hG pl64 (by decide +kernel) ?_
  have r2 := r1
  rw [← hg' ta hta] at r2
  clear r1
  have HG := Hide.mk hg'
  have HOP := Hide.mk hop
  have htan' : ¬ta = n' := by omega
  clear hg' hop
  by_cases hlt : j < 15
  · have hjI : (j : Int) ≤ 14 := by omega
    have hop2 := HOP.out
    rw [range_drop hlt, opFrom] at hop2
    have HOP2 := Hide.mk hop2
    have hnn' : ¬n = n' := by omega
    clear hop2
    by_cases ht : tokB s k = signB j
    · by_cases h5 : j = 5
      · subst h5
        have hop3 : opOf (tokB s k) = opFrom (tokB s k) ((List.range 15).drop (5 + 1)) := by rw [HOP2.out]; exact if_neg (fun h => by omega)
        have HOP3 := Hide.mk hop3
        clear hop3
        iterate 12 (all_goals try (first | with_reducible refine splitI (fun h => ?_) (fun h => ?_) | with_reducible refine splitBI (fun h => ?_) (fun h => ?_) | simp (config := { maxSteps := 1000000 }) (disch := first | assumption | omega | (simp; done) | fail) [Tryd.results64, *]))
        refine WC.mono (sign_w 5 (by omega) _ _) ?_
        rintro _ rfl
        iterate 12 (all_goals try (first | with_reducible refine splitI (fun h => ?_) (fun h => ?_) | with_reducible refine splitBI (fun h => ?_) (fun h => ?_) | simp (config := { maxSteps := 1000000 }) (disch := first | assumption | omega | (simp; done) | fail) [Tryd.results64, *]))
        refine ih.out (15 - (5 + 1)) _ _ (by omega) ⟨5 + 1, n', _, by omega, rfl, rfl, by omega, HG.out, hz', by simp [*], by simp [*], by simp [*], by simp [*], HOP3.out⟩
      by_cases h6 : j = 6
      · subst h6
        have hop3 : opOf (tokB s k) = opFrom (tokB s k) ((List.range 15).drop (6 + 1)) := by rw [HOP2.out]; exact if_neg (fun h => by omega)
        have HOP3 := Hide.mk hop3
        clear hop3
        iterate 12 (all_goals try (first | with_reducible refine splitI (fun h => ?_) (fun h => ?_) | with_reducible refine splitBI (fun h => ?_) (fun h => ?_) | simp (config := { maxSteps := 1000000 }) (disch := first | assumption | omega | (simp; done) | fail) [Tryd.results64, *]))
        refine WC.mono (sign_w 6 (by omega) _ _) ?_
        rintro _ rfl
        iterate 12 (all_goals try (first | with_reducible refine splitI (fun h => ?_) (fun h => ?_) | with_reducible refine splitBI (fun h => ?_) (fun h => ?_) | simp (config := { maxSteps := 1000000 }) (disch := first | assumption | omega | (simp; done) | fail) [Tryd.results64, *]))
        refine ih.out (15 - (6 + 1)) _ _ (by omega) ⟨6 + 1, n', _, by omega, rfl, rfl, by omega, HG.out, hz', by simp [*], by simp [*], by simp [*], by simp [*], HOP3.out⟩
      have h5I : ¬(j : Int) = 5 := by omega
      have h6I : ¬(j : Int) = 6 := by omega
      have hk : k < s.size := tok_full hle ht (signB_pos (by omega))
      have hnk := nxtM_lt hk
      have hnl := nxtM_le hle
      have HN := Hide.mk ((HP.out i k HPI.out).2 hk)
      have hil : i + 1 < pos.length := (List.getElem?_eq_some_iff.1 HN.out).1
      have hopj : opOf (tokB s k) = some j := by rw [HOP2.out]; exact if_pos ⟨by omega, by omega, ht.symm⟩
      have HOPJ := Hide.mk hopj
      have HO1 : Hide (∀ a, a < n → g' a = g a) := ⟨HG.out⟩
      clear hopj HOP2 HOP
      have hcl : subsM j = 2 ∨ subsM j = 1 ∨ j = 0 ∨ j = 1 ∨ j = 2 ∨ j = 3 := by
        rcases op_cases hlt with rfl | rfl | rfl | rfl | rfl | rfl | rfl | rfl | rfl | rfl | rfl | rfl | rfl | rfl | rfl <;> simp [subsM]
      rcases hcl with hs2 | hs1 | rfl | rfl | rfl | rfl
      · iterate 12 (all_goals try (first | with_reducible refine splitI (fun h => ?_) (fun h => ?_) | with_reducible refine splitBI (fun h => ?_) (fun h => ?_) | simp (config := { maxSteps := 1000000 }) (disch := first | assumption | omega | (simp; done) | fail) [Tryd.results64, *]))
        refine WC.mono (sign_w j hlt _ _) ?_
        rintro _ rfl
        iterate 12 (all_goals try (first | with_reducible refine splitI (fun h => ?_) (fun h => ?_) | with_reducible refine splitBI (fun h => ?_) (fun h => ?_) | simp (config := { maxSteps := 1000000 }) (disch := first | assumption | omega | (simp; done) | fail) [Tryd.results64, *]))
        refine WC.mono (subs_w j hlt _) ?_
        rintro _ rfl
        rw [hs2]
        iterate 12 (all_goals try (first | with_reducible refine splitI (fun h => ?_) (fun h => ?_) | with_reducible refine splitBI (fun h => ?_) (fun h => ?_) | simp (config := { maxSteps := 1000000 }) (disch := first | assumption | omega | (simp; done) | fail) [Tryd.results64, *]))
        refine WC.mono (subs_w j hlt _) ?_
        rintro _ rfl
        rw [hs2]
        iterate 12 (all_goals try (first | with_reducible refine splitI (fun h => ?_) (fun h => ?_) | with_reducible refine splitBI (fun h => ?_) (fun h => ?_) | simp (config := { maxSteps := 1000000 }) (disch := first | assumption | omega | (simp; done) | fail) [Tryd.results64, *]))
        refine WC.mono (rneed_w (HH.out.keep (by omega) (fun a ha => by simp (disch := omega) only [gput_lt]; exact HO1.out a ha)) j 0 0 (.lit (.slice none 0 0)) rfl (i + 1) (nxtM s k) HN.out hpl 1 ⟨#[91]⟩) ?_
        rintro _ ⟨j2, e2, g1, n1, rfl, hn1, hg1, hc⟩
        have e1n : g1 n = some (.cells [.lit (.int .u8 0), .lit (.int .i64 0), .lit (.int .i64 0), .lit (.slice none 0 0), .lit (.int .i64 0), .lit (.int .i64 0)] true 0) := by rw [hg1 n (by omega)]; simp (disch := omega) only [gput_lt]; exact hz'
        have e17 : g1 n' = some (.cells [.lit (.int .u8 j), .lit (.int .i64 0), .lit (.int .i64 0), .lit (.slice none 0 0), .lit (.int .i64 ((i : Int) + 1)), .lit (.int .i64 1)] true 0) := by rw [hg1 n' (by omega)]; simp (disch := omega) only [gput_eq]
        have HO2 : Hide (∀ a, a < n → g1 a = g a) := ⟨fun a ha => by rw [hg1 a (by omega)]; simp (disch := omega) only [gput_lt]; exact HO1.out a ha⟩
        clear hg1
        rcases hc with ⟨⟨_, htl⟩, rfl, rfl⟩ | ⟨htl, rfl, rfl⟩
        · have hk1 : nxtM s k < s.size := tok_full hnl htl (by decide)
          have hnk2 := nxtM_lt hk1
          have hnl2 := nxtM_le hnl
          have HN2 := Hide.mk ((HP.out (i + 1) _ HN.out).2 hk1)
          have HTL := Hide.mk htl
          clear htl
          iterate 12 (all_goals try (first | with_reducible refine splitI (fun h => ?_) (fun h => ?_) | with_reducible refine splitBI (fun h => ?_) (fun h => ?_) | simp (config := { maxSteps := 1000000 }) (disch := first | assumption | omega | (simp; done) | fail) [Tryd.results64, *]))
          refine WC.mono (HR.out 1 (i + 1 + 1) (nxtM s (nxtM s k)) _ _ (HH.out.keep (by omega) (fun a ha => by simp (disch := omega) only [gput_lt]; exact HO2.out a ha)) HN2.out (by omega) (by omega) (by omega)) ?_
          rintro _ ⟨res, hrd, x, op, qa, qb, sv, j3, e3, g2, n2, rfl, hn2, hg2, hfr, hend⟩
          have h1c := repN_c hfr.rep
          have hend' : ResAt pos res x j3 e3 := hend
          obtain ⟨kk, hkk⟩ := hend'.has
          have e2n : g2 n = some (.cells [.lit (.int .u8 0), .lit (.int .i64 0), .lit (.int .i64 0), .lit (.slice none 0 0), .lit (.int .i64 0), .lit (.int .i64 0)] true 0) := by rw [hg2 n (by omega)]; simp (disch := omega) only [gput_lt]; exact e1n
          have HFR := Hide.mk hfr
          have HRD := Hide.mk hrd
          have HE := Hide.mk hend'
          have HKK := Hide.mk hkk
          have HO3 : Hide (∀ a, a < n → g2 a = g a) := ⟨fun a ha => by rw [hg2 a (by omega)]; simp (disch := omega) only [gput_lt]; exact HO2.out a ha⟩
          clear hg2 hrd hfr hend hkk hend'
          iterate 12 (all_goals try (first | with_reducible refine splitI (fun h => ?_) (fun h => ?_) | with_reducible refine splitBI (fun h => ?_) (fun h => ?_) | simp (config := { maxSteps := 1000000 }) (disch := first | assumption | omega | (simp; done) | fail) [Tryd.results64, *]))
          refine WC.mono (rneed_w (HH.out.keep (by omega) (fun a ha => HO3.out a ha)) op qa qb sv h1c j3 kk HKK.out hpl e3 ⟨#[85]⟩) ?_
          rintro _ ⟨j4, e4, g3, n3, rfl, hn3, hg3, hc⟩
          have h1a : allOne [.lit (.int .u8 op), .lit (.int .i64 qa), .lit (.int .i64 qb), sv, .lit (.int .i64 j4), .lit (.int .i64 e4)] = true := by simp [h1c]
          have e3n : g3 n = some (.cells [.lit (.int .u8 0), .lit (.int .i64 0), .lit (.int .i64 0), .lit (.slice none 0 0), .lit (.int .i64 0), .lit (.int .i64 0)] true 0) := by rw [hg3 n (by omega)]; exact e2n
          have hnn3 : ¬n = n3 := by omega
          have hn'3 : ¬n' = n3 := by omega
          have HF3 : Hide (FreshN g3 n1 n3 x [.lit (.int .u8 op), .lit (.int .i64 qa), .lit (.int .i64 qb), sv]) := ⟨HFR.out.keep (Nat.le_refl _) hn3 (fun a h4 h5 => hg3 a h5)⟩
          have HO4 : Hide (∀ a, a < n → g3 a = g a) := ⟨fun a ha => by rw [hg3 a (by omega)]; exact HO3.out a ha⟩
          clear hg3
          rcases hc with ⟨⟨rfl, htu⟩, rfl, rfl⟩ | ⟨htu, rfl, rfl⟩
          · obtain ⟨y1, k2, rfl, rfl, hj3⟩ := HE.out.ok
            have hkk2 : kk = k2 := Option.some.inj (HKK.out.symm.trans hj3)
            subst hkk2
            have hgd := (read_good m).1 _ _ _ _ hnl2 HRD.out
            have hgd1 := hgd.1
            have hgd2 := hgd.2.1
            have hk2 : kk < s.size := tok_full hgd2 htu (by decide)
            have hnk3 := nxtM_lt hk2
            have hnl3 := nxtM_le hgd2
            have HN3 := Hide.mk ((HP.out j3 _ HKK.out).2 hk2)
            have HTU := Hide.mk htu
            have h1a4 : allOne [.lit (.int .u8 op), .lit (.int .i64 qa), .lit (.int .i64 qb), sv, .lit (.int .i64 ((j3 : Int) + 1)), .lit (.int .i64 1)] = true := by simp [h1c]
            clear htu hgd
            iterate 12 (all_goals try (first | with_reducible refine splitI (fun h => ?_) (fun h => ?_) | with_reducible refine splitBI (fun h => ?_) (fun h => ?_) | simp (config := { maxSteps := 1000000 }) (disch := first | assumption | omega | (simp; done) | fail) [Tryd.results64, *]))
            refine WC.mono (HR.out 1 (j3 + 1) (nxtM s kk) _ _ (HH.out.keep (by omega) (fun a ha => by simp (disch := omega) only [gput_lt]; exact HO4.out a ha)) HN3.out (by omega) (by omega) (by omega)) ?_
            rintro _ ⟨res, hrd2, y, op5, ya, yb, sv5, j5, e5, g4, n4, rfl, hn4, hg4, hfr5, hend⟩
            have h1c5 := repN_c hfr5.rep
            have h1a5 : allOne [.lit (.int .u8 op5), .lit (.int .i64 ya), .lit (.int .i64 yb), sv5, .lit (.int .i64 j5), .lit (.int .i64 e5)] = true := by simp [h1c5]
            have h1b : allOne [.lit (.int .u8 op), .lit (.int .i64 qa), .lit (.int .i64 qb), sv] = true := by simp [h1c]
            have h1b5 : allOne [.lit (.int .u8 op5), .lit (.int .i64 ya), .lit (.int .i64 yb), sv5] = true := by simp [h1c5]
            have hend' : ResAt pos res y j5 e5 := hend
            obtain ⟨k5, hk5⟩ := hend'.has
            have e4n : g4 n = some (.cells [.lit (.int .u8 0), .lit (.int .i64 0), .lit (.int .i64 0), .lit (.slice none 0 0), .lit (.int .i64 0), .lit (.int .i64 0)] true 0) := by rw [hg4 n (by omega)]; simp (disch := omega) only [gput_lt]; exact e3n
            have e43 : g4 n3 = some (.cells [.lit (.int .u8 op), .lit (.int .i64 qa), .lit (.int .i64 qb), sv, .lit (.int .i64 ((j3 : Int) + 1)), .lit (.int .i64 1)] true 0) := by rw [hg4 n3 (by omega)]; simp (disch := omega) only [gput_eq]
            have hnn4 : ¬n = n4 := by omega
            have hn34 : ¬n3 = n4 := by omega
            have HFX : Hide (FreshN g4 n1 n4 x [.lit (.int .u8 op), .lit (.int .i64 qa), .lit (.int .i64 qb), sv]) := ⟨HF3.out.keep (Nat.le_refl _) (by omega) (fun a h4 h5 => by rw [hg4 a (by omega)]; simp (disch := omega) only [gput_lt])⟩
            have HFY : Hide (FreshN g4 n1 n4 y [.lit (.int .u8 op5), .lit (.int .i64 ya), .lit (.int .i64 yb), sv5]) := ⟨hfr5.keep (by omega) (Nat.le_refl _) (fun _ _ _ => rfl)⟩
            have HRD2 := Hide.mk hrd2
            have HE5 := Hide.mk hend'
            have HK5 := Hide.mk hk5
            have HO5 : Hide (∀ a, a < n → g4 a = g a) := ⟨fun a ha => by rw [hg4 a (by omega)]; simp (disch := omega) only [gput_lt]; exact HO4.out a ha⟩
            clear hg4 hrd2 hfr5 hend hk5 hend'
            iterate 12 (all_goals try (first | with_reducible refine splitI (fun h => ?_) (fun h => ?_) | with_reducible refine splitBI (fun h => ?_) (fun h => ?_) | simp (config := { maxSteps := 1000000 }) (disch := first | assumption | omega | (simp; done) | fail) [Tryd.results64, *]))
            refine WC.mono (rneed_w (HH.out.keep (by omega) (fun a ha => by simp (disch := omega) only [gput_ne]; exact HO5.out a ha)) j 0 0 (.sl (n4 + 1) 0 2 2) rfl j5 k5 HK5.out hpl e5 ⟨#[93]⟩) ?_
            rintro _ ⟨j6, e6, g6, n6, rfl, hn6, hg6, hc⟩
            have hrs : ∃ res, singF s (m + 1) k = some res ∧ ResAt pos res (.mk j 0 0 [x, y]) j6 e6 := by
              rcases hc with ⟨⟨rfl, htr⟩, rfl, rfl⟩ | ⟨htr, rfl, rfl⟩
              · obtain ⟨y2, k6, rfl, rfl, hj5⟩ := HE5.out.ok
                have hk56 : k5 = k6 := Option.some.inj (HK5.out.symm.trans hj5)
                subst hk56
                have hgd := (read_good m).1 _ _ _ _ hnl3 HRD2.out
                have hk5 : k5 < s.size := tok_full hgd.2.1 htr (by decide)
                refine ⟨.ok (.mk j 0 0 [x, y]) (nxtM s k5), ?_, rfl, rfl, (HP.out j5 _ HK5.out).2 hk5⟩
                rw [singF, if_neg (show ¬tokB s k = openT from HTT.out), HOPJ.out]
                dsimp only
                rw [if_pos hs2, if_pos (show tokB s (nxtM s k) = leftT from HTL.out), HRD.out]
                dsimp only
                rw [if_pos (show tokB s kk = untilT from HTU.out), HRD2.out]
                exact if_pos htr
              · cases res with
                | ok y2 k6 =>
                  obtain ⟨rfl, rfl, hj5⟩ := HE5.out
                  have hk56 : k5 = k6 := Option.some.inj (HK5.out.symm.trans hj5)
                  subst hk56
                  refine ⟨.err k5, ?_, rfl, HK5.out⟩
                  rw [singF, if_neg (show ¬tokB s k = openT from HTT.out), HOPJ.out]
                  dsimp only
                  rw [if_pos hs2, if_pos (show tokB s (nxtM s k) = leftT from HTL.out), HRD.out]
                  dsimp only
                  rw [if_pos (show tokB s kk = untilT from HTU.out), HRD2.out]
                  exact if_neg (fun h => htr ⟨rfl, h⟩)
                | err k6 =>
                  obtain ⟨rfl, hj5⟩ := HE5.out
                  refine ⟨.err k6, ?_, rfl, hj5⟩
                  rw [singF, if_neg (show ¬tokB s k = openT from HTT.out), HOPJ.out]
                  dsimp only
                  rw [if_pos hs2, if_pos (show tokB s (nxtM s k) = leftT from HTL.out), HRD.out]
                  dsimp only
                  rw [if_pos (show tokB s kk = untilT from HTU.out), HRD2.out]
            have HRS := Hide.mk hrs
            have e6n : g6 n = some (.cells [.lit (.int .u8 0), .lit (.int .i64 0), .lit (.int .i64 0), .lit (.slice none 0 0), .lit (.int .i64 0), .lit (.int .i64 0)] true 0) := by rw [hg6 n (by omega)]; simp (disch := omega) only [gput_ne]; exact e4n
            have HG6 := Hide.mk hg6
            clear hg6 hrs hc
            iterate 12 (all_goals try (first | with_reducible refine splitI (fun h => ?_) (fun h => ?_) | with_reducible refine splitBI (fun h => ?_) (fun h => ?_) | simp (config := { maxSteps := 1000000 }) (disch := first | assumption | omega | (simp; done) | fail) [Tryd.results64, *]))
            obtain ⟨res, h8, h9⟩ := HRS.out
            refine ⟨_, h8, .mk j 0 0 [x, y], j, 0, 0, .sl (n4 + 1) 0 2 2, j6, e6, _, _, rfl, by omega, fun a ha => ?_, (FreshN.node (FreshL.two HFX.out HFY.out) rfl (by omega) (S := n4 + 1) (n2 := n6) ?_ (by omega) (by omega) (by omega) ?_).keep (n0 := n) (by omega) (Nat.le_refl _) (fun _ _ _ => rfl), h9⟩
            · simp (disch := omega) only [gput_ne, gput_lt]; rw [HG6.out a (by omega)]; simp (disch := omega) only [gput_ne]; exact HO5.out a ha
            · simp (disch := omega) only [gput_ne]; rw [HG6.out (n4 + 1) (by omega)]; simp (disch := omega) only [gput_ne, gput_eq]; rfl
            · intro a h4 h5
              simp (disch := omega) only [gput_ne]; rw [HG6.out a (by omega)]; simp (disch := omega) only [gput_ne]
          · have hrs : ∃ res, singF s (m + 1) k = some res ∧ ResAt pos res x j4 0 := by
              cases res with
              | ok y2 k6 =>
                obtain ⟨rfl, rfl, hj5⟩ := HE.out
                have hk56 : kk = k6 := Option.some.inj (HKK.out.symm.trans hj5)
                subst hk56
                refine ⟨.err kk, ?_, rfl, HKK.out⟩
                rw [singF, if_neg (show ¬tokB s k = openT from HTT.out), HOPJ.out]
                dsimp only
                rw [if_pos hs2, if_pos (show tokB s (nxtM s k) = leftT from HTL.out), HRD.out]
                exact if_neg (fun h => htu ⟨rfl, h⟩)
              | err k6 =>
                obtain ⟨rfl, hj5⟩ := HE.out
                refine ⟨.err k6, ?_, rfl, hj5⟩
                rw [singF, if_neg (show ¬tokB s k = openT from HTT.out), HOPJ.out]
                dsimp only
                rw [if_pos hs2, if_pos (show tokB s (nxtM s k) = leftT from HTL.out), HRD.out]
            have HRS := Hide.mk hrs
            clear hrs htu
            iterate 12 (all_goals try (first | with_reducible refine splitI (fun h => ?_) (fun h => ?_) | with_reducible refine splitBI (fun h => ?_) (fun h => ?_) | simp (config := { maxSteps := 1000000 }) (disch := first | assumption | omega | (simp; done) | fail) [Tryd.results64, *]))
            obtain ⟨res, h8, h9⟩ := HRS.out
            refine ⟨_, h8, x, op, qa, qb, sv, j4, 0, _, _, rfl, by omega, fun a ha => ?_, HF3.out.keep (by omega) (by omega) (fun a h4 h5 => by simp (disch := omega) only [gput_ne]), h9⟩
            simp (disch := omega) only [gput_ne, gput_lt]; exact HO4.out a ha
        · have hres : singF s (m + 1) k = some (.err (nxtM s k)) := by
            rw [singF, if_neg (show ¬tokB s k = openT from HTT.out), HOPJ.out]
            dsimp only
            rw [if_pos hs2]
            exact if_neg (fun h => htl ⟨rfl, h⟩)
          have HRES := Hide.mk hres
          clear hres htl
          iterate 12 (all_goals try (first | with_reducible refine splitI (fun h => ?_) (fun h => ?_) | with_reducible refine splitBI (fun h => ?_) (fun h => ?_) | simp (config := { maxSteps := 1000000 }) (disch := first | assumption | omega | (simp; done) | fail) [Tryd.results64, *]))
          refine ⟨_, HRES.out, .mk j 0 0 [], j, 0, 0, .lit (.slice none 0 0), i + 1, 0, _, _, rfl, by omega, fun a ha => ?_, FreshN.leaf (by omega), rfl, HN.out⟩
          simp (disch := omega) only [gput_ne, gput_lt]; exact HO2.out a ha
      · iterate 12 (all_goals try (first | with_reducible refine splitI (fun h => ?_) (fun h => ?_) | with_reducible refine splitBI (fun h => ?_) (fun h => ?_) | simp (config := { maxSteps := 1000000 }) (disch := first | assumption | omega | (simp; done) | fail) [Tryd.results64, *]))
        refine WC.mono (sign_w j hlt _ _) ?_
        rintro _ rfl
        iterate 12 (all_goals try (first | with_reducible refine splitI (fun h => ?_) (fun h => ?_) | with_reducible refine splitBI (fun h => ?_) (fun h => ?_) | simp (config := { maxSteps := 1000000 }) (disch := first | assumption | omega | (simp; done) | fail) [Tryd.results64, *]))
        refine WC.mono (subs_w j hlt _) ?_
        rintro _ rfl
        rw [hs1]
        iterate 12 (all_goals try (first | with_reducible refine splitI (fun h => ?_) (fun h => ?_) | with_reducible refine splitBI (fun h => ?_) (fun h => ?_) | simp (config := { maxSteps := 1000000 }) (disch := first | assumption | omega | (simp; done) | fail) [Tryd.results64, *]))
        refine WC.mono (HS.out (i + 1) (nxtM s k) _ _ (HH.out.keep (by omega) (fun a ha => by simp (disch := omega) only [gput_lt]; exact HO1.out a ha)) HN.out (by omega)) ?_
        rintro _ ⟨res, hrd, x, op, qa, qb, sv, j1, e, g1, n1, rfl, hn1, hg1, hfr, hend⟩
        have h1c := repN_c hfr.rep
        have h1a : allOne [.lit (.int .u8 op), .lit (.int .i64 qa), .lit (.int .i64 qb), sv, .lit (.int .i64 j1), .lit (.int .i64 e)] = true := by simp [h1c]
        have h1b : allOne [.lit (.int .u8 op), .lit (.int .i64 qa), .lit (.int .i64 qb), sv] = true := by simp [h1c]
        have hrs : ∃ res, singF s (m + 1) k = some res ∧ ResAt pos res (.mk j 0 0 [x]) j1 e := by
          cases res with
          | ok y k1 =>
            obtain ⟨rfl, rfl, hj⟩ := hend
            refine ⟨.ok (.mk j 0 0 [x]) k1, ?_, rfl, rfl, hj⟩
            rw [singF, if_neg (show ¬tokB s k = openT from HTT.out), HOPJ.out]
            dsimp only
            rw [if_neg (by rw [hs1]; decide), if_pos hs1, hrd]
          | err k1 =>
            obtain ⟨rfl, hj⟩ := hend
            refine ⟨.err k1, ?_, rfl, hj⟩
            rw [singF, if_neg (show ¬tokB s k = openT from HTT.out), HOPJ.out]
            dsimp only
            rw [if_neg (by rw [hs1]; decide), if_pos hs1, hrd]
        have HRS := Hide.mk hrs
        have e1n : g1 n = some (.cells [.lit (.int .u8 0), .lit (.int .i64 0), .lit (.int .i64 0), .lit (.slice none 0 0), .lit (.int .i64 0), .lit (.int .i64 0)] true 0) := by rw [hg1 n (by omega)]; simp (disch := omega) only [gput_lt]; exact hz'
        have hnn1 : ¬n = n1 := by omega
        have HFR := Hide.mk hfr
        have HO2 : Hide (∀ a, a < n → g1 a = g a) := ⟨fun a ha => by rw [hg1 a (by omega)]; simp (disch := omega) only [gput_lt]; exact HO1.out a ha⟩
        clear hg1 hrd hfr hrs hend
        iterate 12 (all_goals try (first | with_reducible refine splitI (fun h => ?_) (fun h => ?_) | with_reducible refine splitBI (fun h => ?_) (fun h => ?_) | simp (config := { maxSteps := 1000000 }) (disch := first | assumption | omega | (simp; done) | fail) [Tryd.results64, *]))
        obtain ⟨res, h8, h9⟩ := HRS.out
        refine ⟨_, h8, .mk j 0 0 [x], j, 0, 0, .sl (n1 + 1) 0 1 1, j1, e, _, _, rfl, by omega, fun a ha => ?_, (FreshN.node (FreshL.one (HFR.out.keep (n0 := n' + 1) (by omega) (Nat.le_refl _) (fun _ _ _ => rfl))) rfl (by omega) (S := n1 + 1) ?_ (by omega) (by omega) (by omega) ?_).keep (n0 := n) (by omega) (Nat.le_refl _) (fun _ _ _ => rfl), h9⟩
        · simp (disch := omega) only [gput_ne, gput_lt]; exact HO2.out a ha
        · simp (disch := omega) only [gput_ne, gput_eq]
        · intro a h4 h5
          simp (disch := omega) only [gput_ne, gput_lt]
      · iterate 12 (all_goals try (first | with_reducible refine splitI (fun h => ?_) (fun h => ?_) | with_reducible refine splitBI (fun h => ?_) (fun h => ?_) | simp (config := { maxSteps := 1000000 }) (disch := first | assumption | omega | (simp; done) | fail) [Tryd.results64, *]))
        refine WC.mono (sign_w 0 (by decide) _ _) ?_
        rintro _ rfl
        iterate 12 (all_goals try (first | with_reducible refine splitI (fun h => ?_) (fun h => ?_) | with_reducible refine splitBI (fun h => ?_) (fun h => ?_) | simp (config := { maxSteps := 1000000 }) (disch := first | assumption | omega | (simp; done) | fail) [Tryd.results64, *]))
        refine WC.mono (subs_w 0 (by decide) _) ?_
        rintro _ rfl
        have HNR : Hide (singF s (m + 1) k = numR s 0 0 0 0 0 (nxtM s k)) := ⟨by
          rw [singF, if_neg (show ¬tokB s k = openT from HTT.out), HOPJ.out]
          exact num_sing (by decide)⟩
        rw [show subsM 0 = 0 from rfl]
        iterate 12 (all_goals try (first | with_reducible refine splitI (fun h => ?_) (fun h => ?_) | with_reducible refine splitBI (fun h => ?_) (fun h => ?_) | simp (config := { maxSteps := 1000000 }) (disch := first | assumption | omega | (simp; done) | fail) [Tryd.results64, *]))
        refine WC.mono (subs_w 0 (by decide) _) ?_
        rintro _ rfl
        rw [show subsM 0 = 0 from rfl]
        iterate 12 (all_goals try (first | with_reducible refine splitI (fun h => ?_) (fun h => ?_) | with_reducible refine splitBI (fun h => ?_) (fun h => ?_) | simp (config := { maxSteps := 1000000 }) (disch := first | assumption | omega | (simp; done) | fail) [Tryd.results64, *]))
        refine LX.ind (fun m' gf H' => ∃ (t jn : Nat) (A B : Int) (kt n1 : Nat) (g1 : Nat → Option Blk), t ≤ 0 ∧ m' = 0 - t ∧ H' = ⟨.fn g1, n1⟩ ∧ n' < n1 ∧ g1 n' = some (.cells [.lit (.int .u8 0), .lit (.int .i64 A), .lit (.int .i64 B), .lit (.slice none 0 0), .lit (.int .i64 (jn : Nat)), .lit (.int .i64 1)] true 0) ∧ (∀ a, a < n → g1 a = g a) ∧ g1 n = some (.cells [.lit (.int .u8 0), .lit (.int .i64 0), .lit (.int .i64 0), .lit (.slice none 0 0), .lit (.int .i64 0), .lit (.int .i64 0)] true 0) ∧
          gf 0 = some (.slq ta 0 pos.length 0) ∧ gf 4 = some (.ptr n 0) ∧ gf 6 = some (.ptr n' 0) ∧ gf 10 = some (.lit (.int .i64 0)) ∧ gf 11 = some (.lit (.int .i64 t)) ∧ jn = i + 1 + t ∧ pos[jn]? = some kt ∧ singF s (m + 1) k = numR s 0 (0 - t) t A B kt) (m0 := 0) ?_ ?_
        · refine ⟨0, i + 1, 0, 0, nxtM s k, n' + 1 + 1, _, by omega, rfl, rfl, by omega, ?_, fun a ha => ?_, ?_, by simp [q0], by simp [q4], by simp, by simp, by simp, rfl, HN.out, HNR.out⟩
          · simp (disch := omega) only [gput_ne, gput_eq]; rfl
          · simp (disch := omega) only [gput_ne, gput_lt]; exact HO1.out a ha
          · simp (disch := omega) only [gput_ne]; exact hz'
        rintro m' gf H' ⟨t, jn, A, B, kt, n1, g1, ht2, rfl, rfl, hn1, hq1, hg1, hz1, w0, w4, w6, w10, w11, hjn, hpt, hld⟩ ih
        have HJN := Hide.mk hjn
        clear hjn
        refine LX.roundP (noO_ok _ _) hG pl64 (by decide +kernel) ?_
        have HG1 := Hide.mk hg1
        have HPT := Hide.mk hpt
        have HLD := Hide.mk hld
        have hta1 := hg1 ta hta
        have hlt1 := (HP.out _ _ hpt).1
        have hnt := (HP.out _ _ hpt).2
        have hpl1 : jn < pos.length := (List.getElem?_eq_some_iff.1 hpt).1
        have hplI : (jn : Int) < (pos.length : Int) := by omega
        have r3 := HTOK.out _ _ hpt
        rw [← hta1] at r3
        have hsz := tokB_le hlt1
        clear hg1 hpt hld hta1 HNR hz'
        by_cases hlt2 : t < 0
        · omega
        · have htM : t = 0 := by omega
          subst htM
          have hres : singF s (m + 1) k = some (.ok (.mk 0 A B []) kt) := by rw [HLD.out, Nat.sub_self, numR]
          have HRES := Hide.mk hres
          clear hres
          iterate 12 (all_goals try (first | with_reducible refine splitI (fun h => ?_) (fun h => ?_) | with_reducible refine splitBI (fun h => ?_) (fun h => ?_) | simp (config := { maxSteps := 1000000 }) (disch := first | assumption | omega | (simp; done) | fail) [Tryd.results64, *]))
          refine ⟨_, HRES.out, .mk 0 A B [], 0, A, B, .lit (.slice none 0 0), jn, 1, _, _, rfl, by omega, fun a ha => ?_, FreshN.leaf (by omega), rfl, rfl, HPT.out⟩
          simp (disch := omega) only [gput_ne, gput_lt]; exact HG1.out a ha
      · iterate 12 (all_goals try (first | with_reducible refine splitI (fun h => ?_) (fun h => ?_) | with_reducible refine splitBI (fun h => ?_) (fun h => ?_) | simp (config := { maxSteps := 1000000 }) (disch := first | assumption | omega | (simp; done) | fail) [Tryd.results64, *]))
        refine WC.mono (sign_w 1 (by decide) _ _) ?_
        rintro _ rfl
        iterate 12 (all_goals try (first | with_reducible refine splitI (fun h => ?_) (fun h => ?_) | with_reducible refine splitBI (fun h => ?_) (fun h => ?_) | simp (config := { maxSteps := 1000000 }) (disch := first | assumption | omega | (simp; done) | fail) [Tryd.results64, *]))
        refine WC.mono (subs_w 1 (by decide) _) ?_
        rintro _ rfl
        have HNR : Hide (singF s (m + 1) k = numR s 1 1 0 0 0 (nxtM s k)) := ⟨by
          rw [singF, if_neg (show ¬tokB s k = openT from HTT.out), HOPJ.out]
          exact num_sing (by decide)⟩
        rw [show subsM 1 = 0 from rfl]
        iterate 12 (all_goals try (first | with_reducible refine splitI (fun h => ?_) (fun h => ?_) | with_reducible refine splitBI (fun h => ?_) (fun h => ?_) | simp (config := { maxSteps := 1000000 }) (disch := first | assumption | omega | (simp; done) | fail) [Tryd.results64, *]))
        refine WC.mono (subs_w 1 (by decide) _) ?_
        rintro _ rfl
        rw [show subsM 1 = 0 from rfl]
        iterate 12 (all_goals try (first | with_reducible refine splitI (fun h => ?_) (fun h => ?_) | with_reducible refine splitBI (fun h => ?_) (fun h => ?_) | simp (config := { maxSteps := 1000000 }) (disch := first | assumption | omega | (simp; done) | fail) [Tryd.results64, *]))
        refine LX.ind (fun m' gf H' => ∃ (t jn : Nat) (A B : Int) (kt n1 : Nat) (g1 : Nat → Option Blk), t ≤ 1 ∧ m' = 1 - t ∧ H' = ⟨.fn g1, n1⟩ ∧ n' < n1 ∧ g1 n' = some (.cells [.lit (.int .u8 1), .lit (.int .i64 A), .lit (.int .i64 B), .lit (.slice none 0 0), .lit (.int .i64 (jn : Nat)), .lit (.int .i64 1)] true 0) ∧ (∀ a, a < n → g1 a = g a) ∧ g1 n = some (.cells [.lit (.int .u8 0), .lit (.int .i64 0), .lit (.int .i64 0), .lit (.slice none 0 0), .lit (.int .i64 0), .lit (.int .i64 0)] true 0) ∧
          gf 0 = some (.slq ta 0 pos.length 0) ∧ gf 4 = some (.ptr n 0) ∧ gf 6 = some (.ptr n' 0) ∧ gf 10 = some (.lit (.int .i64 1)) ∧ gf 11 = some (.lit (.int .i64 t)) ∧ jn = i + 1 + t ∧ pos[jn]? = some kt ∧ singF s (m + 1) k = numR s 1 (1 - t) t A B kt) (m0 := 1) ?_ ?_
        · refine ⟨0, i + 1, 0, 0, nxtM s k, n' + 1 + 1, _, by omega, rfl, rfl, by omega, ?_, fun a ha => ?_, ?_, by simp [q0], by simp [q4], by simp, by simp, by simp, rfl, HN.out, HNR.out⟩
          · simp (disch := omega) only [gput_ne, gput_eq]; rfl
          · simp (disch := omega) only [gput_ne, gput_lt]; exact HO1.out a ha
          · simp (disch := omega) only [gput_ne]; exact hz'
        rintro m' gf H' ⟨t, jn, A, B, kt, n1, g1, ht2, rfl, rfl, hn1, hq1, hg1, hz1, w0, w4, w6, w10, w11, hjn, hpt, hld⟩ ih
        have HJN := Hide.mk hjn
        clear hjn
        refine LX.roundP (noO_ok _ _) hG pl64 (by decide +kernel) ?_
        have HG1 := Hide.mk hg1
        have HPT := Hide.mk hpt
        have HLD := Hide.mk hld
        have hta1 := hg1 ta hta
        have hlt1 := (HP.out _ _ hpt).1
        have hnt := (HP.out _ _ hpt).2
        have hpl1 : jn < pos.length := (List.getElem?_eq_some_iff.1 hpt).1
        have hplI : (jn : Int) < (pos.length : Int) := by omega
        have r3 := HTOK.out _ _ hpt
        rw [← hta1] at r3
        have hsz := tokB_le hlt1
        clear hg1 hpt hld hta1 HNR hz'
        by_cases hlt2 : t < 1
        · have hltI : (t : Int) < 1 := by omega
          iterate 12 (all_goals try (first | with_reducible refine splitI (fun h => ?_) (fun h => ?_) | with_reducible refine splitBI (fun h => ?_) (fun h => ?_) | simp (config := { maxSteps := 1000000 }) (disch := first | assumption | omega | (simp; done) | fail) [Tryd.results64, *]))
          refine WC.mono (rnumber_w (tokB s kt) (by omega) _) ?_
          rintro _ ⟨l, ⟨a, hnm, rfl⟩ | ⟨hnm, rfl⟩, rfl⟩
          · have hkt : kt < s.size := tok_full hlt1 rfl (numM_some hnm).1
            have HNT := Hide.mk (hnt hkt)
            obtain ⟨q, hq⟩ : ∃ q, 1 - t = q + 1 := ⟨1 - t - 1, by omega⟩
            have hq2 : 1 - (t + 1) = q := by omega
            have hst : singF s (m + 1) k = numR s 1 (1 - (t + 1)) (t + 1) (if t = 0 then (a : Nat) else A) (if t = 0 then B else (a : Nat)) (nxtM s kt) := by
              rw [HLD.out, hq, numR, hnm, hq2]
            have HST := Hide.mk hst
            clear hst hnm hq hq2 hnt
            by_cases ht0 : t = 0
            · subst ht0
              iterate 12 (all_goals try (first | with_reducible refine splitI (fun h => ?_) (fun h => ?_) | with_reducible refine splitBI (fun h => ?_) (fun h => ?_) | simp (config := { maxSteps := 1000000 }) (disch := first | assumption | omega | (simp; done) | fail) [Tryd.results64, *]))
              refine ih.out (1 - (0 + 1)) _ _ (by omega) ⟨0 + 1, jn + 1, (a : Nat), B, nxtM s kt, n1, _, by omega, rfl, rfl, by omega, ?_, fun a ha => ?_, ?_, by simp [*], by simp [*], by simp [*], by simp [*], by simp [*], by have := HJN.out; omega, HNT.out, HST.out⟩
              · simp (disch := omega) only [gput_ne, gput_eq]; rfl
              · simp (disch := omega) only [gput_ne, gput_lt]; exact HG1.out a ha
              · simp (disch := omega) only [gput_ne]; exact hz1
            · omega
          · have hres : singF s (m + 1) k = some (.err kt) := by
              obtain ⟨q, hq⟩ : ∃ q, 1 - t = q + 1 := ⟨1 - t - 1, by omega⟩
              rw [HLD.out, hq, numR, hnm]
            have HRES := Hide.mk hres
            clear hres hnm
            iterate 12 (all_goals try (first | with_reducible refine splitI (fun h => ?_) (fun h => ?_) | with_reducible refine splitBI (fun h => ?_) (fun h => ?_) | simp (config := { maxSteps := 1000000 }) (disch := first | assumption | omega | (simp; done) | fail) [Tryd.results64, *]))
            refine ⟨_, HRES.out, .mk 1 A B [], 1, A, B, .lit (.slice none 0 0), jn, 0, _, _, rfl, by omega, fun a ha => ?_, FreshN.leaf (by omega), rfl, HPT.out⟩
            simp (disch := omega) only [gput_ne, gput_lt]; exact HG1.out a ha
        · have htM : t = 1 := by omega
          subst htM
          have hres : singF s (m + 1) k = some (.ok (.mk 1 A B []) kt) := by rw [HLD.out, Nat.sub_self, numR]
          have HRES := Hide.mk hres
          clear hres
          iterate 12 (all_goals try (first | with_reducible refine splitI (fun h => ?_) (fun h => ?_) | with_reducible refine splitBI (fun h => ?_) (fun h => ?_) | simp (config := { maxSteps := 1000000 }) (disch := first | assumption | omega | (simp; done) | fail) [Tryd.results64, *]))
          refine ⟨_, HRES.out, .mk 1 A B [], 1, A, B, .lit (.slice none 0 0), jn, 1, _, _, rfl, by omega, fun a ha => ?_, FreshN.leaf (by omega), rfl, rfl, HPT.out⟩
          simp (disch := omega) only [gput_ne, gput_lt]; exact HG1.out a ha
      · iterate 12 (all_goals try (first | with_reducible refine splitI (fun h => ?_) (fun h => ?_) | with_reducible refine splitBI (fun h => ?_) (fun h => ?_) | simp (config := { maxSteps := 1000000 }) (disch := first | assumption | omega | (simp; done) | fail) [Tryd.results64, *]))
        refine WC.mono (sign_w 2 (by decide) _ _) ?_
        rintro _ rfl
        iterate 12 (all_goals try (first | with_reducible refine splitI (fun h => ?_) (fun h => ?_) | with_reducible refine splitBI (fun h => ?_) (fun h => ?_) | simp (config := { maxSteps := 1000000 }) (disch := first | assumption | omega | (simp; done) | fail) [Tryd.results64, *]))
        refine WC.mono (subs_w 2 (by decide) _) ?_
        rintro _ rfl
        have HNR : Hide (singF s (m + 1) k = numR s 2 1 0 0 0 (nxtM s k)) := ⟨by
          rw [singF, if_neg (show ¬tokB s k = openT from HTT.out), HOPJ.out]
          exact num_sing (by decide)⟩
        rw [show subsM 2 = 0 from rfl]
        iterate 12 (all_goals try (first | with_reducible refine splitI (fun h => ?_) (fun h => ?_) | with_reducible refine splitBI (fun h => ?_) (fun h => ?_) | simp (config := { maxSteps := 1000000 }) (disch := first | assumption | omega | (simp; done) | fail) [Tryd.results64, *]))
        refine WC.mono (subs_w 2 (by decide) _) ?_
        rintro _ rfl
        rw [show subsM 2 = 0 from rfl]
        iterate 12 (all_goals try (first | with_reducible refine splitI (fun h => ?_) (fun h => ?_) | with_reducible refine splitBI (fun h => ?_) (fun h => ?_) | simp (config := { maxSteps := 1000000 }) (disch := first | assumption | omega | (simp; done) | fail) [Tryd.results64, *]))
        refine LX.ind (fun m' gf H' => ∃ (t jn : Nat) (A B : Int) (kt n1 : Nat) (g1 : Nat → Option Blk), t ≤ 1 ∧ m' = 1 - t ∧ H' = ⟨.fn g1, n1⟩ ∧ n' < n1 ∧ g1 n' = some (.cells [.lit (.int .u8 2), .lit (.int .i64 A), .lit (.int .i64 B), .lit (.slice none 0 0), .lit (.int .i64 (jn : Nat)), .lit (.int .i64 1)] true 0) ∧ (∀ a, a < n → g1 a = g a) ∧ g1 n = some (.cells [.lit (.int .u8 0), .lit (.int .i64 0), .lit (.int .i64 0), .lit (.slice none 0 0), .lit (.int .i64 0), .lit (.int .i64 0)] true 0) ∧
          gf 0 = some (.slq ta 0 pos.length 0) ∧ gf 4 = some (.ptr n 0) ∧ gf 6 = some (.ptr n' 0) ∧ gf 10 = some (.lit (.int .i64 1)) ∧ gf 11 = some (.lit (.int .i64 t)) ∧ jn = i + 1 + t ∧ pos[jn]? = some kt ∧ singF s (m + 1) k = numR s 2 (1 - t) t A B kt) (m0 := 1) ?_ ?_
        · refine ⟨0, i + 1, 0, 0, nxtM s k, n' + 1 + 1, _, by omega, rfl, rfl, by omega, ?_, fun a ha => ?_, ?_, by simp [q0], by simp [q4], by simp, by simp, by simp, rfl, HN.out, HNR.out⟩
          · simp (disch := omega) only [gput_ne, gput_eq]; rfl
          · simp (disch := omega) only [gput_ne, gput_lt]; exact HO1.out a ha
          · simp (disch := omega) only [gput_ne]; exact hz'
        rintro m' gf H' ⟨t, jn, A, B, kt, n1, g1, ht2, rfl, rfl, hn1, hq1, hg1, hz1, w0, w4, w6, w10, w11, hjn, hpt, hld⟩ ih
        have HJN := Hide.mk hjn
        clear hjn
        refine LX.roundP (noO_ok _ _) hG pl64 (by decide +kernel) ?_
        have HG1 := Hide.mk hg1
        have HPT := Hide.mk hpt
        have HLD := Hide.mk hld
        have hta1 := hg1 ta hta
        have hlt1 := (HP.out _ _ hpt).1
        have hnt := (HP.out _ _ hpt).2
        have hpl1 : jn < pos.length := (List.getElem?_eq_some_iff.1 hpt).1
        have hplI : (jn : Int) < (pos.length : Int) := by omega
        have r3 := HTOK.out _ _ hpt
        rw [← hta1] at r3
        have hsz := tokB_le hlt1
        clear hg1 hpt hld hta1 HNR hz'
        by_cases hlt2 : t < 1
        · have hltI : (t : Int) < 1 := by omega
          iterate 12 (all_goals try (first | with_reducible refine splitI (fun h => ?_) (fun h => ?_) | with_reducible refine splitBI (fun h => ?_) (fun h => ?_) | simp (config := { maxSteps := 1000000 }) (disch := first | assumption | omega | (simp; done) | fail) [Tryd.results64, *]))
          refine WC.mono (rnumber_w (tokB s kt) (by omega) _) ?_
          rintro _ ⟨l, ⟨a, hnm, rfl⟩ | ⟨hnm, rfl⟩, rfl⟩
          · have hkt : kt < s.size := tok_full hlt1 rfl (numM_some hnm).1
            have HNT := Hide.mk (hnt hkt)
            obtain ⟨q, hq⟩ : ∃ q, 1 - t = q + 1 := ⟨1 - t - 1, by omega⟩
            have hq2 : 1 - (t + 1) = q := by omega
            have hst : singF s (m + 1) k = numR s 2 (1 - (t + 1)) (t + 1) (if t = 0 then (a : Nat) else A) (if t = 0 then B else (a : Nat)) (nxtM s kt) := by
              rw [HLD.out, hq, numR, hnm, hq2]
            have HST := Hide.mk hst
            clear hst hnm hq hq2 hnt
            by_cases ht0 : t = 0
            · subst ht0
              iterate 12 (all_goals try (first | with_reducible refine splitI (fun h => ?_) (fun h => ?_) | with_reducible refine splitBI (fun h => ?_) (fun h => ?_) | simp (config := { maxSteps := 1000000 }) (disch := first | assumption | omega | (simp; done) | fail) [Tryd.results64, *]))
              refine ih.out (1 - (0 + 1)) _ _ (by omega) ⟨0 + 1, jn + 1, (a : Nat), B, nxtM s kt, n1, _, by omega, rfl, rfl, by omega, ?_, fun a ha => ?_, ?_, by simp [*], by simp [*], by simp [*], by simp [*], by simp [*], by have := HJN.out; omega, HNT.out, HST.out⟩
              · simp (disch := omega) only [gput_ne, gput_eq]; rfl
              · simp (disch := omega) only [gput_ne, gput_lt]; exact HG1.out a ha
              · simp (disch := omega) only [gput_ne]; exact hz1
            · omega
          · have hres : singF s (m + 1) k = some (.err kt) := by
              obtain ⟨q, hq⟩ : ∃ q, 1 - t = q + 1 := ⟨1 - t - 1, by omega⟩
              rw [HLD.out, hq, numR, hnm]
            have HRES := Hide.mk hres
            clear hres hnm
            iterate 12 (all_goals try (first | with_reducible refine splitI (fun h => ?_) (fun h => ?_) | with_reducible refine splitBI (fun h => ?_) (fun h => ?_) | simp (config := { maxSteps := 1000000 }) (disch := first | assumption | omega | (simp; done) | fail) [Tryd.results64, *]))
            refine ⟨_, HRES.out, .mk 2 A B [], 2, A, B, .lit (.slice none 0 0), jn, 0, _, _, rfl, by omega, fun a ha => ?_, FreshN.leaf (by omega), rfl, HPT.out⟩
            simp (disch := omega) only [gput_ne, gput_lt]; exact HG1.out a ha
        · have htM : t = 1 := by omega
          subst htM
          have hres : singF s (m + 1) k = some (.ok (.mk 2 A B []) kt) := by rw [HLD.out, Nat.sub_self, numR]
          have HRES := Hide.mk hres
          clear hres
          iterate 12 (all_goals try (first | with_reducible refine splitI (fun h => ?_) (fun h => ?_) | with_reducible refine splitBI (fun h => ?_) (fun h => ?_) | simp (config := { maxSteps := 1000000 }) (disch := first | assumption | omega | (simp; done) | fail) [Tryd.results64, *]))
          refine ⟨_, HRES.out, .mk 2 A B [], 2, A, B, .lit (.slice none 0 0), jn, 1, _, _, rfl, by omega, fun a ha => ?_, FreshN.leaf (by omega), rfl, rfl, HPT.out⟩
          simp (disch := omega) only [gput_ne, gput_lt]; exact HG1.out a ha
      · iterate 12 (all_goals try (first | with_reducible refine splitI (fun h => ?_) (fun h => ?_) | with_reducible refine splitBI (fun h => ?_) (fun h => ?_) | simp (config := { maxSteps := 1000000 }) (disch := first | assumption | omega | (simp; done) | fail) [Tryd.results64, *]))
        refine WC.mono (sign_w 3 (by decide) _ _) ?_
        rintro _ rfl
        iterate 12 (all_goals try (first | with_reducible refine splitI (fun h => ?_) (fun h => ?_) | with_reducible refine splitBI (fun h => ?_) (fun h => ?_) | simp (config := { maxSteps := 1000000 }) (disch := first | assumption | omega | (simp; done) | fail) [Tryd.results64, *]))
        refine WC.mono (subs_w 3 (by decide) _) ?_
        rintro _ rfl
        have HNR : Hide (singF s (m + 1) k = numR s 3 2 0 0 0 (nxtM s k)) := ⟨by
          rw [singF, if_neg (show ¬tokB s k = openT from HTT.out), HOPJ.out]
          exact num_sing (by decide)⟩
        rw [show subsM 3 = 0 from rfl]
        iterate 12 (all_goals try (first | with_reducible refine splitI (fun h => ?_) (fun h => ?_) | with_reducible refine splitBI (fun h => ?_) (fun h => ?_) | simp (config := { maxSteps := 1000000 }) (disch := first | assumption | omega | (simp; done) | fail) [Tryd.results64, *]))
        refine WC.mono (subs_w 3 (by decide) _) ?_
        rintro _ rfl
        rw [show subsM 3 = 0 from rfl]
        iterate 12 (all_goals try (first | with_reducible refine splitI (fun h => ?_) (fun h => ?_) | with_reducible refine splitBI (fun h => ?_) (fun h => ?_) | simp (config := { maxSteps := 1000000 }) (disch := first | assumption | omega | (simp; done) | fail) [Tryd.results64, *]))
        refine LX.ind (fun m' gf H' => ∃ (t jn : Nat) (A B : Int) (kt n1 : Nat) (g1 : Nat → Option Blk), t ≤ 2 ∧ m' = 2 - t ∧ H' = ⟨.fn g1, n1⟩ ∧ n' < n1 ∧ g1 n' = some (.cells [.lit (.int .u8 3), .lit (.int .i64 A), .lit (.int .i64 B), .lit (.slice none 0 0), .lit (.int .i64 (jn : Nat)), .lit (.int .i64 1)] true 0) ∧ (∀ a, a < n → g1 a = g a) ∧ g1 n = some (.cells [.lit (.int .u8 0), .lit (.int .i64 0), .lit (.int .i64 0), .lit (.slice none 0 0), .lit (.int .i64 0), .lit (.int .i64 0)] true 0) ∧
          gf 0 = some (.slq ta 0 pos.length 0) ∧ gf 4 = some (.ptr n 0) ∧ gf 6 = some (.ptr n' 0) ∧ gf 10 = some (.lit (.int .i64 2)) ∧ gf 11 = some (.lit (.int .i64 t)) ∧ jn = i + 1 + t ∧ pos[jn]? = some kt ∧ singF s (m + 1) k = numR s 3 (2 - t) t A B kt) (m0 := 2) ?_ ?_
        · refine ⟨0, i + 1, 0, 0, nxtM s k, n' + 1 + 1, _, by omega, rfl, rfl, by omega, ?_, fun a ha => ?_, ?_, by simp [q0], by simp [q4], by simp, by simp, by simp, rfl, HN.out, HNR.out⟩
          · simp (disch := omega) only [gput_ne, gput_eq]; rfl
          · simp (disch := omega) only [gput_ne, gput_lt]; exact HO1.out a ha
          · simp (disch := omega) only [gput_ne]; exact hz'
        rintro m' gf H' ⟨t, jn, A, B, kt, n1, g1, ht2, rfl, rfl, hn1, hq1, hg1, hz1, w0, w4, w6, w10, w11, hjn, hpt, hld⟩ ih
        have HJN := Hide.mk hjn
        clear hjn
        refine LX.roundP (noO_ok _ _) hG pl64 (by decide +kernel) ?_
        have HG1 := Hide.mk hg1
        have HPT := Hide.mk hpt
        have HLD := Hide.mk hld
        have hta1 := hg1 ta hta
        have hlt1 := (HP.out _ _ hpt).1
        have hnt := (HP.out _ _ hpt).2
        have hpl1 : jn < pos.length := (List.getElem?_eq_some_iff.1 hpt).1
        have hplI : (jn : Int) < (pos.length : Int) := by omega
        have r3 := HTOK.out _ _ hpt
        rw [← hta1] at r3
        have hsz := tokB_le hlt1
        clear hg1 hpt hld hta1 HNR hz'
        by_cases hlt2 : t < 2
        · have hltI : (t : Int) < 2 := by omega
          iterate 12 (all_goals try (first | with_reducible refine splitI (fun h => ?_) (fun h => ?_) | with_reducible refine splitBI (fun h => ?_) (fun h => ?_) | simp (config := { maxSteps := 1000000 }) (disch := first | assumption | omega | (simp; done) | fail) [Tryd.results64, *]))
          refine WC.mono (rnumber_w (tokB s kt) (by omega) _) ?_
          rintro _ ⟨l, ⟨a, hnm, rfl⟩ | ⟨hnm, rfl⟩, rfl⟩
          · have hkt : kt < s.size := tok_full hlt1 rfl (numM_some hnm).1
            have HNT := Hide.mk (hnt hkt)
            obtain ⟨q, hq⟩ : ∃ q, 2 - t = q + 1 := ⟨2 - t - 1, by omega⟩
            have hq2 : 2 - (t + 1) = q := by omega
            have hst : singF s (m + 1) k = numR s 3 (2 - (t + 1)) (t + 1) (if t = 0 then (a : Nat) else A) (if t = 0 then B else (a : Nat)) (nxtM s kt) := by
              rw [HLD.out, hq, numR, hnm, hq2]
            have HST := Hide.mk hst
            clear hst hnm hq hq2 hnt
            by_cases ht0 : t = 0
            · subst ht0
              iterate 12 (all_goals try (first | with_reducible refine splitI (fun h => ?_) (fun h => ?_) | with_reducible refine splitBI (fun h => ?_) (fun h => ?_) | simp (config := { maxSteps := 1000000 }) (disch := first | assumption | omega | (simp; done) | fail) [Tryd.results64, *]))
              refine ih.out (2 - (0 + 1)) _ _ (by omega) ⟨0 + 1, jn + 1, (a : Nat), B, nxtM s kt, n1, _, by omega, rfl, rfl, by omega, ?_, fun a ha => ?_, ?_, by simp [*], by simp [*], by simp [*], by simp [*], by simp [*], by have := HJN.out; omega, HNT.out, HST.out⟩
              · simp (disch := omega) only [gput_ne, gput_eq]; rfl
              · simp (disch := omega) only [gput_ne, gput_lt]; exact HG1.out a ha
              · simp (disch := omega) only [gput_ne]; exact hz1
            · have hst := HST.out
              rw [if_neg ht0, if_neg ht0] at hst
              have HST2 := Hide.mk hst
              have ht0I : ¬(t : Int) = 0 := by omega
              clear hst
              iterate 12 (all_goals try (first | with_reducible refine splitI (fun h => ?_) (fun h => ?_) | with_reducible refine splitBI (fun h => ?_) (fun h => ?_) | simp (config := { maxSteps := 1000000 }) (disch := first | assumption | omega | (simp; done) | fail) [Tryd.results64, *]))
              refine ih.out (2 - (t + 1)) _ _ (by omega) ⟨t + 1, jn + 1, A, (a : Nat), nxtM s kt, n1, _, by omega, rfl, rfl, by omega, ?_, fun a ha => ?_, ?_, by simp [*], by simp [*], by simp [*], by simp [*], by simp [*], by have := HJN.out; omega, HNT.out, HST2.out⟩
              · simp (disch := omega) only [gput_ne, gput_eq]; rfl
              · simp (disch := omega) only [gput_ne, gput_lt]; exact HG1.out a ha
              · simp (disch := omega) only [gput_ne]; exact hz1
          · have hres : singF s (m + 1) k = some (.err kt) := by
              obtain ⟨q, hq⟩ : ∃ q, 2 - t = q + 1 := ⟨2 - t - 1, by omega⟩
              rw [HLD.out, hq, numR, hnm]
            have HRES := Hide.mk hres
            clear hres hnm
            iterate 12 (all_goals try (first | with_reducible refine splitI (fun h => ?_) (fun h => ?_) | with_reducible refine splitBI (fun h => ?_) (fun h => ?_) | simp (config := { maxSteps := 1000000 }) (disch := first | assumption | omega | (simp; done) | fail) [Tryd.results64, *]))
            refine ⟨_, HRES.out, .mk 3 A B [], 3, A, B, .lit (.slice none 0 0), jn, 0, _, _, rfl, by omega, fun a ha => ?_, FreshN.leaf (by omega), rfl, HPT.out⟩
            simp (disch := omega) only [gput_ne, gput_lt]; exact HG1.out a ha
        · have htM : t = 2 := by omega
          subst htM
          have hres : singF s (m + 1) k = some (.ok (.mk 3 A B []) kt) := by rw [HLD.out, Nat.sub_self, numR]
          have HRES := Hide.mk hres
          clear hres
          iterate 12 (all_goals try (first | with_reducible refine splitI (fun h => ?_) (fun h => ?_) | with_reducible refine splitBI (fun h => ?_) (fun h => ?_) | simp (config := { maxSteps := 1000000 }) (disch := first | assumption | omega | (simp; done) | fail) [Tryd.results64, *]))
          refine ⟨_, HRES.out, .mk 3 A B [], 3, A, B, .lit (.slice none 0 0), jn, 1, _, _, rfl, by omega, fun a ha => ?_, FreshN.leaf (by omega), rfl, rfl, HPT.out⟩
          simp (disch := omega) only [gput_ne, gput_lt]; exact HG1.out a ha
    · have hop3 : opOf (tokB s k) = opFrom (tokB s k) ((List.range 15).drop (j + 1)) := by rw [HOP2.out]; exact if_neg (fun h => ht h.2.2.symm)
      have HOP3 := Hide.mk hop3
      clear hop3
      iterate 12 (all_goals try (first | with_reducible refine splitI (fun h => ?_) (fun h => ?_) | with_reducible refine splitBI (fun h => ?_) (fun h => ?_) | simp (config := { maxSteps := 1000000 }) (disch := first | assumption | omega | (simp; done) | fail) [Tryd.results64, *]))
      refine WC.mono (sign_w j (by omega) _ _) ?_
      rintro _ rfl
      iterate 12 (all_goals try (first | with_reducible refine splitI (fun h => ?_) (fun h => ?_) | with_reducible refine splitBI (fun h => ?_) (fun h => ?_) | simp (config := { maxSteps := 1000000 }) (disch := first | assumption | omega | (simp; done) | fail) [Tryd.results64, *]))
      refine ih.out (15 - (j + 1)) _ _ (by omega) ⟨j + 1, n', _, by omega, rfl, rfl, by omega, HG.out, hz', by simp [*], by simp [*], by simp [*], by simp [*], HOP3.out⟩
  · have hj15 : j = 15 := by omega
    subst hj15
    have hres : singF s (m + 1) k = some (.err k) := by rw [singF, if_neg (show ¬tokB s k = openT from HTT.out), HOP.out]; rfl
    have HRES := Hide.mk hres
    clear hres
    iterate 12 (all_goals try (first | with_reducible refine splitI (fun h => ?_) (fun h => ?_) | with_reducible refine splitBI (fun h => ?_) (fun h => ?_) | simp (config := { maxSteps := 1000000 }) (disch := first | assumption | omega | (simp; done) | fail) [Tryd.results64, *]))
    refine ⟨_, HRES.out, .mk 0 0 0 [], 0, 0, 0, .lit (.slice none 0 0), i, 0, _, _, rfl, by omega, fun a ha => ?_, FreshN.leaf (by omega), rfl, HPI.out⟩
    rw [gput_lt ha]; exact HG.out a ha
end Go.Ai
end

section
namespace Go.Ai
open Go.Proofs
set_option maxRecDepth 10000
theorem rpar_ok {s : ByteArray} {pos : List Nat} {ta : Nat} (hP : PosOK s pos) (hpl : pos.length ≤ 1000001) (hs : s.size ≤ 1000000) : ∀ m, m ≤ 100000000 → RLevOK s pos ta m ∧ RSinOK s pos ta m := by
  intro m
  induction m using Nat.strongRecOn with
  | _ m IH =>
  intro hm
  cases m with
  | zero => exact ⟨fun rank i k g n h hi h1 h2 h3 => by omega, fun i k g n h hi h1 => by omega⟩
  | succ m =>
    exact ⟨rlevel_step hP hpl hs (by omega) (fun m' h => (IH m' (by omega) (by omega)).1) (IH m (by omega) (by omega)).2, rsingle_w hP hpl hs (IH m (by omega) (by omega)).1 (IH m (by omega) (by omega)).2⟩
end Go.Ai
end

section
namespace Go.Ai
open Go.Proofs
set_option maxRecDepth 10000
set_option maxHeartbeats 4000000
section
variable {P : Program} {O : CallF} {L : LoopF} {ops : Array Oper} {l : List Oper} {fr : Fr} {u : Mode} {H H' : Mem} {d : Option Tmp} {op : Op} {t : TypeId} {p : String} {af : Array Edge}
theorem seqD_val {v : AV} (h : opV P H fr.ev ⟨d, op, t, p, af, none⟩ = .val v H') : seqOpsD P O ops (⟨d, op, t, p, af, none⟩ :: l) fr u H = seqOpsD P O ops l (fr.put d v) u H' := by
  show (afterD O ⟨d, op, t, p, af, none⟩ fr u (seqOpsD P O ops l) H (opV P H fr.ev ⟨d, op, t, p, af, none⟩)) = _
  rw [h]
  show fr.putK d v _ = _
  rw [Fr.putK_eq]
theorem seqD_skip (h : opV P H fr.ev ⟨d, op, t, p, af, none⟩ = .skip H') : seqOpsD P O ops (⟨d, op, t, p, af, none⟩ :: l) fr u H = seqOpsD P O ops l (fr.put d (.lit undef)) u H' := by
  show (afterD O ⟨d, op, t, p, af, none⟩ fr u (seqOpsD P O ops l) H (opV P H fr.ev ⟨d, op, t, p, af, none⟩)) = _
  rw [h]
  show fr.putK d (.lit undef) _ = _
  rw [Fr.putK_eq]
theorem seqD_rec (h : opV P H fr.ev ⟨d, op, t, p, af, none⟩ = .recover) : seqOpsD P O ops (⟨d, op, t, p, af, none⟩ :: l) fr .returning H = seqOpsD P O ops l (fr.put d (.lit .nilIface)) .returning H := by
  show (afterD O ⟨d, op, t, p, af, none⟩ fr .returning (seqOpsD P O ops l) H (opV P H fr.ev ⟨d, op, t, p, af, none⟩)) = _
  rw [h]
  show fr.putK d (.lit .nilIface) _ = _
  rw [Fr.putK_eq]
end
section
variable {P : Program} {W : WF} {Q : Out → Prop} {fr : Fr} {H : Mem} {ev : Ev} {d : Option Tmp} {ty : TypeId} {p : String} {af : Array Edge} {g : Option (Nat × Bool)}
noncomputable def dfrS (P : Program) (H : Mem) (ev : Ev) (o : Oper) (args : Option (List AV)) (f : Option AV) : R := match args, f with
  | some args, some (.func fn first cap) => .dfr fn cap (first ++ args) H
  | _, _ => opV P H ev o
theorem op_defer {f : Operand} {args : Array Operand} {at_ : Array TypeId} : opV P H ev ⟨d, .defer ⟨.value f, args, at_⟩, ty, p, af, g⟩ = dfrS P H ev ⟨d, .defer ⟨.value f, args, at_⟩, ty, p, af, g⟩ (evals ev args.toList) (ev f) := by
  unfold dfrS
  split
  · rename_i l fn first cap h1 h2
    show deferOp H ev ⟨.value f, args, at_⟩ = _
    unfold deferOp
    dsimp only
    rw [h1]
    dsimp only
    rw [h2]
  · rfl
theorem dfrS_congr {tk : Nat} (_h0 : tick = tk) {o : Oper} {args args' : Option (List AV)} {f f' : Option AV} (h1 : args = args') (h2 : f = f') : dfrS P H ev o args f = dfrS P H ev o args' f' := by rw [h1, h2]
attribute [congr] dfrS_congr
theorem dfrS_some {o : Oper} {args first cap : List AV} {fn : Fn} : dfrS P H ev o (some args) (some (.func fn first cap)) = .dfr fn cap (first ++ args) H := (rfl)
theorem afterW_dfr {o : Oper} {k : Fr → Mem → Prop} {fn : Fn} {cap args : List AV} : afterW W o fr k Q (.dfr fn cap args H) = k ((fr.defer (fn, cap, args)).put o.dst (.lit undef)) H := (rfl)
theorem fr_defer {gf : Nat → Option AV} {ds : List Dfr} {x : Dfr} : (Fr.f gf ds).defer x = Fr.f gf (x :: ds) := (rfl)
attribute [simp] op_defer dfrS_some afterW_dfr fr_defer
end
theorem lastW_ret {P : Program} {fn : Func} {fr : Fr} {K : COut → Prop} {H : Mem} : lastW P fn fr K .returning H = endW P fn.results.toList K fr H := by
  unfold lastW resultsA endW
  dsimp only
  rcases resVars P fr H fn.results.toList with _ | l
  · rfl
  · match l with
    | [] => rfl
    | [_] => rfl
    | _ :: _ :: _ => rfl
theorem leaveX_nil {G : Nat} {P : Program} {O : CallF} {fn : Func} {K : COut → Prop} {H : Mem} {gf : Nat → Option AV} : leaveX G P O fn K (.ret (.f gf []) H) = endW P fn.results.toList K (.f gf []) H := lastW_ret
attribute [simp] leaveX_nil
theorem endDW_ret {P : Program} {g : Func} {K : Mode → Mem → Prop} {fr : Fr} {H : Mem} (hd : fr.defers = []) (hr : g.results.toList = []) (h : K .returning H) : endDW P g K (.norm fr .returning H) := by
  unfold endDW resultsA
  dsimp only
  rw [hd, hr]
  exact h
theorem endDW_rec {P : Program} {g : Func} {K : Mode → Mem → Prop} {fr : Fr} {H : Mem} {v : AV} (hd : fr.defers = []) (hr : g.results.toList = []) (h : K .returning H) : endDW P g K (.norm fr (.recovered v) H) := by
  unfold endDW resultsA
  dsimp only
  rw [hd, hr]
  exact h
theorem XW_skip {G : Nat} {P : Program} {n : Nat} {fr : Fr} {H : Mem} {Q : Out → Prop} (h : Q (.norm fr H)) : XW G P n .skip fr H Q := fun _ _ _ _ ρ _ _ s => wp_skip ⟨_, h, ρ, s⟩
theorem parse_ret {K : COut → Prop} {gf : Nat → Option AV} {g : Nat → Option Blk} {n : Nat} {q x a e : AV}
    (h : endW Tryd.prog Tryd.f16.results.toList K (.f gf [(.func 40, [q, x, a, e], [])]) ⟨.fn (gput (gput g n (some (.cells [] true 0))) n (some (.cells [] true 0))), n + 1⟩) :
    leaveX 6 Tryd.prog noO Tryd.f16 K (.ret (.f gf [(.func 40, [q, x, a, e], [])]) ⟨.fn g, n⟩) := by
  refine ⟨Tryd.f40, _, Tryd.func40, rfl, hb40, by decide +kernel, Nat.le_of_ble_eq_true (by kernel_rfl), ?_⟩
  show execDW 6 Tryd.prog 17 noO (.seq (.region 0 _ false) _) _ _ _ _
  unfold execDW
  unfold execDW
  rw [show ([] ++ [q, x, a, e] : List AV) = [q, x, a, e] from rfl]
  dsimp only
  show (match seqOpsD Tryd.prog noO _ (_ :: _) (frameW [q, x, a, e]) .returning ⟨.fn g, n⟩ with | .bad => False | r => _)
  rw [seqD_rec (by kernel_rfl), seqD_val (v := .lit (.tuple #[.agg #[], .bool false])) (H' := ⟨.fn g, n⟩) (by kernel_rfl), seqD_val (v := .lit (.tuple #[.agg #[], .bool false])) (H' := ⟨.fn g, n⟩) (by kernel_rfl),
    seqD_val (v := .lit (.agg #[])) (H' := ⟨.fn g, n⟩) (by kernel_rfl), seqD_val (v := .lit (.bool false)) (H' := ⟨.fn g, n⟩) (by kernel_rfl),
    seqD_val (v := .ptr n 0) (H' := ⟨.fn (gput g n (some (.cells [] true 0))), n + 1⟩) (by kernel_rfl)]
  rw [seqD_skip (H' := ⟨.fn (gput (gput g n (some (.cells [] true 0))) n (some (.cells [] true 0))), n + 1⟩) ?_]
  rotate_left 1
  · show oStore Tryd.prog ⟨.fn (gput g n (some (.cells [] true 0))), n + 1⟩ 91 (some (.ptr n 0)) (some (.lit (.agg #[]))) = _
    rw [oStore_ptr, show cellsOf (.lit (.agg #[])) = [] from rfl]
    simp
  rw [seqD_val (v := .lit (.bool false)) (H' := ⟨.fn (gput (gput g n (some (.cells [] true 0))) n (some (.cells [] true 0))), n + 1⟩) (by kernel_rfl)]
  show execDW 6 Tryd.prog 17 noO (.seq (.region 1 _ false) (.cond _ _ _)) _ _ _ _
  unfold execDW
  unfold execDW
  dsimp only
  rw [seqD_val (v := .lit (.bool false)) (H' := ⟨.fn (gput (gput g n (some (.cells [] true 0))) n (some (.cells [] true 0))), n + 1⟩) (by kernel_rfl)]
  show execDW 6 Tryd.prog 17 noO (.cond (.tmp 11) _ .skip) _ _ _ _
  unfold execDW
  show execDW 6 Tryd.prog 17 noO .skip _ _ _ _
  refine XW_skip ?_
  refine endDW_ret rfl rfl ?_
  rw [lastW_ret]
  exact h
theorem seqD_recP {P : Program} {O : CallF} {ops : Array Oper} {l : List Oper} {fr : Fr} {H : Mem} {d : Option Tmp} {op : Op} {t : TypeId} {p : String} {af : Array Edge} {v : AV} (h : opV P H fr.ev ⟨d, op, t, p, af, none⟩ = .recover) : seqOpsD P O ops (⟨d, op, t, p, af, none⟩ :: l) fr (.panicking v) H = seqOpsD P O ops l (fr.put d v) (.recovered v) H := by
  show (afterD O ⟨d, op, t, p, af, none⟩ fr (.panicking v) (seqOpsD P O ops l) H (opV P H fr.ev ⟨d, op, t, p, af, none⟩)) = _
  rw [h]
  show fr.putK d v _ = _
  rw [Fr.putK_eq]
theorem parse_panic {K : COut → Prop} {gf : Nat → Option AV} {g : Nat → Option Blk} {n q p x a e : Nat} {k : Int} {c0 c1 c2 c3 c4 c5 c6 c7 : AV} (hq : g q = some (.cells [.ptr p 0] true 0)) (hp : g p = some (.cells [c6, c7, .lit (.int .i64 k)] true 0)) (hx : g x = some (.cells [c0, c1, c2, c3] true 0))
    (ha : g a = some (.cells [c4] true 0)) (he : g e = some (.cells [c5] true 0)) (lq : q < n) (lp : p < n) (lx : x < n) (la : a < n) (le : e < n) (nxa : ¬x = a) (nxe : ¬x = e) (nae : ¬a = e) (nqx : ¬q = x) (npx : ¬p = x) (nqa : ¬q = a) (npa : ¬p = a)
    (h : ∀ g1 n1, n ≤ n1 → (∀ b, b < n → b ≠ x → b ≠ a → b ≠ e → g1 b = g b) → g1 x = some (.cells [.lit (.int .u8 0), .lit (.int .i64 0), .lit (.int .i64 0), .lit (.slice none 0 0)] true 0) → g1 a = some (.cells [.lit (.int .i64 k)] true 0) → g1 e = some (.cells [.lit (.int .i64 4)] true 0) →
      endW Tryd.prog Tryd.f16.results.toList K (.f gf [(.func 40, [.ptr q 0, .ptr x 0, .ptr a 0, .ptr e 0], [])]) ⟨.fn g1, n1⟩) :
    leaveX 6 Tryd.prog noO Tryd.f16 K (.panic (.iface 91 (.agg [])) (.f gf [(.func 40, [.ptr q 0, .ptr x 0, .ptr a 0, .ptr e 0], [])]) ⟨.fn g, n⟩) := by
  refine ⟨Tryd.f40, _, Tryd.func40, rfl, hb40, by decide +kernel, Nat.le_of_ble_eq_true (by kernel_rfl), ?_⟩
  show execDW 6 Tryd.prog 17 noO (.seq (.region 0 _ false) _) _ _ _ _
  unfold execDW
  unfold execDW
  rw [show ([] ++ [.ptr q 0, .ptr x 0, .ptr a 0, .ptr e 0] : List AV) = [.ptr q 0, .ptr x 0, .ptr a 0, .ptr e 0] from rfl]
  dsimp only
  show (match seqOpsD Tryd.prog noO _ (_ :: _) (frameW [.ptr q 0, .ptr x 0, .ptr a 0, .ptr e 0]) _ ⟨.fn g, n⟩ with | .bad => False | r => _)
  rw [seqD_recP (by kernel_rfl), seqD_val (v := .tup [.agg [], .lit (.bool true)]) (H' := ⟨.fn g, n⟩) (by kernel_rfl), seqD_val (v := .tup [.agg [], .lit (.bool true)]) (H' := ⟨.fn g, n⟩) (by kernel_rfl),
    seqD_val (v := .agg []) (H' := ⟨.fn g, n⟩) (by kernel_rfl), seqD_val (v := .lit (.bool true)) (H' := ⟨.fn g, n⟩) (by kernel_rfl),
    seqD_val (v := .ptr n 0) (H' := ⟨.fn (gput g n (some (.cells [] true 0))), n + 1⟩) (by kernel_rfl)]
  rw [seqD_skip (H' := ⟨.fn (gput (gput g n (some (.cells [] true 0))) n (some (.cells [] true 0))), n + 1⟩) ?_]
  rotate_left 1
  · show oStore Tryd.prog ⟨.fn (gput g n (some (.cells [] true 0))), n + 1⟩ 91 (some (.ptr n 0)) (some (.agg [])) = _
    rw [oStore_ptr, show cellsOf (.agg []) = [] from rfl]
    simp
  rw [seqD_val (v := .lit (.bool true)) (H' := ⟨.fn (gput (gput g n (some (.cells [] true 0))) n (some (.cells [] true 0))), n + 1⟩) (by kernel_rfl)]
  show execDW 6 Tryd.prog 17 noO (.seq (.region 1 _ false) (.cond _ _ _)) _ _ _ _
  unfold execDW
  unfold execDW
  dsimp only
  rw [seqD_val (v := .lit (.bool true)) (H' := ⟨.fn (gput (gput g n (some (.cells [] true 0))) n (some (.cells [] true 0))), n + 1⟩) (by kernel_rfl)]
  show execDW 6 Tryd.prog 17 noO (.cond (.tmp 11) _ .skip) _ _ _ _
  unfold execDW
  have hqn : ¬q = n := by omega
  have hpn : ¬p = n := by omega
  have hxn : ¬x = n := by omega
  have han : ¬a = n := by omega
  have hen : ¬e = n := by omega
  have nax : ¬a = x := fun h => nxa h.symm
  have nex : ¬e = x := fun h => nxe h.symm
  have nea : ¬e = a := fun h => nae h.symm
  have HK := Hide.mk h
  clear h
  show execDW 6 Tryd.prog 17 noO (.region 2 _ false) _ _ _ _
  unfold execDW
  rw [seqD_val (v := .agg [.lit (.int .u8 0), .lit (.int .i64 0), .lit (.int .i64 0), .lit (.slice none 0 0)]) (H' := ⟨.fn (gput (gput g n (some (.cells [] true 0))) n (some (.cells [] true 0))), n + 1⟩) (by kernel_rfl)]
  rw [seqD_val (v := .ptr p 0) (H' := ⟨.fn (gput (gput g n (some (.cells [] true 0))) n (some (.cells [] true 0))), n + 1⟩) ?_]
  rotate_left 1
  · show oLoad Tryd.prog ⟨.fn (gput (gput g n (some (.cells [] true 0))) n (some (.cells [] true 0))), n + 1⟩ 87 (some (.ptr q 0)) = _
    simp (disch := first | assumption | omega | (simp; done) | fail) [gput_ne, *]
  rw [seqD_val (v := .ptr p 0) (H' := ⟨.fn (gput (gput g n (some (.cells [] true 0))) n (some (.cells [] true 0))), n + 1⟩) (by kernel_rfl)]
  rw [seqD_val (v := .ptr p 2) (H' := ⟨.fn (gput (gput g n (some (.cells [] true 0))) n (some (.cells [] true 0))), n + 1⟩) (by kernel_rfl)]
  rw [seqD_val (v := .lit (.int .i64 k)) (H' := ⟨.fn (gput (gput g n (some (.cells [] true 0))) n (some (.cells [] true 0))), n + 1⟩) ?_]
  rotate_left 1
  · show oLoad Tryd.prog ⟨.fn (gput (gput g n (some (.cells [] true 0))) n (some (.cells [] true 0))), n + 1⟩ 3 (some (.ptr p 2)) = _
    simp (disch := first | assumption | omega | (simp; done) | fail) [gput_ne, *]
  rw [seqD_skip (H' := ⟨.fn (gput (gput (gput g n (some (.cells [] true 0))) n (some (.cells [] true 0))) x (some (.cells [.lit (.int .u8 0), .lit (.int .i64 0), .lit (.int .i64 0), .lit (.slice none 0 0)] true 0))), n + 1⟩) ?_]
  rotate_left 1
  · show oStore Tryd.prog ⟨.fn (gput (gput g n (some (.cells [] true 0))) n (some (.cells [] true 0))), n + 1⟩ 34 (some (.ptr x 0)) (some (.agg [.lit (.int .u8 0), .lit (.int .i64 0), .lit (.int .i64 0), .lit (.slice none 0 0)])) = _
    simp (disch := first | assumption | omega | (simp; done) | fail) [gput_ne, *]
  rw [seqD_skip (H' := ⟨.fn (gput (gput (gput (gput g n (some (.cells [] true 0))) n (some (.cells [] true 0))) x (some (.cells [.lit (.int .u8 0), .lit (.int .i64 0), .lit (.int .i64 0), .lit (.slice none 0 0)] true 0))) a (some (.cells [.lit (.int .i64 k)] true 0))), n + 1⟩) ?_]
  rotate_left 1
  · show oStore Tryd.prog ⟨.fn (gput (gput (gput g n (some (.cells [] true 0))) n (some (.cells [] true 0))) x (some (.cells [.lit (.int .u8 0), .lit (.int .i64 0), .lit (.int .i64 0), .lit (.slice none 0 0)] true 0))), n + 1⟩ 3 (some (.ptr a 0)) (some (.lit (.int .i64 k))) = _
    simp (disch := first | assumption | omega | (simp; done) | fail) [gput_ne, *]
  rw [seqD_skip (H' := ⟨.fn (gput (gput (gput (gput (gput g n (some (.cells [] true 0))) n (some (.cells [] true 0))) x (some (.cells [.lit (.int .u8 0), .lit (.int .i64 0), .lit (.int .i64 0), .lit (.slice none 0 0)] true 0))) a (some (.cells [.lit (.int .i64 k)] true 0))) e (some (.cells [.lit (.int .i64 4)] true 0))), n + 1⟩) ?_]
  rotate_left 1
  · show oStore Tryd.prog ⟨.fn (gput (gput (gput (gput g n (some (.cells [] true 0))) n (some (.cells [] true 0))) x (some (.cells [.lit (.int .u8 0), .lit (.int .i64 0), .lit (.int .i64 0), .lit (.slice none 0 0)] true 0))) a (some (.cells [.lit (.int .i64 k)] true 0))), n + 1⟩ 38 (some (.ptr e 0)) (some (.lit (.int .i64 4))) = _
    simp (disch := first | assumption | omega | (simp; done) | fail) [gput_ne, *]
  refine endDW_rec rfl rfl ?_
  rw [lastW_ret]
  refine HK.out _ _ (by omega) (fun b h1 h2 h3 h4 => ?_) ?_ ?_ ?_
  · rw [gput_ne h4, gput_ne h3, gput_ne h2, gput_lt h1, gput_lt h1]
  · rw [gput_ne nxe, gput_ne nxa, gput_same]
  · rw [gput_ne nae, gput_same]
  · rw [gput_same]
end Go.Ai
end

section
namespace Go.Ai
open Go.Proofs
set_option maxRecDepth 10000
set_option maxHeartbeats 40000000
theorem small_w : ∀ (m : Nat), m ≤ 1000000 → ∀ (x : NodeM), sizeN x ≤ m → ∀ (g : Nat → Option Blk) (n p : Nat) (cs : List AV) (left : Int), repN g n x cs → p < n → g p = some (.cells [.lit (.int .i64 left)] true 0) → 0 ≤ left → left ≤ 1000000 →
    WC 6 Tryd.prog 43 [.agg cs, .ptr p 0] ⟨.fn g, n⟩ fun r => r = .ret (.lit (.bool (smallM x left).1)) ⟨.fn (gput g p (some (.cells [.lit (.int .i64 (smallM x left).2)] true 0))), n⟩ := by
  intro m
  induction m with
  | zero => intro _ x hx; cases x; unfold sizeN at hx; omega
  | succ m ihm =>
    intro hm x hx g n p cs left hr hp hgp h0 h1
    have IH := Hide.mk ihm
    clear ihm
    refine WC.drop2 rfl rfl ?_
    cases x with
    | mk op k kb subs =>
      obtain ⟨hop, sv, rfl, hsv⟩ := hr
      rw [smallM]
      obtain ⟨sv', hq⟩ : ∃ sv', Hide (sv' = sv) := ⟨_, ⟨rfl⟩⟩
      have hsz : sizeL subs ≤ m := by unfold sizeN at hx; omega
      have hlen : subs.length ≤ 1000000 := Nat.le_trans (len_size subs) (by omega)
      rcases hsv with ⟨hsub, rfl | rfl⟩ | ⟨a, off, r, han, ⟨c, rfl⟩ | ⟨c, rfl⟩, hrow, hrep⟩
      all_goals refine WC.enterP (noO_ok _ _) hG [] Tryd.func43 rfl (by decide +kernel) (Nat.le_of_ble_eq_true (by kernel_rfl)) ?_
      all_goals iterate 14 (all_goals try (first | with_reducible refine splitI (fun h => ?_) (fun h => ?_) | with_reducible refine splitBI (fun h => ?_) (fun h => ?_) | simp (disch := first | assumption | omega | (simp; done) | fail) [Tryd.results43, *]))
      all_goals
        refine LX.ind (fun m gf H' => ∃ (k n' : Nat) (g' : Nat → Option Blk) (left' : Int), k ≤ subs.length ∧ m = subs.length - k ∧ H' = ⟨.fn g', n'⟩ ∧ n ≤ n' ∧ (∀ b, b < n → b ≠ p → g' b = g b) ∧ g' p = some (.cells [.lit (.int .i64 left')] true 0) ∧
          -1 ≤ left' ∧ left' ≤ 1000000 ∧ gf 1 = some (.ptr p 0) ∧ gf 13 = some sv' ∧ gf 14 = some (.lit (.int .i64 subs.length)) ∧ gf 15 = some (.lit (.int .i64 k)) ∧ smallL subs (left - 1) = smallL (subs.drop k) left') (m0 := subs.length) ?_ ?_
        · refine ⟨0, _, _, left - 1, Nat.zero_le _, rfl, rfl, by omega, fun b hb hne => ?_, ?_, by omega, by omega, by simp, by simp [hq.out], by simp [*], by simp, rfl⟩
          · unfold gput; rw [if_neg hne, if_neg (Nat.ne_of_lt hb)]
          · unfold gput; rw [if_pos rfl]
        rintro m' gf H' ⟨k, n', g', left', hk, rfl, rfl, hn', hg', hgp', hl0, hl1, g1, g13, g14, g15, hc⟩ ih
        refine LX.roundP (noO_ok _ _) hG [] (by decide +kernel) ?_
        rw [hq.out] at g13
        have HG := Hide.mk hg'
        have HC := Hide.mk hc
        clear hg' hc
        by_cases hlt : k < subs.length
        · first
          | (exfalso; rw [hsub] at hlt; simp at hlt; done)
          | (have hy0 := repL_at hrep k hlt
             have hrl := repL_len hrep
             have hap : a ≠ p := row_ne hrow hgp (by omega)
             have hrow' := (hrow.mono (HG.out a han hap)).agg (k := k * 4) (s := 4) (by omega)
             have hdrop : subs.drop k = subs[k] :: subs.drop (k + 1) := List.drop_eq_getElem_cons hlt
             have hszy : sizeN subs[k] ≤ m := Nat.le_trans (size_mem (List.getElem_mem hlt)) hsz
             generalize subs[k] = y at hy0 hdrop hszy
             obtain ⟨k2, k3, sv2, hcy, h1c, hop2⟩ := repN_one hy0
             rw [hcy] at hrow' hy0
             have h1a : allOne [.lit (.int .u8 y.op), .lit (.int .i64 k2), .lit (.int .i64 k3), sv2] = true := by simp [h1c]
             have HY := Hide.mk hy0
             have HD := Hide.mk hdrop
             have HR := Hide.mk hrep
             have HR2 := Hide.mk hrow
             clear hy0 hdrop hrep hrow hcy hrl
             iterate 14 (all_goals try (first | with_reducible refine splitI (fun h => ?_) (fun h => ?_) | with_reducible refine splitBI (fun h => ?_) (fun h => ?_) | simp (disch := first | assumption | omega | (simp; done) | fail) [Tryd.results43, *]))
             · refine ⟨_, _, ⟨?_, rfl, rfl⟩, by omega, fun b hb hne => (gput_lt (by omega)).trans (HG.out b hb hne), ?_⟩
               · rw [HC.out, HD.out, smallL, if_pos h]
               · rw [gput_lt (by omega), hgp', HC.out, HD.out, smallL, if_pos h]
             · have hge : ¬left' < 0 := h
               have hlo := smallM_lo y left' (by omega)
               refine (IH.out (by omega) y hszy _ _ p _ left' (repN_put (b' := n' + 1) (by omega) (fun a ha hne => (gput_lt (by omega)).trans (HG.out a ha hne)) hgp ((gput_lt (by omega)).trans hgp') HY.out) (by omega) ((gput_lt (by omega)).trans hgp') (by omega) hl1).mono ?_
               rintro _ rfl
               iterate 10 (all_goals try (first | with_reducible refine splitI (fun h => ?_) (fun h => ?_) | with_reducible refine splitBI (fun h => ?_) (fun h => ?_) | simp (disch := first | assumption | omega | (simp; done) | fail) [Tryd.results43, *]))
               · refine ih.out (subs.length - (k + 1)) _ _ (by omega) ⟨k + 1, n' + 1, _, (smallM y left').2, hlt, rfl, rfl, by omega, fun b hb hne => ?_, ?_, hlo.1, by omega, by simp [*], by simp [*, hq.out], by simp [*], by simp, ?_⟩
                 · unfold gput; rw [if_neg hne]; dsimp only; rw [if_neg (by omega)]; exact HG.out b hb hne
                 · unfold gput; rw [if_pos rfl]
                 · rw [HC.out, HD.out, smallL_true hge h]
               · refine ⟨_, _, ⟨?_, rfl, rfl⟩, by omega, fun b hb hne => ?_, ?_⟩
                 · rw [HC.out, HD.out, smallL_false hge h]
                 · unfold gput; rw [if_neg hne]; dsimp only; rw [if_neg (by omega)]; exact HG.out b hb hne
                 · unfold gput; rw [if_pos rfl, HC.out, HD.out, smallL_false hge h])
        · have HDN := Hide.mk (List.drop_eq_nil_of_le (by omega) : subs.drop k = [])
          have hkn : k = subs.length := by omega
          subst hkn
          first | clear hsub | clear hrep hrow
          iterate 10 (all_goals try (first | with_reducible refine splitI (fun h => ?_) (fun h => ?_) | with_reducible refine splitBI (fun h => ?_) (fun h => ?_) | simp (disch := first | assumption | omega | (simp; done) | fail) [Tryd.results43, *]))
          all_goals
            refine ⟨_, _, ⟨?_, rfl, rfl⟩, hn', fun b hb hne => HG.out b hb hne, ?_⟩
            · rw [HC.out, HDN.out, smallL]; simp [h]
            · rw [hgp', HC.out, HDN.out, smallL]
end Go.Ai
end

section
namespace Go.Ai
open Go.Proofs
set_option maxRecDepth 10000
set_option maxHeartbeats 40000000
def ParQ (ret : NodeM × Int × Int) (g : Nat → Option Blk) (n : Nat) (r : COut) : Prop := ∃ cs g' n', r = .ret (.tup [.agg cs, .lit (.int .i64 ret.2.1), .lit (.int .i64 ret.2.2)]) ⟨.fn g', n'⟩ ∧ n ≤ n' ∧ (∀ a, a < n → g' a = g a) ∧ FreshN g' n n' ret.1 cs
theorem Parse_w (s : ByteArray) (g : Nat → Option Blk) (n : Nat) (hg : g 0 = some opsB) (hg1 : g 1 = some (.cells bP false 0)) (hg2 : g 2 = some (.cells bX false 0)) (hge : g 3 = some (.cells bY false 0)) (hn0 : 3 < n) :
    WC 6 Tryd.prog 16 [.lit (.string s)] ⟨.fn g, n⟩ fun r => ParQ (parseM s) g n r := by
  generalize hret : parseM s = ret
  have HRET := Hide.mk hret
  clear hret
  refine WC.enterX (noO_ok _ _) hG [] Tryd.func16 rfl (by decide +kernel) (Nat.le_of_ble_eq_true (by kernel_rfl)) ?_
  by_cases hbig : 65536 < s.size
  · have hbigI : (65536 : Int) < (s.size : Int) := by omega
    have e1 : ret = (.mk 0 0 0 [], 0, 3) := by rw [← HRET.out, parseM, if_pos hbig]
    subst e1
    iterate 12 (all_goals try (first | with_reducible refine splitI (fun h => ?_) (fun h => ?_) | with_reducible refine splitBI (fun h => ?_) (fun h => ?_) | simp (config := { maxSteps := 1000000 }) (disch := first | assumption | omega | (simp; done) | fail) [Tryd.results16, *]))
    refine ⟨_, _, _, rfl, by omega, fun a ha => ?_, FreshN.leaf (by omega)⟩
    simp (disch := omega) only [gput_lt]
  · have hbigI : ¬(65536 : Int) < (s.size : Int) := by omega
    have hs : s.size ≤ 1000000 := by omega
    have HR3 : Hide ((match readF s (20 * s.size + 9) 1 (advM s 0) with
      | some (.err k) => (.mk 0 0 0 [], ((k : Nat) : Int), 4)
      | some (.ok x k) => if tokB s k ≠ ⟨#[]⟩ then (.mk 0 0 0 [], ((k : Nat) : Int), 4) else if (smallM x 64).1 = false then (.mk 0 0 0 [], 0, 3) else (x, 0, 0)
      | none => (.mk 0 0 0 [], 0, 0)) = ret) := ⟨by rw [← HRET.out, parseM]; exact (if_neg hbig).symm⟩
    clear HRET
    iterate 12 (all_goals try (first | with_reducible refine splitI (fun h => ?_) (fun h => ?_) | with_reducible refine splitBI (fun h => ?_) (fun h => ?_) | simp (config := { maxSteps := 1000000 }) (disch := first | assumption | omega | (simp; done) | fail) [Tryd.results16, *]))
    refine WC.mono (next_w s ⟨#[]⟩ 0 (n + 1 + 1 + 1) _ _ hs (by simp) (by omega) (Nat.zero_le _)) ?_
    rintro _ ⟨g1, n1, rfl, hn1, hg1', hp1⟩
    rw [show (0 + (⟨#[]⟩ : ByteArray).size) = 0 from rfl] at hp1
    have old : ∀ a, a < n → g1 a = g a := fun a ha => by rw [hg1' a (by omega) (by omega)]; simp (disch := omega) only [gput_lt]
    have P1 : PAt s (n + 1 + 1 + 1) g1 n1 (advM s 0) := ⟨(old 0 (by omega)).trans hg, (old 1 (by omega)).trans hg1, (old 2 (by omega)).trans hg2, (old 3 (by omega)).trans hge, by omega, by omega, hp1, (advM_le (Nat.zero_le _)).2⟩
    have q1 : g1 (n + 1 + 1 + 1 + 1) = some (.cells [.ptr (n + 1 + 1 + 1) 0] true 0) := by rw [hg1' _ (by omega) (by omega)]; simp
    have x1 : g1 n = some (.cells [.lit (.int .u8 0), .lit (.int .i64 0), .lit (.int .i64 0), .lit (.slice none 0 0)] true 0) := by rw [hg1' _ (by omega) (by omega)]; simp (disch := omega) only [gput_lt, gput_same]
    have a1 : g1 (n + 1) = some (.cells [.lit (.int .i64 0)] true 0) := by rw [hg1' _ (by omega) (by omega)]; simp
    have e1 : g1 (n + 1 + 1) = some (.cells [.lit (.int .i64 0)] true 0) := by rw [hg1' _ (by omega) (by omega)]; simp
    have o1 : Hide (∀ a, a < n → g1 a = g a) := ⟨old⟩
    have HP1 := Hide.mk P1
    clear hg1' P1 hp1 old
    have HRW := Hide.mk (par_ok (p := n + 1 + 1 + 1) hs (20 * s.size + 9) (by omega)).1
    generalize advM s 0 = k0 at *
    iterate 14 (all_goals try (first | with_reducible refine splitI (fun h => ?_) (fun h => ?_) | with_reducible refine splitBI (fun h => ?_) (fun h => ?_) | simp (config := { maxSteps := 1000000 }) (disch := first | assumption | omega | (simp; done) | fail) [Tryd.results16, *]))
    refine WC.mono (HRW.out 1 k0 _ _ HP1.out (by omega) (by omega) (by omega)) ?_
    rintro _ ⟨res, hrd, hend⟩
    have HR4 := HR3.out
    rw [hrd] at HR4
    have HRD := Hide.mk hrd
    clear hrd HR3
    cases res with
    | err k2 =>
      obtain ⟨g2, n2, rfl, hn2, hg2, hp2, hk2⟩ := hend
      dsimp only at HR4
      subst HR4
      have HG2 := Hide.mk hg2
      have q2 := (hg2 _ (by omega) (by omega)).trans q1
      have x2 := (hg2 _ (by omega) (by omega)).trans x1
      have a2 := (hg2 _ (by omega) (by omega)).trans a1
      have e2 := (hg2 _ (by omega) (by omega)).trans e1
      clear hg2
      iterate 14 (all_goals try (first | with_reducible refine splitI (fun h => ?_) (fun h => ?_) | with_reducible refine splitBI (fun h => ?_) (fun h => ?_) | simp (config := { maxSteps := 1000000 }) (disch := first | assumption | omega | (simp; done) | fail) [Tryd.results16, *]))
      unfold parB at hp2
      refine parse_panic q2 hp2 x2 a2 e2 (by omega) (by omega) (by omega) (by omega) (by omega) (by omega) (by omega) (by omega) (by omega) (by omega) (by omega) (by omega) (fun g3 n3 hn3 hg3 gx ga ge => ?_)
      have HG3 := Hide.mk hg3
      clear hg3
      iterate 4 (all_goals try simp (disch := first | assumption | omega | (simp; done) | fail) [Tryd.results16, *])
      have hg3 := HG3.out
      refine ⟨_, _, _, rfl, by omega, fun a ha => ?_, FreshN.leaf (by omega)⟩
      rw [hg3 a (by omega) (by omega) (by omega) (by omega), HG2.out a (by omega) (by omega)]
      exact o1.out a ha
    | ok x k2 =>
      obtain ⟨op, qa, qb, sv2, g2, n2, rfl, hn2, hg2, hp2, hk2, hfr⟩ := hend
      dsimp only at HR4
      have HR5 := Hide.mk HR4
      clear HR4
      have hsz : sizeN x ≤ 1000000 := by
        have := ((read_good _).1 _ _ _ _ HP1.out.le HRD.out).2.2.1
        omega
      have HG2 := Hide.mk hg2
      have q2 := (hg2 _ (by omega) (by omega)).trans q1
      have x2 := (hg2 _ (by omega) (by omega)).trans x1
      have a2 := (hg2 _ (by omega) (by omega)).trans a1
      have e2 := (hg2 _ (by omega) (by omega)).trans e1
      have P2 : PAt s (n + 1 + 1 + 1) g2 n2 k2 := HP1.out.step (by omega) hg2 hp2 hk2
      have HP2 := Hide.mk P2
      clear hg2 P2
      unfold parB at hp2
      have h1c := repN_c hfr.rep
      have h1a : allOne [.lit (.int .u8 op), .lit (.int .i64 qa), .lit (.int .i64 qb), sv2] = true := by simp [h1c]
      have HFR := Hide.mk hfr
      clear hfr
      by_cases hte : tokB s k2 = ⟨#[]⟩
      · rw [hte] at hp2
        have HR6 := HR5.out
        rw [if_neg (fun h => h hte)] at HR6
        have HR7 := Hide.mk HR6
        clear HR6 HR5
        iterate 14 (all_goals try (first | with_reducible refine splitI (fun h => ?_) (fun h => ?_) | with_reducible refine splitBI (fun h => ?_) (fun h => ?_) | simp (config := { maxSteps := 1000000 }) (disch := first | assumption | omega | (simp; done) | fail) [Tryd.results16, *]))
        refine WC.mono (small_w 1000000 (Nat.le_refl _) x hsz _ _ n2 _ 64 ((HFR.out.keep (n0 := n1) (n2 := n2 + 1) (Nat.le_refl _) (by omega) (fun a h1 h2 => by simp (disch := omega) only [gput_lt, gput_gt])).rep) (by omega) (by simp) (by omega) (by omega)) ?_
        rintro _ rfl
        have HN2 : ¬n = n2 := by omega
        cases hck : (smallM x 64).1 with
        | true =>
          have HR8 := HR7.out
          rw [if_neg (by rw [hck]; decide)] at HR8
          subst HR8
          clear HR7 hck
          iterate 14 (all_goals try (first | with_reducible refine splitI (fun h => ?_) (fun h => ?_) | with_reducible refine splitBI (fun h => ?_) (fun h => ?_) | simp (config := { maxSteps := 1000000 }) (disch := first | assumption | omega | (simp; done) | fail) [Tryd.results16, *]))
          refine parse_ret ?_
          iterate 6 (all_goals try (simp (disch := first | assumption | omega | (simp; done) | fail) [Tryd.results16, *]))
          refine ⟨_, _, _, rfl, by omega, fun a ha => ?_, HFR.out.keep (by omega) (by omega) (fun a h1 h2 => ?_)⟩
          · simp (disch := omega) only [gput_lt]
            rw [HG2.out a (by omega) (by omega)]
            exact o1.out a ha
          · simp (disch := omega) only [gput_lt, gput_gt]
        | false =>
          have HR8 := HR7.out
          rw [if_pos hck] at HR8
          subst HR8
          clear HR7 hck
          iterate 14 (all_goals try (first | with_reducible refine splitI (fun h => ?_) (fun h => ?_) | with_reducible refine splitBI (fun h => ?_) (fun h => ?_) | simp (config := { maxSteps := 1000000 }) (disch := first | assumption | omega | (simp; done) | fail) [Tryd.results16, *]))
          refine parse_ret ?_
          iterate 6 (all_goals try (simp (disch := first | assumption | omega | (simp; done) | fail) [Tryd.results16, *]))
          refine ⟨_, _, _, rfl, by omega, fun a ha => ?_, FreshN.leaf (by omega)⟩
          simp (disch := omega) only [gput_lt]
          rw [HG2.out a (by omega) (by omega)]
          exact o1.out a ha
      · have HR6 := HR5.out
        rw [if_pos hte] at HR6
        subst HR6
        clear HR5
        have hteI : ¬tokB s k2 = ⟨#[]⟩ := hte
        iterate 14 (all_goals try (first | with_reducible refine splitI (fun h => ?_) (fun h => ?_) | with_reducible refine splitBI (fun h => ?_) (fun h => ?_) | simp (config := { maxSteps := 1000000 }) (disch := first | assumption | omega | (simp; done) | fail) [Tryd.results16, *]))
        refine parse_panic ((gput_gt (by omega)).trans q2) ((gput_gt (by omega)).trans hp2) gput_same ((gput_gt (by omega)).trans a2) ((gput_gt (by omega)).trans e2) (by omega) (by omega) (by omega) (by omega) (by omega) (by omega) (by omega) (by omega) (by omega) (by omega) (by omega) (by omega) (fun g3 n3 hn3 hg3 gx ga ge => ?_)
        have HG3 := Hide.mk hg3
        clear hg3
        iterate 4 (all_goals try simp (disch := first | assumption | omega | (simp; done) | fail) [Tryd.results16, *])
        have hg3 := HG3.out
        refine ⟨_, _, _, rfl, by omega, fun a ha => ?_, FreshN.leaf (by omega)⟩
        rw [hg3 a (by omega) (by omega) (by omega) (by omega), gput_lt ha, HG2.out a (by omega) (by omega)]
        exact o1.out a ha
end Go.Ai
end

section
namespace Go.Ai
open Go.Proofs
set_option maxRecDepth 10000
set_option maxHeartbeats 40000000
mutual
/-- How many nodes, up to some more than most. -/
def countM : NodeM → Int → Int
  | .mk _ _ _ subs, most => countL subs most 1
def countL : List NodeM → Int → Int → Int
  | [], _, n => n
  | x :: l, most, n => if n ≤ most then countL l most (n + countM x (most - n)) else n
end
mutual
theorem count_le : ∀ (x : NodeM) (most : Int), 1 ≤ countM x most ∧ countM x most ≤ sizeN x
  | .mk _ _ _ subs, most => by
    have := countL_le subs most 1
    unfold countM sizeN
    omega
theorem countL_le : ∀ (l : List NodeM) (most n : Int), n ≤ countL l most n ∧ countL l most n ≤ n + sizeL l
  | [], most, n => by simp [countL, sizeL]
  | x :: l, most, n => by
    have h1 := count_le x (most - n)
    have h2 := countL_le l most (n + countM x (most - n))
    unfold countL sizeL
    split <;> omega
end
mutual
theorem count_eq : ∀ (x : NodeM) (most : Int), countM x most ≤ most → countM x most = sizeN x
  | .mk _ _ _ subs, most, h => by
    unfold countM at h ⊢
    rw [countL_eq subs most 1 h]
    unfold sizeN
    omega
theorem countL_eq : ∀ (l : List NodeM) (most n : Int), countL l most n ≤ most → countL l most n = n + sizeL l
  | [], most, n, _ => by simp [countL, sizeL]
  | x :: l, most, n, h => by
    unfold countL at h ⊢
    split at h
    · rename_i hn
      rw [if_pos hn]
      have h1 := countL_le l most (n + countM x (most - n))
      have h2 := count_eq x (most - n) (by omega)
      have h3 := countL_eq l most (n + countM x (most - n)) h
      rw [h3, h2]
      show _ = n + ((sizeN x + sizeL l : Nat) : Int)
      omega
    · omega
end
theorem count_w : ∀ (m : Nat), m ≤ 1000000 → ∀ (x : NodeM), sizeN x ≤ m → ∀ (g : Nat → Option Blk) (n : Nat) (cs : List AV) (most : Int), 0 ≤ most → most ≤ 1000000 → repN g n x cs →
    WC 6 Tryd.prog 25 [.agg cs, .lit (.int .i64 most)] ⟨.fn g, n⟩ fun r => r = .ret (.lit (.int .i64 (countM x most))) ⟨.fn g, n⟩ := by
  intro m
  induction m with
  | zero => intro _ x hx; cases x; unfold sizeN at hx; omega
  | succ m ihm =>
    intro hm x hx g n cs most hm0 hm1 hr
    have IH := Hide.mk ihm
    clear ihm
    refine WC.drop1 rfl ?_
    cases x with
    | mk op q qb subs =>
      obtain ⟨hop, sv, rfl, hsv⟩ := hr
      generalize hret : countM (.mk op q qb subs) most = ret
      have HRET := Hide.mk hret
      clear hret
      have hsz : sizeL subs ≤ m := by unfold sizeN at hx; omega
      have hlen : subs.length ≤ 1000000 := Nat.le_trans (len_size subs) (by omega)
      obtain ⟨sv', hq⟩ : ∃ sv', Hide (sv' = sv) := ⟨_, ⟨rfl⟩⟩
      have HMO : Hide (ret = countL subs most 1) := ⟨by rw [← HRET.out, countM]⟩
      rcases hsv with ⟨hsub, rfl | rfl⟩ | ⟨a, off, r, han, ⟨c, rfl⟩ | ⟨c, rfl⟩, hrow, hrep⟩
      all_goals refine WC.enterP (noO_ok _ _) hG [] Tryd.func25 rfl (by decide +kernel) (Nat.le_of_ble_eq_true (by kernel_rfl)) ?_
      all_goals
        iterate 12 (all_goals try (first | with_reducible refine splitI (fun h => ?_) (fun h => ?_) | with_reducible refine splitBI (fun h => ?_) (fun h => ?_) | simp (disch := first | assumption | omega | (simp; done) | fail) [Tryd.results25, *]))
        refine LX.ind (fun m gf H' => ∃ (k n' : Nat) (g' : Nat → Option Blk) (cnt : Int), k ≤ subs.length ∧ m = subs.length - k ∧ H' = ⟨.fn g', n'⟩ ∧ n < n' ∧ (∀ b, b < n → g' b = g b) ∧ g' n = some (.cells [.lit (.int .u8 op), .lit (.int .i64 q), .lit (.int .i64 qb), sv'] true 0) ∧
          gf 2 = some (.ptr n 0) ∧ gf 1 = some (.lit (.int .i64 most)) ∧ gf 5 = some (.lit (.int .i64 cnt)) ∧ gf 6 = some (.lit (.int .i64 k)) ∧ 1 ≤ cnt ∧ cnt + sizeL (subs.drop k) ≤ 1000001 ∧ ret = countL (subs.drop k) most cnt) (m0 := subs.length) ?_ ?_
        · exact ⟨0, n + 1, _, 1, Nat.zero_le _, rfl, rfl, by omega, fun b hb => gput_lt hb, by simp [hq.out], by simp, by simp, by simp, by simp, by omega, by rw [List.drop_zero]; omega, HMO.out⟩
        rintro m' gf H' ⟨k, n', g', cnt, hk, rfl, rfl, hn', hg', hgn, g2, g1, g5, g6, hc1, hc2, hc⟩ ih
        refine LX.roundP (noO_ok _ _) hG [] (by decide +kernel) ?_
        rw [hq.out] at hgn
        have HG := Hide.mk hg'
        have HC := Hide.mk hc
        clear hg' hc
        by_cases hlt : k < subs.length
        · first
          | (exfalso; rw [hsub] at hlt; simp at hlt; done)
          | (have hy0 := repL_at hrep k hlt
             have hrl := repL_len hrep
             have hrow' := (hrow.mono (HG.out a han)).agg (k := k * 4) (s := 4) (by omega)
             have hdrop : subs.drop k = subs[k] :: subs.drop (k + 1) := List.drop_eq_getElem_cons hlt
             have hszy : sizeN subs[k] ≤ m := Nat.le_trans (size_mem (List.getElem_mem hlt)) hsz
             rw [hdrop] at hc2
             unfold sizeL at hc2
             generalize subs[k] = y at hy0 hdrop hszy hc2
             obtain ⟨k2, k3, sv2, hcy, h1c, hop2⟩ := repN_one hy0
             rw [hcy] at hrow' hy0
             generalize hop3 : y.op = op2 at hcy hrow' hy0 hop2
             have h1a : allOne [.lit (.int .u8 op2), .lit (.int .i64 k2), .lit (.int .i64 k3), sv2] = true := by simp [h1c]
             have HY := Hide.mk hy0
             have HD := Hide.mk hdrop
             have HR := Hide.mk hrep
             have HR2 := Hide.mk hrow
             have HO := Hide.mk hop3
             have HC2 := Hide.mk hc2
             have hcb : cnt ≤ 1000001 := by omega
             have hlt' : (k : Int) < (subs.length : Int) := by omega
             clear hy0 hdrop hrep hrow hcy hrl hop3 hc2
             by_cases hcm : cnt ≤ most
             · iterate 40 (all_goals try (first | with_reducible refine splitI (fun h => ?_) (fun h => ?_) | with_reducible refine splitBI (fun h => ?_) (fun h => ?_) | simp (disch := first | assumption | omega | (simp; done) | fail) [Tryd.results25, *]))
               refine WC.mono (IH.out (by omega) y hszy _ _ _ (most - cnt) (by omega) (by omega) (repN_mono (b' := n') (by omega) (fun a ha => HG.out a ha) HY.out)) ?_
               rintro _ rfl
               have hcy := count_le y (most - cnt)
               have hcc := HC2.out
               generalize hcy2 : countM y (most - cnt) = cy at hcy
               have HCY := Hide.mk hcy2
               clear hcy2
               iterate 10 (all_goals try (first | with_reducible refine splitI (fun h => ?_) (fun h => ?_) | with_reducible refine splitBI (fun h => ?_) (fun h => ?_) | simp (disch := first | assumption | omega | (simp; done) | fail) [Tryd.results25, *]))
               refine ih.out (subs.length - (k + 1)) _ _ (by omega) ⟨k + 1, n', _, cnt + cy, hlt, rfl, rfl, by omega, HG.out, by simp [*, hq.out], by simp [*], by simp [*], by simp [*], by simp [*], by omega, by omega, ?_⟩
               rw [HC.out, HD.out, countL, if_pos hcm, HCY.out]
             · iterate 40 (all_goals try (first | with_reducible refine splitI (fun h => ?_) (fun h => ?_) | with_reducible refine splitBI (fun h => ?_) (fun h => ?_) | simp (disch := first | assumption | omega | (simp; done) | fail) [Tryd.results25, *]))
               exact ⟨_, ⟨by rw [HC.out, HD.out, countL, if_neg hcm], rfl⟩, ⟨Nat.le_of_lt hn', fun b hb => HG.out b hb⟩⟩)
        · have HDN := Hide.mk (List.drop_eq_nil_of_le (by omega) : subs.drop k = [])
          have hkn : k = subs.length := by omega
          subst hkn
          have hc3 : cnt ≤ 1000001 := by omega
          clear hc2
          first | clear hsub | clear hrep hrow
          iterate 10 (all_goals try (first | with_reducible refine splitI (fun h => ?_) (fun h => ?_) | with_reducible refine splitBI (fun h => ?_) (fun h => ?_) | simp (disch := first | assumption | omega | (simp; done) | fail) [Tryd.results25, *]))
          all_goals first
            | (exfalso; omega)
            | exact ⟨_, ⟨by rw [HC.out, HDN.out, countL], rfl⟩, ⟨Nat.le_of_lt hn', fun b hb => HG.out b hb⟩⟩
end Go.Ai
end

section
namespace Go.Ai
open Go.Proofs
set_option maxRecDepth 10000
set_option maxHeartbeats 40000000
mutual
theorem small_ok' : ∀ (x : NodeM) (left : Int), (sizeN x : Int) ≤ left → smallM x left = (true, left - sizeN x)
  | .mk op k q subs, left, h => by
    have h' : ((sizeL subs + 1 : Nat) : Int) ≤ left := h
    unfold smallM
    rw [smallL_ok' subs (left - 1) (by omega)]
    unfold sizeN
    congr 1
    omega
theorem smallL_ok' : ∀ (l : List NodeM) (left : Int), (sizeL l : Int) ≤ left → smallL l left = (true, left - sizeL l)
  | [], left, h => by
    unfold smallL
    simp only [sizeL] at h ⊢
    simp [show 0 ≤ left by omega]
  | x :: l, left, h => by
    have h' : ((sizeN x + sizeL l : Nat) : Int) ≤ left := h
    unfold smallL
    rw [if_neg (by omega), small_ok' x left (by omega)]
    dsimp only
    rw [smallL_ok' l _ (by omega)]
    simp only [sizeL]
    congr 1
    omega
end
mutual
theorem small_inv : ∀ (x : NodeM) (left : Int), (smallM x left).1 = true → (sizeN x : Int) ≤ left ∧ (smallM x left).2 = left - sizeN x
  | .mk op k q subs, left, h => by
    unfold smallM at h ⊢
    obtain ⟨h1, h2⟩ := smallL_inv subs (left - 1) h
    rw [h2]
    unfold sizeN
    omega
theorem smallL_inv : ∀ (l : List NodeM) (left : Int), (smallL l left).1 = true → (sizeL l : Int) ≤ left ∧ (smallL l left).2 = left - sizeL l
  | [], left, h => by
    simp only [smallL, decide_eq_true_eq] at h
    simp only [smallL, sizeL]
    omega
  | x :: l, left, h => by
    unfold smallL at h ⊢
    by_cases h0 : left < 0
    · rw [if_pos h0] at h; cases h
    rw [if_neg h0] at h ⊢
    have hx := small_inv x left
    generalize smallM x left = p at h hx
    obtain ⟨b, left'⟩ := p
    cases b with
    | false => cases h
    | true =>
      dsimp only at h hx ⊢
      obtain ⟨h1, h2⟩ := hx rfl
      obtain ⟨h3, h4⟩ := smallL_inv l left' h
      rw [h4]
      show ((sizeN x + sizeL l : Nat) : Int) ≤ left ∧ _ = left - ((sizeN x + sizeL l : Nat) : Int)
      omega
end
theorem count_big (x : NodeM) (most : Int) : most < countM x most ↔ most < sizeN x := by
  have h1 := count_le x most
  have h2 := count_eq x most
  constructor
  · intro h; omega
  · intro h
    rcases Int.lt_or_le most (countM x most) with h3 | h3
    · exact h3
    · have := h2 h3; omega
theorem small_count (x : NodeM) : (smallM x 64).1 = false ↔ 64 < countM x 64 := by
  rw [count_big]
  constructor
  · intro h
    rcases Int.lt_or_le 64 (sizeN x : Int) with h3 | h3
    · exact h3
    · rw [small_ok' x 64 h3] at h; cases h
  · intro h
    cases hs : (smallM x 64).1 with
    | false => rfl
    | true => have := (small_inv x 64 hs).1; omega
theorem rParse_w (s : ByteArray) (hs : s.size ≤ 65536) (g : Nat → Option Blk) (n : Nat) :
    WC 6 Tryd.prog 19 [.lit (.string s)] ⟨.fn g, n⟩ fun r => ParQ (parseM s) g n r := by
  have a1 := advM_le (s := s) (j := 0) (Nat.zero_le _)
  generalize hret : parseM s = ret
  have HRET : Hide ((match readF s (20 * s.size + 9) 1 (advM s 0) with
      | some (.err k) => (.mk 0 0 0 [], ((k : Nat) : Int), 4)
      | some (.ok x k) => if tokB s k ≠ ⟨#[]⟩ then (.mk 0 0 0 [], ((k : Nat) : Int), 4) else if (smallM x 64).1 = false then (.mk 0 0 0 [], 0, 3) else (x, 0, 0)
      | none => (.mk 0 0 0 [], 0, 0)) = ret) := ⟨by rw [← hret, parseM]; exact (if_neg (by omega)).symm⟩
  clear hret
  have hpos := posL_ok (s := s) _ (advM s 0) a1.2 (Nat.le_refl _)
  have hpsz := posL_size (s := s) _ (advM s 0) a1.2 (Nat.le_refl _)
  have hp0 := posL_head s (advM s 0)
  have HT := Hide.mk (fun g n => tokens_w s (by omega) g n)
  generalize posL s (advM s 0) = pos at *
  refine WC.enterP (noO_ok _ _) hG pl19 Tryd.func19 rfl (by decide +kernel) (Nat.le_of_ble_eq_true (by kernel_rfl)) ?_
  iterate 20 (all_goals try (first | with_reducible refine splitI (fun h => ?_) (fun h => ?_) | with_reducible refine splitBI (fun h => ?_) (fun h => ?_) | simp (config := { maxSteps := 1000000 }) (disch := first | assumption | omega | (simp; done) | fail) [Tryd.results19, *]))
  refine WC.mono (HT.out _ _) ?_
  rintro _ ⟨a, g1, n1, rfl, ha1, ha2, hg1, hga⟩
  have e1 : g1 n = some (.cells [.lit (.int .u8 0), .lit (.int .i64 0), .lit (.int .i64 0), .lit (.slice none 0 0)] true 0) := by rw [hg1 n (by omega)]; simp
  have HG1 := Hide.mk hg1
  have HPOS := Hide.mk hpos
  have HP0 := Hide.mk hp0
  have hrat : RAt s pos a g1 n1 := ⟨by omega, ⟨_, _, _, hga, by simp, by simp⟩⟩
  have HRAT := Hide.mk hrat
  clear hg1 hga hpos hp0 hrat
  iterate 20 (all_goals try (first | with_reducible refine splitI (fun h => ?_) (fun h => ?_) | with_reducible refine splitBI (fun h => ?_) (fun h => ?_) | simp (config := { maxSteps := 1000000 }) (disch := first | assumption | omega | (simp; done) | fail) [Tryd.results19, *]))
  refine WC.mono ((rpar_ok HPOS.out (by omega) (by omega) (20 * s.size + 9) (by omega)).1 1 0 (advM s 0) g1 n1 HRAT.out HP0.out (by omega) (by omega) (by omega)) ?_
  rintro _ ⟨res, hrd, x, op, qa, qb, sv2, j, e, g2, n2, rfl, hn2, hg2, hfr, hend⟩
  have HFR := Hide.mk hfr
  have HG2 := Hide.mk hg2
  have e2 : g2 n = some (.cells [.lit (.int .u8 0), .lit (.int .i64 0), .lit (.int .i64 0), .lit (.slice none 0 0)] true 0) := (hg2 n (by omega)).trans e1
  have h1c := repN_c hfr.rep
  have h1a : allOne [.lit (.int .u8 op), .lit (.int .i64 qa), .lit (.int .i64 qb), sv2] = true := by simp [h1c]
  have hnn2 : ¬n = n2 := by omega
  have HOLD : Hide (∀ b, b < n → g2 b = g b) := ⟨fun b hb => by rw [hg2 b (by omega), HG1.out b (by omega)]; simp (disch := omega) only [gput_lt]⟩
  have hjk : ∃ k, pos[j]? = some k := by
    cases res with
    | ok y k => exact ⟨k, hend.2.2⟩
    | err k => exact ⟨k, hend.2⟩
  obtain ⟨k, hjk⟩ := hjk
  have hjl : j < pos.length := (List.getElem?_eq_some_iff.1 hjk).1
  have hjI : (j : Int) < (pos.length : Int) := by omega
  have r1 := row_tok (z := 1) HRAT.out.toks hjk
  rw [Nat.zero_add] at r1
  obtain ⟨r1, r2⟩ := r1
  rw [← hg2 a (by omega)] at r1 r2
  have hkle := (HPOS.out j k hjk).1
  have HE : Hide ((e = 1 ∧ readF s (20 * s.size + 9) 1 (advM s 0) = some (.ok x k)) ∨ (e = 0 ∧ readF s (20 * s.size + 9) 1 (advM s 0) = some (.err k))) := ⟨by
    cases res with
    | ok y k2 =>
      obtain ⟨h1, rfl, h3⟩ := hend
      rw [hjk] at h3
      cases h3
      exact .inl ⟨h1, hrd⟩
    | err k2 =>
      obtain ⟨h2, h3⟩ := hend
      rw [hjk] at h3
      cases h3
      exact .inr ⟨h2, hrd⟩⟩
  clear hend hrd hg2 hfr e1 hjk
  have h1b : allOne [.lit (.int .u8 op), .lit (.int .i64 qa), .lit (.int .i64 qb), sv2, .lit (.int .i64 j), .lit (.int .i64 e)] = true := by simp [h1c]
  rcases HE.out with ⟨rfl, hrd⟩ | ⟨rfl, hrd⟩
  · have hsz : sizeN x ≤ 1000000 := by
      have := ((read_good _).1 _ _ _ _ a1.2 hrd).2.2.1
      omega
    have HR2 := HRET.out
    rw [hrd] at HR2
    dsimp only at HR2
    clear HE hrd
    by_cases hte : tokB s k = ⟨#[]⟩
    · rw [if_neg (fun h => h hte)] at HR2
      rw [hte] at r1
      have HRC : Hide (∀ (g' : Nat → Option Blk) (n' : Nat), n2 ≤ n' → (∀ a, a < n2 → g' a = g2 a) → WC 6 Tryd.prog 25 [.agg [.lit (.int .u8 op), .lit (.int .i64 qa), .lit (.int .i64 qb), sv2], .lit (.int .i64 64)] ⟨.fn g', n'⟩ fun r => r = .ret (.lit (.int .i64 (countM x 64))) ⟨.fn g', n'⟩) := ⟨fun g' n' h1 h2 => count_w 1000000 (Nat.le_refl _) x hsz g' n' _ 64 (by omega) (by omega) (HFR.out.keep (n0 := n1) (n2 := n') (Nat.le_refl _) h1 (fun a _ h5 => h2 a h5)).rep⟩
      have hsc := small_count x
      have HR3 := Hide.mk HR2
      clear HR2 hte
      iterate 20 (all_goals try (first | with_reducible refine splitI (fun h => ?_) (fun h => ?_) | with_reducible refine splitBI (fun h => ?_) (fun h => ?_) | simp (config := { maxSteps := 1000000 }) (disch := first | assumption | omega | (simp; done) | fail) [Tryd.results19, *]))
      refine WC.mono (HRC.out _ _ (by omega) (fun b hb => (by simp (disch := omega) only [gput_lt]))) ?_
      rintro _ rfl
      by_cases hck : (smallM x 64).1 = false
      · have HR4 := HR3.out
        rw [if_pos hck] at HR4
        subst HR4
        have hcv := hsc.1 hck
        generalize countM x 64 = cv at *
        clear HR3 hsc
        iterate 20 (all_goals try (first | with_reducible refine splitI (fun h => ?_) (fun h => ?_) | with_reducible refine splitBI (fun h => ?_) (fun h => ?_) | simp (config := { maxSteps := 1000000 }) (disch := first | assumption | omega | (simp; done) | fail) [Tryd.results19, *]))
        refine ⟨_, _, _, rfl, by omega, fun b hb => ?_, FreshN.leaf (by omega)⟩
        simp (disch := omega) only [gput_lt]
        exact HOLD.out b hb
      · have HR4 := HR3.out
        rw [if_neg hck] at HR4
        subst HR4
        have hcv : ¬64 < countM x 64 := fun h => hck (hsc.2 h)
        generalize countM x 64 = cv at *
        clear HR3 hsc hck
        iterate 20 (all_goals try (first | with_reducible refine splitI (fun h => ?_) (fun h => ?_) | with_reducible refine splitBI (fun h => ?_) (fun h => ?_) | simp (config := { maxSteps := 1000000 }) (disch := first | assumption | omega | (simp; done) | fail) [Tryd.results19, *]))
        refine ⟨_, _, _, rfl, by omega, fun b hb => ?_, HFR.out.keep (by omega) (by omega) (fun a h4 h5 => by simp (disch := omega) only [gput_ne, gput_lt])⟩
        simp (disch := omega) only [gput_lt]
        exact HOLD.out b hb
    · rw [if_pos hte] at HR2
      have hteI : ¬tokB s k = ⟨#[]⟩ := hte
      subst HR2
      iterate 20 (all_goals try (first | with_reducible refine splitI (fun h => ?_) (fun h => ?_) | with_reducible refine splitBI (fun h => ?_) (fun h => ?_) | simp (config := { maxSteps := 1000000 }) (disch := first | assumption | omega | (simp; done) | fail) [Tryd.results19, *]))
      refine ⟨_, _, _, rfl, by omega, fun b hb => ?_, FreshN.leaf (by omega)⟩
      simp (disch := omega) only [gput_lt]
      exact HOLD.out b hb
  · have HR2 := HRET.out
    rw [hrd] at HR2
    dsimp only at HR2
    subst HR2
    clear HE hrd
    iterate 20 (all_goals try (first | with_reducible refine splitI (fun h => ?_) (fun h => ?_) | with_reducible refine splitBI (fun h => ?_) (fun h => ?_) | simp (config := { maxSteps := 1000000 }) (disch := first | assumption | omega | (simp; done) | fail) [Tryd.results19, *]))
    refine ⟨_, _, _, rfl, by omega, fun b hb => ?_, FreshN.leaf (by omega)⟩
    simp (disch := omega) only [gput_lt]
    exact HOLD.out b hb
end Go.Ai
end

section
namespace Go.Ai
open Go.Proofs
set_option maxRecDepth 10000
set_option maxHeartbeats 40000000
theorem ops_subs (op : Nat) (h : op < 15) : loadB (some (false, 1)) (some opsB) (op * 4) = some (.lit (.int .i64 (subsM op : Nat))) := by
  have : op = 0 ∨ op = 1 ∨ op = 2 ∨ op = 3 ∨ op = 4 ∨ op = 5 ∨ op = 6 ∨ op = 7 ∨ op = 8 ∨ op = 9 ∨ op = 10 ∨ op = 11 ∨ op = 12 ∨ op = 13 ∨ op = 14 := by omega
  rcases this with rfl | rfl | rfl | rfl | rfl | rfl | rfl | rfl | rfl | rfl | rfl | rfl | rfl | rfl | rfl <;> rfl
theorem valid_yes (st inp out : Int) : ∀ (m : Nat), m ≤ 1000000 → ∀ (x : NodeM), sizeN x ≤ m → validM st inp out x = true → ∀ (g : Nat → Option Blk) (n : Nat) (cs : List AV), g 0 = some opsB → 0 < n → repN g n x cs →
    WC 6 Tryd.prog 56 [.agg cs, .lit (.int .i64 st), .lit (.int .i64 inp), .lit (.int .i64 out)] ⟨.fn g, n⟩ fun r => r = .ret (.lit (.bool true)) ⟨.fn g, n⟩ := by
  intro m
  induction m with
  | zero => intro _ x hx; cases x; unfold sizeN at hx; omega
  | succ m ihm =>
    intro hm x hx hv g n cs hops hn0 hr
    have IH := Hide.mk ihm
    clear ihm
    refine WC.drop1 rfl ?_
    cases x with
    | mk op a b subs =>
      obtain ⟨hop, sv, rfl, hsv⟩ := hr
      simp only [validM, Bool.and_eq_true, decide_eq_true_eq] at hv
      obtain ⟨v1, v2, v3, v4, v5, v6, v7⟩ := hv
      have hld := ops_subs op v1
      obtain ⟨sv', hq⟩ : ∃ sv', Hide (sv' = sv) := ⟨_, ⟨rfl⟩⟩
      have hsz : sizeL subs ≤ m := by unfold sizeN at hx; omega
      have hlen : subs.length ≤ 1000000 := Nat.le_trans (len_size subs) (by omega)
      have V7 := Hide.mk v7
      have v1I : ¬(15 : Int) ≤ (op : Int) := by omega
      have v1J : (op : Int) < 15 := by omega
      have v3I : ¬a < 0 := by omega
      have v4I : ¬b < 0 := by omega
      have hdec : (op = 1 ∧ a < st ∧ b < 1) ∨ (op = 2 ∧ a < inp ∧ b < 1) ∨ (op = 3 ∧ a < inp ∧ b < out) ∨ (¬(op : Int) = 1 ∧ ¬(op : Int) = 2 ∧ ¬(op : Int) = 3 ∧ a < 1 ∧ b < 1) := by
        by_cases h1 : op = 1
        · subst h1; exact .inl ⟨rfl, by simpa using v5, by simpa using v6⟩
        by_cases h2 : op = 2
        · subst h2; exact .inr (.inl ⟨rfl, by simpa using v5, by simpa using v6⟩)
        by_cases h3 : op = 3
        · subst h3; exact .inr (.inr (.inl ⟨rfl, by simpa using v5, by simpa using v6⟩))
        · rw [if_neg h1, if_neg (by omega)] at v5
          rw [if_neg h3] at v6
          exact .inr (.inr (.inr ⟨by omega, by omega, by omega, v5, v6⟩))
      clear v5 v6 v7
      rw [← v2] at hld
      clear v2
      rcases hsv with ⟨hsub, rfl | rfl⟩ | ⟨ad, off, r, han, ⟨c, rfl⟩ | ⟨c, rfl⟩, hrow, hrep⟩
      all_goals rcases hdec with ⟨rfl, d1, d2⟩ | ⟨rfl, d1, d2⟩ | ⟨rfl, d1, d2⟩ | ⟨d3, d4, d5, d1, d2⟩
      all_goals have d1I := Int.not_le.2 d1
      all_goals have d2I := Int.not_le.2 d2
      all_goals refine WC.enterP (noO_ok _ _) hG pl56 Tryd.func56 rfl (by decide +kernel) (Nat.le_of_ble_eq_true (by kernel_rfl)) ?_
      all_goals iterate 40 (all_goals try (first | with_reducible refine splitI (fun h => ?_) (fun h => ?_) | with_reducible refine splitBI (fun h => ?_) (fun h => ?_) | simp (config := { maxSteps := 1000000 }) (disch := first | assumption | omega | (simp; done) | fail) [Tryd.results56, *]))
      all_goals
        refine LX.ind (fun m gf H' => ∃ (k n' : Nat) (g' : Nat → Option Blk), k ≤ subs.length ∧ m = subs.length - k ∧ H' = ⟨.fn g', n'⟩ ∧ n < n' ∧ (∀ b, b < n → g' b = g b) ∧
          gf 1 = some (.lit (.int .i64 st)) ∧ gf 2 = some (.lit (.int .i64 inp)) ∧ gf 3 = some (.lit (.int .i64 out)) ∧ gf 61 = some sv' ∧ gf 62 = some (.lit (.int .i64 subs.length)) ∧ gf 63 = some (.lit (.int .i64 k)) ∧ validL st inp out (subs.drop k) = true) (m0 := subs.length) ?_ ?_
        · exact ⟨0, n + 1, _, Nat.zero_le _, rfl, rfl, by omega, fun b hb => gput_lt hb, by simp, by simp, by simp, by simp [hq.out], by simp [*], by simp, V7.out⟩
        rintro m' gf H' ⟨k, n', g', hk, rfl, rfl, hn', hg', w1, w2, w3, w61, w62, w63, hc⟩ ih
        refine LX.roundP (noO_ok _ _) hG pl56 (by decide +kernel) ?_
        rw [hq.out] at w61
        have HG := Hide.mk hg'
        have HC := Hide.mk hc
        clear hg' hc
        by_cases hlt : k < subs.length
        · first
          | (exfalso; rw [hsub] at hlt; simp at hlt; done)
          | (have hy0 := repL_at hrep k hlt
             have hrl := repL_len hrep
             have hrow' := (hrow.mono (HG.out ad han)).agg (k := k * 4) (s := 4) (by omega)
             have hdrop : subs.drop k = subs[k] :: subs.drop (k + 1) := List.drop_eq_getElem_cons hlt
             have hszy : sizeN subs[k] ≤ m := Nat.le_trans (size_mem (List.getElem_mem hlt)) hsz
             have hvk := HC.out
             rw [hdrop, validL, Bool.and_eq_true] at hvk
             generalize subs[k] = y at hy0 hdrop hszy hvk
             obtain ⟨hvy, hvr⟩ := hvk
             obtain ⟨k2, k3, sv2, hcy, h1c, hop2⟩ := repN_one hy0
             rw [hcy] at hrow' hy0
             have h1a : allOne [.lit (.int .u8 y.op), .lit (.int .i64 k2), .lit (.int .i64 k3), sv2] = true := by simp [h1c]
             have HY := Hide.mk hy0
             have HD := Hide.mk hdrop
             have HR := Hide.mk hrep
             have HR2 := Hide.mk hrow
             have HVY := Hide.mk hvy
             have HVR := Hide.mk hvr
             have hlt' : (k : Int) < (subs.length : Int) := by omega
             clear hy0 hdrop hrep hrow hcy hrl hvy hvr
             iterate 14 (all_goals try (first | with_reducible refine splitI (fun h => ?_) (fun h => ?_) | with_reducible refine splitBI (fun h => ?_) (fun h => ?_) | simp (config := { maxSteps := 1000000 }) (disch := first | assumption | omega | (simp; done) | fail) [Tryd.results56, *]))
             refine WC.mono (IH.out (by omega) y hszy HVY.out _ _ _ (by rw [gput_lt (by omega)]; exact (HG.out 0 hn0).trans hops) (by omega) (repN_mono (b' := n' + 1) (by omega) (fun a ha => (gput_lt (by omega)).trans (HG.out a ha)) HY.out)) ?_
             rintro _ rfl
             iterate 14 (all_goals try (first | with_reducible refine splitI (fun h => ?_) (fun h => ?_) | with_reducible refine splitBI (fun h => ?_) (fun h => ?_) | simp (config := { maxSteps := 1000000 }) (disch := first | assumption | omega | (simp; done) | fail) [Tryd.results56, *]))
             exact ih.out (subs.length - (k + 1)) _ _ (by omega) ⟨k + 1, n' + 1, _, hlt, rfl, rfl, by omega, fun b hb => (gput_lt (by omega)).trans (HG.out b hb), by simp [*], by simp [*], by simp [*], by simp [*, hq.out], by simp [*], by simp [*], HVR.out⟩)
        · have hkn : k = subs.length := by omega
          subst hkn
          first | clear hsub | clear hrep hrow
          iterate 14 (all_goals try (first | with_reducible refine splitI (fun h => ?_) (fun h => ?_) | with_reducible refine splitBI (fun h => ?_) (fun h => ?_) | simp (config := { maxSteps := 1000000 }) (disch := first | assumption | omega | (simp; done) | fail) [Tryd.results56, *]))
          all_goals first
            | (exfalso; omega)
            | exact ⟨_, ⟨rfl, rfl⟩, ⟨Nat.le_of_lt hn', fun b hb => HG.out b hb⟩⟩
            | exact ⟨Nat.le_of_lt hn', fun b hb => HG.out b hb⟩
end Go.Ai
end

section
namespace Go.Ai
open Go.Proofs
set_option maxRecDepth 10000
set_option maxHeartbeats 40000000
theorem checked_yes (st inp out : Int) (x : NodeM) (hx : sizeN x ≤ 1000000) (hv : validM st inp out x = true) (hsm : (smallM x 64).1 = true) (g : Nat → Option Blk) (n : Nat) (cs : List AV) (hops : g 0 = some opsB) (hn0 : 0 < n) (hr : repN g n x cs) :
    WC 6 Tryd.prog 38 [.agg cs, .lit (.int .i64 st), .lit (.int .i64 inp), .lit (.int .i64 out)] ⟨.fn g, n⟩ fun r => ∃ g' n', r = .ret (.lit (.int .i64 0)) ⟨.fn g', n'⟩ ∧ n ≤ n' ∧ ∀ b, b < n → g' b = g b := by
  obtain ⟨k2, k3, sv2, hcy, h1c, hop2⟩ := repN_one hr
  subst hcy
  have h1a : allOne [.lit (.int .u8 x.op), .lit (.int .i64 k2), .lit (.int .i64 k3), sv2] = true := by simp [h1c]
  have HR := Hide.mk hr
  clear hr
  refine WC.enterP (noO_ok _ _) hG [] Tryd.func38 rfl (by decide +kernel) (Nat.le_of_ble_eq_true (by kernel_rfl)) ?_
  iterate 12 (all_goals try (first | with_reducible refine splitI (fun h => ?_) (fun h => ?_) | with_reducible refine splitBI (fun h => ?_) (fun h => ?_) | simp (config := { maxSteps := 1000000 }) (disch := first | assumption | omega | (simp; done) | fail) [Tryd.results38, *]))
  refine WC.mono (small_w 1000000 (Nat.le_refl _) x hx _ _ (n + 1) _ 64 (repN_mono (by omega) (fun a ha => (by simp (disch := omega) only [gput_lt])) HR.out) (by omega) (by simp) (by omega) (by omega)) ?_
  rintro _ rfl
  rw [hsm]
  iterate 12 (all_goals try (first | with_reducible refine splitI (fun h => ?_) (fun h => ?_) | with_reducible refine splitBI (fun h => ?_) (fun h => ?_) | simp (config := { maxSteps := 1000000 }) (disch := first | assumption | omega | (simp; done) | fail) [Tryd.results38, *]))
  refine WC.mono (valid_yes st inp out 1000000 (Nat.le_refl _) x hx hv _ _ _ (by simp (disch := omega) only [gput_lt, gput_ne]; exact hops) (by omega) (repN_mono (by omega) (fun a ha => by simp (disch := omega) only [gput_lt, gput_ne]) HR.out)) ?_
  rintro _ rfl
  iterate 12 (all_goals try (first | with_reducible refine splitI (fun h => ?_) (fun h => ?_) | with_reducible refine splitBI (fun h => ?_) (fun h => ?_) | simp (config := { maxSteps := 1000000 }) (disch := first | assumption | omega | (simp; done) | fail) [Tryd.results38, *]))
  refine ⟨_, _, ⟨rfl, rfl⟩, by omega, fun b hb => ?_⟩
  simp (disch := omega) only [gput_lt, gput_ne]
end Go.Ai
end
