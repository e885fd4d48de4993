/- A small verified interpreter over names, its proofs, and what was proved with it. No condition. -/
import Derived.Test.YtfhkfifjbgcpiaaDoorED2
import Derived.Test.YtfhkfifjbgcpiaaDoorED6
import Derived.Test.YtfhkfifjbgcpiaaDoorED1
set_option linter.all false
set_option linter.deprecated false
section
namespace Go.Ai
open Go.Proofs
set_option maxRecDepth 10000
set_option maxHeartbeats 4000000
mutual
theorem count_up : ∀ (x : NodeM) (most : Int), 0 ≤ most → countM x most ≤ most + 1
  | .mk _ _ subs, most, h => by
    have := countL_up subs most 1
    unfold countM
    omega
theorem countL_up : ∀ (l : List NodeM) (most n : Int), countL l most n ≤ n ∨ countL l most n ≤ most + 1
  | [], most, n => by simp [countL]
  | x :: l, most, n => by
    unfold countL
    split
    · have h1 := count_up x (most - n) (by omega)
      have h2 := countL_up l most (n + countM x (most - n))
      omega
    · exact .inl (Int.le_refl _)
end
theorem count_w2 : ∀ (m : Nat), ∀ (x : NodeM), sizeN x ≤ m → ∀ (g : Nat → Option Blk) (n : Nat) (cs : List AV) (most : Int), 0 ≤ most → most ≤ 1000000 → repN g n x cs →
    WC 6 Tryd.prog 20 [.agg cs, .lit (.int .i64 most)] ⟨.fn g, n⟩ fun r => r = .ret (.lit (.int .i64 (countM x most))) ⟨.fn g, n⟩ := by
  intro m
  induction m with
  | zero => intro x hx; cases x; unfold sizeN at hx; omega
  | succ m ihm =>
    intro x hx g n cs most hm0 hm1 hr
    have IH := Hide.mk ihm
    clear ihm
    refine WC.drop1 rfl ?_
    cases x with
    | mk op q subs =>
      obtain ⟨hop, sv, rfl, hsv⟩ := hr
      generalize hret : countM (.mk op q subs) most = ret
      have HRET := Hide.mk hret
      clear hret
      have hsz : sizeL subs ≤ m := by unfold sizeN at hx; omega
      obtain ⟨sv', hq⟩ : ∃ sv', Hide (sv' = sv) := ⟨_, ⟨rfl⟩⟩
      have HMO : Hide (ret = countL subs most 1) := ⟨by rw [← HRET.out, countM]⟩
      rcases hsv with ⟨hsub, rfl | rfl⟩ | ⟨a, off, r, han, ⟨c, rfl⟩ | ⟨c, rfl⟩, hrow, hrep⟩
      all_goals refine WC.enterP O9_ok hG6 [] Tryd.func20 rfl (by decide +kernel) (Nat.le_of_ble_eq_true (by kernel_rfl)) ?_
      all_goals
        iterate 12 (all_goals try (first | with_reducible refine splitI (fun h => ?_) (fun h => ?_) | with_reducible refine splitBI (fun h => ?_) (fun h => ?_) | simp (disch := first | assumption | omega | (simp; done) | fail) [Tryd.results20, O9, *]))
        refine LX.ind (fun m gf H' => ∃ (k n' : Nat) (g' : Nat → Option Blk) (cnt : Int), k ≤ subs.length ∧ m = subs.length - k ∧ H' = ⟨.fn g', n'⟩ ∧ n < n' ∧ (∀ b, b < n → g' b = g b) ∧ g' n = some (.cells [.lit (.int .u8 op), .lit (.int .i64 q), sv'] true 0) ∧
          gf 2 = some (.ptr n 0) ∧ gf 1 = some (.lit (.int .i64 most)) ∧ gf 5 = some (.lit (.int .i64 cnt)) ∧ gf 6 = some (.lit (.int .i64 k)) ∧ (k : Int) + 1 ≤ cnt ∧ cnt ≤ most + 1 ∧ ret = countL (subs.drop k) most cnt) (m0 := subs.length) ?_ ?_
        · exact ⟨0, n + 1, _, 1, Nat.zero_le _, rfl, rfl, by omega, fun b hb => gput_lt hb, by simp [hq.out], by simp, by simp, by simp, by simp, by omega, by omega, HMO.out⟩
        rintro m' gf H' ⟨k, n', g', cnt, hk, rfl, rfl, hn', hg', hgn, g2, g1, g5, g6, hc1, hc2, hc⟩ ih
        refine LX.roundP O9_ok hG6 [] (by decide +kernel) ?_
        rw [hq.out] at hgn
        have HG := Hide.mk hg'
        have HC := Hide.mk hc
        clear hg' hc
        by_cases hlt : k < subs.length
        · first
          | (exfalso; rw [hsub] at hlt; simp at hlt; done)
          | (have hy0 := repL_at hrep k hlt
             have hrl := repL_len hrep
             have hrow' := (hrow.mono (HG.out a han)).agg (k := k * 3) (s := 3) (by omega)
             have hdrop : subs.drop k = subs[k] :: subs.drop (k + 1) := List.drop_eq_getElem_cons hlt
             have hszy : sizeN subs[k] ≤ m := Nat.le_trans (size_mem (List.getElem_mem hlt)) hsz
             generalize subs[k] = y at hy0 hdrop hszy
             obtain ⟨k2, sv2, hcy, h1c, hop2⟩ := repN_op hy0
             rw [hcy] at hrow' hy0
             generalize hop3 : y.op = op2 at hcy hrow' hy0 hop2
             have h1a : allOne [.lit (.int .u8 op2), .lit (.int .i64 k2), sv2] = true := by simp [h1c]
             have HY := Hide.mk hy0
             have HD := Hide.mk hdrop
             have HR := Hide.mk hrep
             have HR2 := Hide.mk hrow
             have HO := Hide.mk hop3
             have hcb : cnt ≤ 1000001 := by omega
             have hlt' : (k : Int) < (subs.length : Int) := by omega
             clear hy0 hdrop hrep hrow hcy hrl hop3
             by_cases hcm : cnt ≤ most
             · iterate 40 (all_goals try (first | with_reducible refine splitI (fun h => ?_) (fun h => ?_) | with_reducible refine splitBI (fun h => ?_) (fun h => ?_) | simp (disch := first | assumption | omega | (simp; done) | fail) [Tryd.results20, O9, *]))
               refine WC.mono (IH.out y hszy _ _ _ (most - cnt) (by omega) (by omega) (repN_mono (b' := n') (by omega) (fun a ha => HG.out a ha) HY.out)) ?_
               rintro _ rfl
               have hcy := count_le y (most - cnt)
               have hcu := count_up y (most - cnt) (by omega)
               generalize hcy2 : countM y (most - cnt) = cy at hcy hcu
               have HCY := Hide.mk hcy2
               clear hcy2
               iterate 10 (all_goals try (first | with_reducible refine splitI (fun h => ?_) (fun h => ?_) | with_reducible refine splitBI (fun h => ?_) (fun h => ?_) | simp (disch := first | assumption | omega | (simp; done) | fail) [Tryd.results20, O9, *]))
               refine ih.out (subs.length - (k + 1)) _ _ (by omega) ⟨k + 1, n', _, cnt + cy, hlt, rfl, rfl, by omega, HG.out, by simp [*, hq.out], by simp [*], by simp [*], by simp [*], by simp [*], by omega, by omega, ?_⟩
               rw [HC.out, HD.out, countL, if_pos hcm, HCY.out]
             · iterate 40 (all_goals try (first | with_reducible refine splitI (fun h => ?_) (fun h => ?_) | with_reducible refine splitBI (fun h => ?_) (fun h => ?_) | simp (disch := first | assumption | omega | (simp; done) | fail) [Tryd.results20, O9, *]))
               exact ⟨_, ⟨by rw [HC.out, HD.out, countL, if_neg hcm], rfl⟩, ⟨Nat.le_of_lt hn', fun b hb => HG.out b hb⟩⟩)
        · have HDN := Hide.mk (List.drop_eq_nil_of_le (by omega) : subs.drop k = [])
          have hkn : k = subs.length := by omega
          subst hkn
          have hc3 : cnt ≤ 1000001 := by omega
          first | clear hsub | clear hrep hrow
          iterate 10 (all_goals try (first | with_reducible refine splitI (fun h => ?_) (fun h => ?_) | with_reducible refine splitBI (fun h => ?_) (fun h => ?_) | simp (disch := first | assumption | omega | (simp; done) | fail) [Tryd.results20, O9, *]))
          all_goals first
            | (exfalso; omega)
            | exact ⟨_, ⟨by rw [HC.out, HDN.out, countL], rfl⟩, ⟨Nat.le_of_lt hn', fun b hb => HG.out b hb⟩⟩
end Go.Ai
end

section
namespace Go.Ai
open Go.Proofs
set_option maxRecDepth 10000
set_option maxHeartbeats 40000000
theorem text_e (vs : List VarM) (x : NodeM) : ∃ tx, textTop vs x = (tx, checkM vs x) ∧ (checkM vs x ≠ 0 → tx = ⟨#[]⟩) := by
  unfold textTop
  by_cases h : checkM vs x = 0
  · rw [if_neg (fun e => e h)]; exact ⟨_, by rw [h], fun e => absurd h e⟩
  · rw [if_pos h]; exact ⟨_, rfl, fun _ => rfl⟩
theorem cond_e (vs : List VarM) (x : NodeM) : ∃ cb, conditionM vs x = .tup [.lit (.bool cb), .lit (.int .i64 (checkM vs x))] ∧ (checkM vs x ≠ 0 → cb = false) := by
  unfold conditionM
  by_cases h : checkM vs x = 0
  · rw [if_neg (fun e => e h)]; exact ⟨_, by rw [h], fun e => absurd h e⟩
  · rw [if_pos h]; exact ⟨_, rfl, fun _ => rfl⟩
theorem eval_e (vs : List VarM) (x : NodeM) (vals : List Int) : ∃ v b, evalTop vs x vals = (v, b, if checkM vs x ≠ 0 then checkM vs x else checkValuesM vs vals) ∧ ((checkM vs x ≠ 0 ∨ checkValuesM vs vals ≠ 0) → v = 0 ∧ b = false) := by
  unfold evalTop
  by_cases h : checkM vs x = 0
  · by_cases h2 : checkValuesM vs vals = 0
    · rw [if_neg (fun e => e h), if_neg (fun e => e h2), if_neg (fun e => e h)]; exact ⟨_, _, by rw [h2], fun e => by rcases e with e | e <;> contradiction⟩
    · rw [if_neg (fun e => e h), if_pos h2, if_neg (fun e => e h)]; exact ⟨_, _, rfl, fun _ => ⟨rfl, rfl⟩⟩
  · rw [if_pos h, if_pos h]; exact ⟨_, _, rfl, fun _ => ⟨rfl, rfl⟩⟩
theorem one_e (vs : List VarM) : (parseM vs oneT).2.1 = 0 ∧ (parseM vs oneT).2.2 = checkVarsM vs := by
  rw [parse_one]
  by_cases h : checkVarsM vs = 0
  · rw [if_pos h, h]; exact ⟨rfl, rfl⟩
  · rw [if_neg h]; exact ⟨rfl, rfl⟩
theorem guardsErrors_w (hl : retIs (.lit (.bool true)) (callF Tryd.prog O5 10000 16 [] H0) = true) (vs : List VarM) (x : NodeM) (vals : List Int) (g : Nat → Option Blk) (n : Nat) (sv tv : AV) (cs : List AV) (h0 : ∀ i x, blks0[i]? = some x → g i = some x) (hn : 8 ≤ n)
    (hsv : SliceV g n sv vs.length (vs.flatMap VarM.cells)) (htv : SliceV g n tv vals.length (intCells vals)) (hrep : repN g n x cs) :
    WC 6 Tryd.prog 8 [sv, .agg cs, tv] ⟨.fn g, n⟩ fun r => ∃ H', r = .ret (.lit (.bool true)) H' := by
  have hcsv : cellsOf sv = [sv] := by rcases hsv with ⟨_, _, rfl | rfl⟩ | ⟨a, off, _, ⟨c, rfl⟩ | ⟨c, rfl⟩, _⟩ <;> rfl
  have h1sv : oneC sv = true := by rcases hsv with ⟨_, _, rfl | rfl⟩ | ⟨a, off, _, ⟨c, rfl⟩ | ⟨c, rfl⟩, _⟩ <;> rfl
  obtain ⟨k2, sv2, hcy, h1c, hop2⟩ := repN_op hrep
  subst hcy
  have h1x : allOne [.lit (.int .u8 x.op), .lit (.int .i64 k2), sv2] = true := by simp [h1c]
  have HLV : Hide (∀ (g : Nat → Option Blk) (n : Nat), (∀ i y, blks0[i]? = some y → g i = some y) → WC 6 Tryd.prog 16 [] ⟨.fn g, n⟩ fun r => r = .ret (.lit (.bool true)) ⟨.fn g, n⟩) := ⟨fun g n h => own_w (callF_ok O5_ok hG6 10000) rfl rfl hl _ (holds_of h)⟩
  have hg0 : g 0 = some opsB := h0 0 _ rfl
  have hg1 : g 1 = some (.cells bP false 0) := h0 1 _ rfl
  have hg3 : g 3 = some (.cells bY false 0) := h0 3 _ rfl
  have HB8 : ∀ i y, blks0[i]? = some y → i < 8 := fun i y hy => (List.getElem?_eq_some_iff.1 hy).1
  have H00 := Hide.mk h0
  have H8 := Hide.mk HB8
  have HSV := Hide.mk hsv
  have HTV := Hide.mk htv
  have HREP := Hide.mk hrep
  have hlenS : ∀ {H : Mem} {ev : Ev} {o : Oper} {c : Call} {e : TypeId}, lenS Tryd.prog H ev o c (some (.slice e)) (some [sv]) = .val (.lit (.int .i64 vs.length)) H := by
    intro H ev o c e
    rcases hsv with ⟨hl0, _, rfl | rfl⟩ | ⟨a, off, ha, ⟨c, rfl⟩ | ⟨c, rfl⟩, hr⟩ <;> simp [*]
  have hlenT : ∀ {H : Mem} {ev : Ev} {o : Oper} {c : Call} {e : TypeId}, lenS Tryd.prog H ev o c (some (.slice e)) (some [tv]) = .val (.lit (.int .i64 vals.length)) H := by
    intro H ev o c e
    rcases htv with ⟨hl0, _, rfl | rfl⟩ | ⟨a, off, ha, ⟨c, rfl⟩ | ⟨c, rfl⟩, hr⟩ <;> simp [*]
  have HLT := Hide.mk @hlenT
  clear hl h0 HB8 hrep hsv htv
  by_cases hA : 20 < vs.length
  · have hAI : (20 : Int) < (vs.length : Int) := by omega
    refine WC.enterP (noO_ok _ _) hG6 pl8 Tryd.func8 rfl (by decide +kernel) (Nat.le_of_ble_eq_true (by kernel_rfl)) ?_
    iterate 8 (all_goals try (first | with_reducible refine splitI (fun h => ?_) (fun h => ?_) | with_reducible refine splitBI (fun h => ?_) (fun h => ?_) | simp (disch := first | assumption | omega | (simp; done) | fail) [Tryd.results8, *]))
    refine WC.mono (HLV.out _ _ (fun i y hy => by have := H8.out i y hy; simp (disch := omega) only [gput_lt]; exact H00.out i y hy)) ?_
    rintro _ rfl
    iterate 8 (all_goals try (first | with_reducible refine splitI (fun h => ?_) (fun h => ?_) | with_reducible refine splitBI (fun h => ?_) (fun h => ?_) | simp (disch := first | assumption | omega | (simp; done) | fail) [Tryd.results8, *]))
  have hAI : ¬(20 : Int) < (vs.length : Int) := by omega
  have hvl : vs.length ≤ 1000000 := by omega
  have CNT : Hide (∀ (g' : Nat → Option Blk) (n' : Nat), repN g' n' x [.lit (.int .u8 x.op), .lit (.int .i64 k2), sv2] → WC 6 Tryd.prog 20 [.agg [.lit (.int .u8 x.op), .lit (.int .i64 k2), sv2], .lit (.int .i64 100)] ⟨.fn g', n'⟩ fun r => r = .ret (.lit (.int .i64 (countM x 100))) ⟨.fn g', n'⟩) := ⟨fun g' n' h => count_w2 (sizeN x) x (Nat.le_refl _) g' n' _ 100 (by omega) (by omega) h⟩
  by_cases hB : 100 < countM x 100
  · generalize countM x 100 = cx at *
    refine WC.enterP (noO_ok _ _) hG6 pl8 Tryd.func8 rfl (by decide +kernel) (Nat.le_of_ble_eq_true (by kernel_rfl)) ?_
    iterate 10 (all_goals try (first | with_reducible refine splitI (fun h => ?_) (fun h => ?_) | with_reducible refine splitBI (fun h => ?_) (fun h => ?_) | simp (disch := first | assumption | omega | (simp; done) | fail) [Tryd.results8, *]))
    refine WC.mono (CNT.out _ _ (repN_mono (by omega) (fun a ha => by simp (disch := omega) only [gput_lt]) HREP.out)) ?_
    rintro _ rfl
    iterate 10 (all_goals try (first | with_reducible refine splitI (fun h => ?_) (fun h => ?_) | with_reducible refine splitBI (fun h => ?_) (fun h => ?_) | simp (disch := first | assumption | omega | (simp; done) | fail) [Tryd.results8, *]))
    refine WC.mono (HLV.out _ _ (fun i y hy => by have := H8.out i y hy; simp (disch := omega) only [gput_lt]; exact H00.out i y hy)) ?_
    rintro _ rfl
    iterate 10 (all_goals try (first | with_reducible refine splitI (fun h => ?_) (fun h => ?_) | with_reducible refine splitBI (fun h => ?_) (fun h => ?_) | simp (disch := first | assumption | omega | (simp; done) | fail) [Tryd.results8, *]))
  by_cases hC : 20 < vals.length
  · have hCI : (20 : Int) < (vals.length : Int) := by omega
    generalize countM x 100 = cx at *
    refine WC.enterP (noO_ok _ _) hG6 pl8 Tryd.func8 rfl (by decide +kernel) (Nat.le_of_ble_eq_true (by kernel_rfl)) ?_
    iterate 10 (all_goals try (first | with_reducible refine splitI (fun h => ?_) (fun h => ?_) | with_reducible refine splitBI (fun h => ?_) (fun h => ?_) | simp (disch := first | assumption | omega | (simp; done) | fail) [Tryd.results8, *]))
    refine WC.mono (CNT.out _ _ (repN_mono (by omega) (fun a ha => by simp (disch := omega) only [gput_lt]) HREP.out)) ?_
    rintro _ rfl
    iterate 10 (all_goals try (first | with_reducible refine splitI (fun h => ?_) (fun h => ?_) | with_reducible refine splitBI (fun h => ?_) (fun h => ?_) | simp (disch := first | assumption | omega | (simp; done) | fail) [Tryd.results8, *]))
    refine WC.mono (HLV.out _ _ (fun i y hy => by have := H8.out i y hy; simp (disch := omega) only [gput_lt]; exact H00.out i y hy)) ?_
    rintro _ rfl
    iterate 10 (all_goals try (first | with_reducible refine splitI (fun h => ?_) (fun h => ?_) | with_reducible refine splitBI (fun h => ?_) (fun h => ?_) | simp (disch := first | assumption | omega | (simp; done) | fail) [Tryd.results8, *]))
  have hCI : ¬(20 : Int) < (vals.length : Int) := by omega
  have hml : vals.length ≤ 1000000 := by omega
  have hx : sizeN x ≤ 1000000 := by have := count_eq x 100 (by omega); omega
  generalize countM x 100 = cx at *
  refine WC.enterP (noO_ok _ _) hG6 pl8 Tryd.func8 rfl (by decide +kernel) (Nat.le_of_ble_eq_true (by kernel_rfl)) ?_
  iterate 10 (all_goals try (first | with_reducible refine splitI (fun h => ?_) (fun h => ?_) | with_reducible refine splitBI (fun h => ?_) (fun h => ?_) | simp (disch := first | assumption | omega | (simp; done) | fail) [Tryd.results8, *]))
  refine WC.mono (CNT.out _ _ (repN_mono (by omega) (fun a ha => by simp (disch := omega) only [gput_lt]) HREP.out)) ?_
  rintro _ rfl
  iterate 10 (all_goals try (first | with_reducible refine splitI (fun h => ?_) (fun h => ?_) | with_reducible refine splitBI (fun h => ?_) (fun h => ?_) | simp (disch := first | assumption | omega | (simp; done) | fail) [Tryd.results8, *]))
  refine LX.ind (fun m gf H' => ∃ (k : Nat), k ≤ vs.length ∧ m = vs.length - k ∧ H' = ⟨.fn (gput g n (some (.cells [.lit (.int .u8 x.op), .lit (.int .i64 k2), sv2] true 0))), n + 1⟩ ∧
    gf 0 = some sv ∧ gf 2 = some tv ∧ gf 4 = some (.ptr n 0) ∧ gf 7 = some (.lit (.int .i64 k))) (m0 := vs.length) ?_ ?_
  · exact ⟨0, Nat.zero_le _, rfl, rfl, by simp, by simp, by simp, by simp⟩
  rintro m gf H' ⟨k, hk, rfl, rfl, q0, q2, q4, q7⟩ ih
  refine LX.roundP (noO_ok _ _) hG6 pl8 (by decide +kernel) ?_
  by_cases hlt : k < vs.length
  · have hltI : (k : Int) < (vs.length : Int) := by omega
    rcases HSV.out with ⟨hl0, _, rfl | rfl⟩ | ⟨a, off, ha, ⟨c, rfl⟩ | ⟨c, rfl⟩, hr⟩
    · exfalso; omega
    · exfalso; omega
    all_goals
      obtain ⟨r1, _, _⟩ := row_var hr (s := 1) hlt
      have hane : ¬a = n := by omega
      generalize vs[k].name = nm at r1
      have HRR := Hide.mk hr
      have HLS := Hide.mk @hlenS
      clear hr hlenS hlenT
      by_cases hnm : (30 : Int) < (nm.size : Int)
      all_goals
        iterate 20 (all_goals try (first | with_reducible refine splitI (fun h => ?_) (fun h => ?_) | with_reducible refine splitBI (fun h => ?_) (fun h => ?_) | simp (disch := first | assumption | omega | (simp; done) | fail) [Tryd.results8, *]))
      · refine WC.mono (HLV.out _ _ (fun i y hy => by have := H8.out i y hy; simp (disch := omega) only [gput_lt]; exact H00.out i y hy)) ?_
        rintro _ rfl
        iterate 10 (all_goals try (first | with_reducible refine splitI (fun h => ?_) (fun h => ?_) | with_reducible refine splitBI (fun h => ?_) (fun h => ?_) | simp (disch := first | assumption | omega | (simp; done) | fail) [Tryd.results8, *]))
      · refine ih.out (vs.length - (k + 1)) _ _ (by omega) ⟨k + 1, hlt, rfl, rfl, by simp [*], by simp [*], by simp [*], by simp [*]⟩
  · have hltI : ¬(k : Int) < (vs.length : Int) := by omega
    iterate 10 (all_goals try (first | with_reducible refine splitI (fun h => ?_) (fun h => ?_) | with_reducible refine splitBI (fun h => ?_) (fun h => ?_) | simp (disch := first | assumption | omega | (simp; done) | fail) [Tryd.results8, *]))
    refine WC.mono (rcheckVars_w vs _ _ _ (HSV.out.mono (by omega) (fun a ha => by simp (disch := omega) only [gput_lt])) hvl) ?_
    rintro _ rfl
    iterate 10 (all_goals try (first | with_reducible refine splitI (fun h => ?_) (fun h => ?_) | with_reducible refine splitBI (fun h => ?_) (fun h => ?_) | simp (disch := first | assumption | omega | (simp; done) | fail) [Tryd.results8, *]))
    refine WC.mono (rcheck_w vs x _ _ _ _ (HSV.out.mono (by omega) (fun a ha => by simp (disch := omega) only [gput_lt])) hvl hx (repN_mono (by omega) (fun a ha => by simp (disch := omega) only [gput_lt]) HREP.out)) ?_
    rintro _ rfl
    iterate 10 (all_goals try (first | with_reducible refine splitI (fun h => ?_) (fun h => ?_) | with_reducible refine splitBI (fun h => ?_) (fun h => ?_) | simp (disch := first | assumption | omega | (simp; done) | fail) [Tryd.results8, *]))
    refine WC.mono (rcheckValues_w vs vals _ _ _ _ (HSV.out.mono (by omega) (fun a ha => by simp (disch := omega) only [gput_lt])) (HTV.out.mono (by omega) (fun a ha => by simp (disch := omega) only [gput_lt])) hvl hml) ?_
    rintro _ rfl
    iterate 10 (all_goals try (first | with_reducible refine splitI (fun h => ?_) (fun h => ?_) | with_reducible refine splitBI (fun h => ?_) (fun h => ?_) | simp (disch := first | assumption | omega | (simp; done) | fail) [Tryd.results8, *]))
    refine WC.mono (checkVars_w vs _ _ _ (HSV.out.mono (by omega) (fun a ha => by simp (disch := omega) only [gput_lt])) (by omega)) ?_
    rintro _ rfl
    iterate 10 (all_goals try (first | with_reducible refine splitI (fun h => ?_) (fun h => ?_) | with_reducible refine splitBI (fun h => ?_) (fun h => ?_) | simp (disch := first | assumption | omega | (simp; done) | fail) [Tryd.results8, *]))
    refine WC.mono (check_w vs x _ _ _ _ (by simp (disch := omega) only [gput_lt]; exact hg0) (by omega) (HSV.out.mono (by omega) (fun a ha => by simp (disch := omega) only [gput_lt])) hvl hx (repN_mono (by omega) (fun a ha => by simp (disch := omega) only [gput_lt]) HREP.out)) ?_
    rintro _ rfl
    iterate 10 (all_goals try (first | with_reducible refine splitI (fun h => ?_) (fun h => ?_) | with_reducible refine splitBI (fun h => ?_) (fun h => ?_) | simp (disch := first | assumption | omega | (simp; done) | fail) [Tryd.results8, *]))
    refine WC.mono (checkValues_w vs vals _ _ _ _ (by omega) (HSV.out.mono (by omega) (fun a ha => by simp (disch := omega) only [gput_lt])) (HTV.out.mono (by omega) (fun a ha => by simp (disch := omega) only [gput_lt])) hvl hml) ?_
    rintro _ rfl
    iterate 10 (all_goals try (first | with_reducible refine splitI (fun h => ?_) (fun h => ?_) | with_reducible refine splitBI (fun h => ?_) (fun h => ?_) | simp (disch := first | assumption | omega | (simp; done) | fail) [Tryd.results8, *]))
    refine WC.mono (Text_w vs x _ _ _ _ (by simp (disch := omega) only [gput_lt]; exact hg0) (by simp (disch := omega) only [gput_lt]; exact hg1) (by omega) (HSV.out.mono (by omega) (fun a ha => by simp (disch := omega) only [gput_lt])) hvl hx (repN_mono (by omega) (fun a ha => by simp (disch := omega) only [gput_lt]) HREP.out)) ?_
    rintro _ rfl
    iterate 10 (all_goals try (first | with_reducible refine splitI (fun h => ?_) (fun h => ?_) | with_reducible refine splitBI (fun h => ?_) (fun h => ?_) | simp (disch := first | assumption | omega | (simp; done) | fail) [Tryd.results8, *]))
    refine WC.mono (condition23_w vs x _ _ _ _ (by simp (disch := omega) only [gput_lt]; exact hg0) (by omega) (HSV.out.mono (by omega) (fun a ha => by simp (disch := omega) only [gput_lt])) hvl hx (repN_mono (by omega) (fun a ha => by simp (disch := omega) only [gput_lt]) HREP.out)) ?_
    rintro _ rfl
    obtain ⟨tx, t1, t2⟩ := text_e vs x
    obtain ⟨cb, t3, t4⟩ := cond_e vs x
    obtain ⟨v1, b1, t5, t6⟩ := eval_e vs x vals
    rw [t1, t3]
    dsimp only
    have HT2 := Hide.mk t2
    have HT4 := Hide.mk t4
    have HT5 := Hide.mk t5
    have HT6 := Hide.mk t6
    clear t1 t2 t3 t4 t5 t6
    cases cb <;> cases b1
    all_goals
      iterate 10 (all_goals try (first | with_reducible refine splitI (fun h => ?_) (fun h => ?_) | with_reducible refine splitBI (fun h => ?_) (fun h => ?_) | simp (disch := first | assumption | omega | (simp; done) | fail) [Tryd.results8, *]))
      refine WC.mono (Eval_w vs x vals _ _ _ _ _ (by simp (disch := omega) only [gput_lt]; exact hg0) (by omega) (HSV.out.mono (by omega) (fun a ha => by simp (disch := omega) only [gput_lt])) (HTV.out.mono (by omega) (fun a ha => by simp (disch := omega) only [gput_lt])) hvl hml hx (repN_mono (by omega) (fun a ha => by simp (disch := omega) only [gput_lt]) HREP.out)) ?_
      rw [HT5.out]
      rintro _ rfl
      dsimp only
      iterate 10 (all_goals try (first | with_reducible refine splitI (fun h => ?_) (fun h => ?_) | with_reducible refine splitBI (fun h => ?_) (fun h => ?_) | simp (disch := first | assumption | omega | (simp; done) | fail) [Tryd.results8, *]))
      refine WC.mono (Parse_w vs oneT atoi_one (by decide) _ _ sv (by simp (disch := omega) only [gput_lt]; exact hg0) (by simp (disch := omega) only [gput_lt]; exact hg3) (by omega) (HSV.out.mono (by omega) (fun a ha => by simp (disch := omega) only [gput_lt])) hvl) ?_
      rintro _ ⟨ds, g3, n3, rfl, hn3, hg3, hfr⟩
      rw [(one_e vs).1, (one_e vs).2]
      obtain ⟨op, kk, sv3, hcc, h1c3⟩ := repN_one hfr.rep
      subst hcc
      have h1p : allOne [.lit (.int .u8 op), .lit (.int .i64 kk), sv3] = true := by simp [h1c3]
      have hB3 : Hide (∀ i y, blks0[i]? = some y → g3 i = some y) := ⟨fun i y hy => by
        have := H8.out i y hy
        rw [hg3 i (by omega)]
        simp (disch := omega) only [gput_lt]
        exact H00.out i y hy⟩
      clear hfr hg3
      have hck := HT4.out
      have hcv := HT2.out
      have hce := HT6.out
      clear HT2 HT4 HT5 HT6
      generalize checkVarsM vs = cv at *
      generalize checkM vs x = ck at *
      generalize checkValuesM vs vals = cw at *
      dsimp only
      clear hlenS hlenT
      by_cases z1 : ck = 0
      · by_cases z2 : cw = 0
        · subst z1 z2
          clear hck hcv hce
          iterate 3 (all_goals try (first | with_reducible refine splitI (fun h => ?_) (fun h => ?_) | with_reducible refine splitBI (fun h => ?_) (fun h => ?_) | simp (config := { maxSteps := 1000000 }) (disch := first | assumption | omega | (simp; done) | fail) [Tryd.results8, *]))
          refine WC.mono (HLV.out _ _ (fun i y hy => by have := H8.out i y hy; simp (disch := omega) only [gput_lt]; exact hB3.out i y hy)) ?_
          rintro _ rfl
          iterate 3 (all_goals try (first | with_reducible refine splitI (fun h => ?_) (fun h => ?_) | with_reducible refine splitBI (fun h => ?_) (fun h => ?_) | simp (config := { maxSteps := 1000000 }) (disch := first | assumption | omega | (simp; done) | fail) [Tryd.results8, *]))
        · first
          | (exfalso; exact absurd (hce (.inr z2)).2 (by decide))
          | (obtain ⟨u1, -⟩ := hce (.inr z2)
             subst z1 u1
             clear hck hcv hce
             iterate 3 (all_goals try (first | with_reducible refine splitI (fun h => ?_) (fun h => ?_) | with_reducible refine splitBI (fun h => ?_) (fun h => ?_) | simp (config := { maxSteps := 1000000 }) (disch := first | assumption | omega | (simp; done) | fail) [Tryd.results8, *]))
             refine WC.mono (HLV.out _ _ (fun i y hy => by have := H8.out i y hy; simp (disch := omega) only [gput_lt]; exact hB3.out i y hy)) ?_
             rintro _ rfl
             iterate 3 (all_goals try (first | with_reducible refine splitI (fun h => ?_) (fun h => ?_) | with_reducible refine splitBI (fun h => ?_) (fun h => ?_) | simp (config := { maxSteps := 1000000 }) (disch := first | assumption | omega | (simp; done) | fail) [Tryd.results8, *])))
      · first
        | (exfalso; exact absurd (hce (.inl z1)).2 (by decide))
        | (exfalso; exact absurd (hck z1) (by decide))
        | (obtain ⟨u1, -⟩ := hce (.inl z1)
           have u3 := hcv z1
           subst u1 u3
           clear hck hcv hce
           iterate 3 (all_goals try (first | with_reducible refine splitI (fun h => ?_) (fun h => ?_) | with_reducible refine splitBI (fun h => ?_) (fun h => ?_) | simp (config := { maxSteps := 1000000 }) (disch := first | assumption | omega | (simp; done) | fail) [Tryd.results8, *]))
           refine WC.mono (HLV.out _ _ (fun i y hy => by have := H8.out i y hy; simp (disch := omega) only [gput_lt]; exact hB3.out i y hy)) ?_
           rintro _ rfl
           iterate 3 (all_goals try (first | with_reducible refine splitI (fun h => ?_) (fun h => ?_) | with_reducible refine splitBI (fun h => ?_) (fun h => ?_) | simp (config := { maxSteps := 1000000 }) (disch := first | assumption | omega | (simp; done) | fail) [Tryd.results8, *])))
end Go.Ai
end
