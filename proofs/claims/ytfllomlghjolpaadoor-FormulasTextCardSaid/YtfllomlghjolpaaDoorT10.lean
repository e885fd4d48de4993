/- A small verified interpreter over names, its proofs, and what was proved with it. No condition. -/
import Derived.Test.YtfllomlghjolpaaDoorT08
import Derived.Test.YtfllomlghjolpaaDoorT06
import Derived.Test.YtfllomlghjolpaaDoorT09
set_option linter.all false
set_option linter.deprecated false
section
namespace Go.Ai
open Go.Proofs
set_option maxRecDepth 10000
set_option maxHeartbeats 40000000
theorem ops_subs (op : Nat) (h : op < 15) : loadB (some (false, 1)) (some opsB) (op * 4) = some (.lit (.int .i64 (subsM op : Nat))) := by
  have : op = 0 ∨ op = 1 ∨ op = 2 ∨ op = 3 ∨ op = 4 ∨ op = 5 ∨ op = 6 ∨ op = 7 ∨ op = 8 ∨ op = 9 ∨ op = 10 ∨ op = 11 ∨ op = 12 ∨ op = 13 ∨ op = 14 := by omega
  rcases this with rfl | rfl | rfl | rfl | rfl | rfl | rfl | rfl | rfl | rfl | rfl | rfl | rfl | rfl | rfl <;> rfl
theorem valid_yes (st inp out : Int) : ∀ (m : Nat), m ≤ 1000000 → ∀ (x : NodeM), sizeN x ≤ m → validM st inp out x = true → ∀ (g : Nat → Option Blk) (n : Nat) (cs : List AV), g 0 = some opsB → 0 < n → repN g n x cs →
    WC 6 Tryd.prog 56 [.agg cs, .lit (.int .i64 st), .lit (.int .i64 inp), .lit (.int .i64 out)] ⟨.fn g, n⟩ fun r => r = .ret (.lit (.bool true)) ⟨.fn g, n⟩ := by
  intro m
  induction m with
  | zero => intro _ x hx; cases x; unfold sizeN at hx; omega
  | succ m ihm =>
    intro hm x hx hv g n cs hops hn0 hr
    have IH := Hide.mk ihm
    clear ihm
    refine WC.drop1 rfl ?_
    cases x with
    | mk op a b subs =>
      obtain ⟨hop, sv, rfl, hsv⟩ := hr
      simp only [validM, Bool.and_eq_true, decide_eq_true_eq] at hv
      obtain ⟨v1, v2, v3, v4, v5, v6, v7⟩ := hv
      have hld := ops_subs op v1
      obtain ⟨sv', hq⟩ : ∃ sv', Hide (sv' = sv) := ⟨_, ⟨rfl⟩⟩
      have hsz : sizeL subs ≤ m := by unfold sizeN at hx; omega
      have hlen : subs.length ≤ 1000000 := Nat.le_trans (len_size subs) (by omega)
      have V7 := Hide.mk v7
      have v1I : ¬(15 : Int) ≤ (op : Int) := by omega
      have v1J : (op : Int) < 15 := by omega
      have v3I : ¬a < 0 := by omega
      have v4I : ¬b < 0 := by omega
      have hdec : (op = 1 ∧ a < st ∧ b < 1) ∨ (op = 2 ∧ a < inp ∧ b < 1) ∨ (op = 3 ∧ a < inp ∧ b < out) ∨ (¬(op : Int) = 1 ∧ ¬(op : Int) = 2 ∧ ¬(op : Int) = 3 ∧ a < 1 ∧ b < 1) := by
        by_cases h1 : op = 1
        · subst h1; exact .inl ⟨rfl, by simpa using v5, by simpa using v6⟩
        by_cases h2 : op = 2
        · subst h2; exact .inr (.inl ⟨rfl, by simpa using v5, by simpa using v6⟩)
        by_cases h3 : op = 3
        · subst h3; exact .inr (.inr (.inl ⟨rfl, by simpa using v5, by simpa using v6⟩))
        · rw [if_neg h1, if_neg (by omega)] at v5
          rw [if_neg h3] at v6
          exact .inr (.inr (.inr ⟨by omega, by omega, by omega, v5, v6⟩))
      clear v5 v6 v7
      rw [← v2] at hld
      clear v2
      rcases hsv with ⟨hsub, rfl | rfl⟩ | ⟨ad, off, r, han, ⟨c, rfl⟩ | ⟨c, rfl⟩, hrow, hrep⟩
      all_goals rcases hdec with ⟨rfl, d1, d2⟩ | ⟨rfl, d1, d2⟩ | ⟨rfl, d1, d2⟩ | ⟨d3, d4, d5, d1, d2⟩
      all_goals have d1I := Int.not_le.2 d1
      all_goals have d2I := Int.not_le.2 d2
      all_goals refine WC.enterP (noO_ok _ _) hG pl56 Tryd.func56 rfl (by decide +kernel) (Nat.le_of_ble_eq_true (by kernel_rfl)) ?_
      all_goals iterate 40 (all_goals try (first | with_reducible refine splitI (fun h => ?_) (fun h => ?_) | with_reducible refine splitBI (fun h => ?_) (fun h => ?_) | simp (config := { maxSteps := 1000000 }) (disch := first | assumption | omega | (simp; done) | fail) [Tryd.results56, *]))
      all_goals
        refine LX.ind (fun m gf H' => ∃ (k n' : Nat) (g' : Nat → Option Blk), k ≤ subs.length ∧ m = subs.length - k ∧ H' = ⟨.fn g', n'⟩ ∧ n < n' ∧ (∀ b, b < n → g' b = g b) ∧
          gf 1 = some (.lit (.int .i64 st)) ∧ gf 2 = some (.lit (.int .i64 inp)) ∧ gf 3 = some (.lit (.int .i64 out)) ∧ gf 61 = some sv' ∧ gf 62 = some (.lit (.int .i64 subs.length)) ∧ gf 63 = some (.lit (.int .i64 k)) ∧ validL st inp out (subs.drop k) = true) (m0 := subs.length) ?_ ?_
        · exact ⟨0, n + 1, _, Nat.zero_le _, rfl, rfl, by omega, fun b hb => gput_lt hb, by simp, by simp, by simp, by simp [hq.out], by simp [*], by simp, V7.out⟩
        rintro m' gf H' ⟨k, n', g', hk, rfl, rfl, hn', hg', w1, w2, w3, w61, w62, w63, hc⟩ ih
        refine LX.roundP (noO_ok _ _) hG pl56 (by decide +kernel) ?_
        rw [hq.out] at w61
        have HG := Hide.mk hg'
        have HC := Hide.mk hc
        clear hg' hc
        by_cases hlt : k < subs.length
        · first
          | (exfalso; rw [hsub] at hlt; simp at hlt; done)
          | (have hy0 := repL_at hrep k hlt
             have hrl := repL_len hrep
             have hrow' := (hrow.mono (HG.out ad han)).agg (k := k * 4) (s := 4) (by omega)
             have hdrop : subs.drop k = subs[k] :: subs.drop (k + 1) := List.drop_eq_getElem_cons hlt
             have hszy : sizeN subs[k] ≤ m := Nat.le_trans (size_mem (List.getElem_mem hlt)) hsz
             have hvk := HC.out
             rw [hdrop, validL, Bool.and_eq_true] at hvk
             generalize subs[k] = y at hy0 hdrop hszy hvk
             obtain ⟨hvy, hvr⟩ := hvk
             obtain ⟨k2, k3, sv2, hcy, h1c, hop2⟩ := repN_one hy0
             rw [hcy] at hrow' hy0
             have h1a : allOne [.lit (.int .u8 y.op), .lit (.int .i64 k2), .lit (.int .i64 k3), sv2] = true := by simp [h1c]
             have HY := Hide.mk hy0
             have HD := Hide.mk hdrop
             have HR := Hide.mk hrep
             have HR2 := Hide.mk hrow
             have HVY := Hide.mk hvy
             have HVR := Hide.mk hvr
             have hlt' : (k : Int) < (subs.length : Int) := by omega
             clear hy0 hdrop hrep hrow hcy hrl hvy hvr
             iterate 14 (all_goals try (first | with_reducible refine splitI (fun h => ?_) (fun h => ?_) | with_reducible refine splitBI (fun h => ?_) (fun h => ?_) | simp (config := { maxSteps := 1000000 }) (disch := first | assumption | omega | (simp; done) | fail) [Tryd.results56, *]))
             refine WC.mono (IH.out (by omega) y hszy HVY.out _ _ _ (by rw [gput_lt (by omega)]; exact (HG.out 0 hn0).trans hops) (by omega) (repN_mono (b' := n' + 1) (by omega) (fun a ha => (gput_lt (by omega)).trans (HG.out a ha)) HY.out)) ?_
             rintro _ rfl
             iterate 14 (all_goals try (first | with_reducible refine splitI (fun h => ?_) (fun h => ?_) | with_reducible refine splitBI (fun h => ?_) (fun h => ?_) | simp (config := { maxSteps := 1000000 }) (disch := first | assumption | omega | (simp; done) | fail) [Tryd.results56, *]))
             exact ih.out (subs.length - (k + 1)) _ _ (by omega) ⟨k + 1, n' + 1, _, hlt, rfl, rfl, by omega, fun b hb => (gput_lt (by omega)).trans (HG.out b hb), by simp [*], by simp [*], by simp [*], by simp [*, hq.out], by simp [*], by simp [*], HVR.out⟩)
        · have hkn : k = subs.length := by omega
          subst hkn
          first | clear hsub | clear hrep hrow
          iterate 14 (all_goals try (first | with_reducible refine splitI (fun h => ?_) (fun h => ?_) | with_reducible refine splitBI (fun h => ?_) (fun h => ?_) | simp (config := { maxSteps := 1000000 }) (disch := first | assumption | omega | (simp; done) | fail) [Tryd.results56, *]))
          all_goals first
            | (exfalso; omega)
            | exact ⟨_, ⟨rfl, rfl⟩, ⟨Nat.le_of_lt hn', fun b hb => HG.out b hb⟩⟩
            | exact ⟨Nat.le_of_lt hn', fun b hb => HG.out b hb⟩
end Go.Ai
end

section
namespace Go.Ai
open Go.Proofs
set_option maxRecDepth 10000
set_option maxHeartbeats 40000000
theorem checked_yes (st inp out : Int) (x : NodeM) (hx : sizeN x ≤ 1000000) (hv : validM st inp out x = true) (hsm : (smallM x 64).1 = true) (g : Nat → Option Blk) (n : Nat) (cs : List AV) (hops : g 0 = some opsB) (hn0 : 0 < n) (hr : repN g n x cs) :
    WC 6 Tryd.prog 38 [.agg cs, .lit (.int .i64 st), .lit (.int .i64 inp), .lit (.int .i64 out)] ⟨.fn g, n⟩ fun r => ∃ g' n', r = .ret (.lit (.int .i64 0)) ⟨.fn g', n'⟩ ∧ n ≤ n' ∧ ∀ b, b < n → g' b = g b := by
  obtain ⟨k2, k3, sv2, hcy, h1c, hop2⟩ := repN_one hr
  subst hcy
  have h1a : allOne [.lit (.int .u8 x.op), .lit (.int .i64 k2), .lit (.int .i64 k3), sv2] = true := by simp [h1c]
  have HR := Hide.mk hr
  clear hr
  refine WC.enterP (noO_ok _ _) hG [] Tryd.func38 rfl (by decide +kernel) (Nat.le_of_ble_eq_true (by kernel_rfl)) ?_
  iterate 12 (all_goals try (first | with_reducible refine splitI (fun h => ?_) (fun h => ?_) | with_reducible refine splitBI (fun h => ?_) (fun h => ?_) | simp (config := { maxSteps := 1000000 }) (disch := first | assumption | omega | (simp; done) | fail) [Tryd.results38, *]))
  refine WC.mono (small_w 1000000 (Nat.le_refl _) x hx _ _ (n + 1) _ 64 (repN_mono (by omega) (fun a ha => (by simp (disch := omega) only [gput_lt])) HR.out) (by omega) (by simp) (by omega) (by omega)) ?_
  rintro _ rfl
  rw [hsm]
  iterate 12 (all_goals try (first | with_reducible refine splitI (fun h => ?_) (fun h => ?_) | with_reducible refine splitBI (fun h => ?_) (fun h => ?_) | simp (config := { maxSteps := 1000000 }) (disch := first | assumption | omega | (simp; done) | fail) [Tryd.results38, *]))
  refine WC.mono (valid_yes st inp out 1000000 (Nat.le_refl _) x hx hv _ _ _ (by simp (disch := omega) only [gput_lt, gput_ne]; exact hops) (by omega) (repN_mono (by omega) (fun a ha => by simp (disch := omega) only [gput_lt, gput_ne]) HR.out)) ?_
  rintro _ rfl
  iterate 12 (all_goals try (first | with_reducible refine splitI (fun h => ?_) (fun h => ?_) | with_reducible refine splitBI (fun h => ?_) (fun h => ?_) | simp (config := { maxSteps := 1000000 }) (disch := first | assumption | omega | (simp; done) | fail) [Tryd.results38, *]))
  refine ⟨_, _, ⟨rfl, rfl⟩, by omega, fun b hb => ?_⟩
  simp (disch := omega) only [gput_lt, gput_ne]
end Go.Ai
end

section
namespace Go.Ai
open Go.Proofs
set_option maxRecDepth 10000
set_option maxHeartbeats 40000000
theorem ops_agg (op : Nat) (h : op < 15) : ∃ fn, loadB (some (true, 4)) (some opsB) (op * 4) = some (.agg [.lit (.int .i64 (subsM op : Nat)), .lit (.int .i64 (rankM op)), .lit (.string (signB op)), .lit (.func (.func fn) #[] #[])]) := by
  rcases op_cases h with rfl | rfl | rfl | rfl | rfl | rfl | rfl | rfl | rfl | rfl | rfl | rfl | rfl | rfl | rfl <;> exact ⟨_, rfl⟩
theorem rank_in (op : Nat) : 1 ≤ rankM op ∧ rankM op ≤ 4 := by unfold rankM; split <;> (try split) <;> (try split) <;> omega
theorem par_zero (w : ByteArray) (op : Nat) : parM w (rankM op) 0 = w := by unfold parM; exact if_neg (by have := rank_in op; omega)
theorem write_w : ∀ (m : Nat), m ≤ 1000000 → ∀ (x : NodeM), sizeN x ≤ m → ∀ (g : Nat → Option Blk) (n : Nat) (cs : List AV) (least : Int), g 0 = some opsB → g 1 = some (.cells bP false 0) → 1 < n → repN g n x cs → validM 10000 10000 10000 x = true →
    WC 6 Tryd.prog 39 [.agg cs, .lit (.int .i64 least)] ⟨.fn g, n⟩ fun r => r = .ret (.lit (.string (parM (textM x) (rankM x.op) least))) ⟨.fn g, n⟩ := by
  intro m
  induction m with
  | zero => intro _ x hx; cases x; unfold sizeN at hx; omega
  | succ m ihm =>
    intro hm x hx g n cs least hg hgp hn hr hv
    have IH := Hide.mk ihm
    clear ihm
    refine WC.drop1 rfl ?_
    cases x with
    | mk op a b subs =>
      generalize hret : parM (textM (.mk op a b subs)) (rankM (NodeM.mk op a b subs).op) least = ret
      simp only [validM, Bool.and_eq_true, decide_eq_true_eq] at hv
      obtain ⟨v1, v2, v3, v4, v5, v6, v7⟩ := hv
      obtain ⟨hop, sv1, rfl, hsv1⟩ := hr
      have h1c : oneC sv1 = true := by rcases hsv1 with ⟨_, rfl | rfl⟩ | ⟨a, off, r, _, ⟨c, rfl⟩ | ⟨c, rfl⟩, _⟩ <;> rfl
      have h1a : allOne [.lit (.int .u8 op), .lit (.int .i64 a), .lit (.int .i64 b), sv1] = true := by simp [h1c]
      obtain ⟨fn, hrow⟩ := ops_agg op v1
      obtain ⟨hrk1, hrk2⟩ := rank_in op
      have hsg := sign_size op
      have hallr : allOne [.lit (.int .i64 (subsM op : Nat)), .lit (.int .i64 (rankM op)), .lit (.string (signB op)), .lit (.func (.func fn) #[] #[])] = true := by simp
      obtain ⟨ka, rfl⟩ := Int.eq_ofNat_of_zero_le v3
      obtain ⟨kb, rfl⟩ := Int.eq_ofNat_of_zero_le v4
      have va : ka < 10000 := by split at v5 <;> (try split at v5) <;> omega
      have vb : kb < 10000 := by split at v6 <;> omega
      have da := dec_size ka 3 (by omega)
      have db := dec_size kb 3 (by omega)
      have hspz : (⟨#[32]⟩ : ByteArray).size = 1 := rfl
      have hpl : (⟨#[40]⟩ : ByteArray).size = 1 := rfl
      have hpr : (⟨#[41]⟩ : ByteArray).size = 1 := rfl
      have hql : (⟨#[91]⟩ : ByteArray).size = 1 := rfl
      have hqr : (⟨#[93]⟩ : ByteArray).size = 1 := rfl
      have hqu : (⟨#[32, 85, 32]⟩ : ByteArray).size = 3 := rfl
      clear v5 v6
      have hopI : (op : Int) < 15 := by omega
      match subs, hx, v2, v7, hsv1, hret with
      | [], hx, v2, v7, hsv1, hret =>
        have ho : op = 0 ∨ op = 1 ∨ op = 2 ∨ op = 3 := by
          rcases op_cases v1 with rfl | rfl | rfl | rfl | rfl | rfl | rfl | rfl | rfl | rfl | rfl | rfl | rfl | rfl | rfl <;> simp [subsM] at v2 ⊢
        clear hsv1 v2 v7 IH
        rcases ho with rfl | rfl | rfl | rfl
        · rw [show subsM 0 = 0 from rfl] at hrow hallr
          have h2 : ((⟨#[40]⟩ : ByteArray) ++ signB 0).size ≤ 200000001 := by rw [ba_size_append]; omega
          have HRET : Hide (parM (signB 0) (rankM 0) least = ret) := ⟨by rw [← hret]; rfl⟩
          clear hret
          refine WC.enterP (noO_ok _ _) hG pl39 Tryd.func39 rfl (by decide +kernel) (Nat.le_of_ble_eq_true (by kernel_rfl)) ?_
          iterate 20 (all_goals try (first | with_reducible refine splitI (fun h => ?_) (fun h => ?_) | with_reducible refine splitBI (fun h => ?_) (fun h => ?_) | simp (config := { maxSteps := 1000000 }) (disch := first | assumption | omega | (simp; done) | fail) [Tryd.results39, *]))
          all_goals
            have e := HRET.out
            refine ⟨_, ⟨?_, rfl⟩, ⟨by dsimp only; omega, fun b hb => ?_⟩⟩
            · rw [← e]; unfold parM
              first | (rw [if_pos (by assumption)]) | (rw [if_neg (by omega)])
              try simp only [ByteArray.append_assoc]
            · have hb' : b < n := hb
              show gput _ _ _ _ = _
              simp (disch := omega) only [gput_lt]
              try rfl
        · rw [show subsM 1 = 0 from rfl] at hrow hallr
          have HRET : Hide (parM (signB 1 ++ ⟨#[32]⟩ ++ decB ka) (rankM 1) least = ret) := ⟨by rw [← hret]; rfl⟩
          clear hret
          have s1 : ((⟨#[32]⟩ : ByteArray) ++ decB ka).size ≤ 200000000 := by rw [ba_size_append]; omega
          have s2 : (signB 1 ++ ((⟨#[32]⟩ : ByteArray) ++ decB ka)).size ≤ 200000000 := by rw [ba_size_append, ba_size_append]; omega
          have s3 : ((⟨#[40]⟩ : ByteArray) ++ (signB 1 ++ ((⟨#[32]⟩ : ByteArray) ++ decB ka))).size ≤ 200000001 := by rw [ba_size_append, ba_size_append, ba_size_append]; omega
          refine WC.enterP (noO_ok _ _) hG pl39 Tryd.func39 rfl (by decide +kernel) (Nat.le_of_ble_eq_true (by kernel_rfl)) ?_
          iterate 20 (all_goals try (first | with_reducible refine splitI (fun h => ?_) (fun h => ?_) | with_reducible refine splitBI (fun h => ?_) (fun h => ?_) | simp (config := { maxSteps := 1000000 }) (disch := first | assumption | omega | (simp; done) | fail) [Tryd.results39, *]))
          refine WC.mono (itoa_w ka (by omega) _ _ (by simp (disch := omega) only [gput_lt]; exact hgp) (by omega)) ?_
          rintro _ rfl
          generalize decB ka = dka at *
          iterate 20 (all_goals try (first | with_reducible refine splitI (fun h => ?_) (fun h => ?_) | with_reducible refine splitBI (fun h => ?_) (fun h => ?_) | simp (config := { maxSteps := 1000000 }) (disch := first | assumption | omega | (simp; done) | fail) [Tryd.results39, *]))
          all_goals
            have e := HRET.out
            refine ⟨_, ⟨?_, rfl⟩, ⟨by dsimp only; omega, fun b hb => ?_⟩⟩
            · rw [← e]; unfold parM
              first | (rw [if_pos (by assumption)]) | (rw [if_neg (by omega)])
              try simp only [ByteArray.append_assoc]
            · have hb' : b < n := hb
              show gput _ _ _ _ = _
              simp (disch := omega) only [gput_lt]
              try rfl
        · rw [show subsM 2 = 0 from rfl] at hrow hallr
          have HRET : Hide (parM (signB 2 ++ ⟨#[32]⟩ ++ decB ka) (rankM 2) least = ret) := ⟨by rw [← hret]; rfl⟩
          clear hret
          have s1 : ((⟨#[32]⟩ : ByteArray) ++ decB ka).size ≤ 200000000 := by rw [ba_size_append]; omega
          have s2 : (signB 2 ++ ((⟨#[32]⟩ : ByteArray) ++ decB ka)).size ≤ 200000000 := by rw [ba_size_append, ba_size_append]; omega
          have s3 : ((⟨#[40]⟩ : ByteArray) ++ (signB 2 ++ ((⟨#[32]⟩ : ByteArray) ++ decB ka))).size ≤ 200000001 := by rw [ba_size_append, ba_size_append, ba_size_append]; omega
          refine WC.enterP (noO_ok _ _) hG pl39 Tryd.func39 rfl (by decide +kernel) (Nat.le_of_ble_eq_true (by kernel_rfl)) ?_
          iterate 20 (all_goals try (first | with_reducible refine splitI (fun h => ?_) (fun h => ?_) | with_reducible refine splitBI (fun h => ?_) (fun h => ?_) | simp (config := { maxSteps := 1000000 }) (disch := first | assumption | omega | (simp; done) | fail) [Tryd.results39, *]))
          refine WC.mono (itoa_w ka (by omega) _ _ (by simp (disch := omega) only [gput_lt]; exact hgp) (by omega)) ?_
          rintro _ rfl
          generalize decB ka = dka at *
          iterate 20 (all_goals try (first | with_reducible refine splitI (fun h => ?_) (fun h => ?_) | with_reducible refine splitBI (fun h => ?_) (fun h => ?_) | simp (config := { maxSteps := 1000000 }) (disch := first | assumption | omega | (simp; done) | fail) [Tryd.results39, *]))
          all_goals
            have e := HRET.out
            refine ⟨_, ⟨?_, rfl⟩, ⟨by dsimp only; omega, fun b hb => ?_⟩⟩
            · rw [← e]; unfold parM
              first | (rw [if_pos (by assumption)]) | (rw [if_neg (by omega)])
              try simp only [ByteArray.append_assoc]
            · have hb' : b < n := hb
              show gput _ _ _ _ = _
              simp (disch := omega) only [gput_lt]
              try rfl
        · rw [show subsM 3 = 0 from rfl] at hrow hallr
          have HRET : Hide (parM (signB 3 ++ ⟨#[32]⟩ ++ decB ka ++ ⟨#[32]⟩ ++ decB kb) (rankM 3) least = ret) := ⟨by rw [← hret]; rfl⟩
          clear hret
          have s1 : ((⟨#[32]⟩ : ByteArray) ++ decB ka).size ≤ 200 := by simp only [ba_size_append]; omega
          have s2 : (((⟨#[32]⟩ : ByteArray) ++ decB ka) ++ (⟨#[32]⟩ : ByteArray)).size ≤ 200 := by simp only [ba_size_append]; omega
          have s3 : ((((⟨#[32]⟩ : ByteArray) ++ decB ka) ++ (⟨#[32]⟩ : ByteArray)) ++ decB kb).size ≤ 200 := by simp only [ba_size_append]; omega
          have s4 : (signB 3 ++ ((((⟨#[32]⟩ : ByteArray) ++ decB ka) ++ (⟨#[32]⟩ : ByteArray)) ++ decB kb)).size ≤ 200 := by simp only [ba_size_append]; omega
          have s5 : ((⟨#[40]⟩ : ByteArray) ++ (signB 3 ++ ((((⟨#[32]⟩ : ByteArray) ++ decB ka) ++ (⟨#[32]⟩ : ByteArray)) ++ decB kb))).size ≤ 200 := by simp only [ba_size_append]; omega
          refine WC.enterP (noO_ok _ _) hG pl39 Tryd.func39 rfl (by decide +kernel) (Nat.le_of_ble_eq_true (by kernel_rfl)) ?_
          iterate 20 (all_goals try (first | with_reducible refine splitI (fun h => ?_) (fun h => ?_) | with_reducible refine splitBI (fun h => ?_) (fun h => ?_) | simp (config := { maxSteps := 1000000 }) (disch := first | assumption | omega | (simp; done) | fail) [Tryd.results39, *]))
          refine WC.mono (itoa_w ka (by omega) _ _ (by simp (disch := omega) only [gput_lt]; exact hgp) (by omega)) ?_
          rintro _ rfl
          generalize decB ka = dka at *
          iterate 20 (all_goals try (first | with_reducible refine splitI (fun h => ?_) (fun h => ?_) | with_reducible refine splitBI (fun h => ?_) (fun h => ?_) | simp (config := { maxSteps := 1000000 }) (disch := first | assumption | omega | (simp; done) | fail) [Tryd.results39, *]))
          refine WC.mono (itoa_w kb (by omega) _ _ (by simp (disch := omega) only [gput_lt]; exact hgp) (by omega)) ?_
          rintro _ rfl
          generalize decB kb = dkb at *
          iterate 20 (all_goals try (first | with_reducible refine splitI (fun h => ?_) (fun h => ?_) | with_reducible refine splitBI (fun h => ?_) (fun h => ?_) | simp (config := { maxSteps := 1000000 }) (disch := first | assumption | omega | (simp; done) | fail) [Tryd.results39, *]))
          all_goals
            have e := HRET.out
            refine ⟨_, ⟨?_, rfl⟩, ⟨by dsimp only; omega, fun b hb => ?_⟩⟩
            · rw [← e]; unfold parM
              first | (rw [if_pos (by assumption)]) | (rw [if_neg (by omega)])
              try simp only [ByteArray.append_assoc]
            · have hb' : b < n := hb
              show gput _ _ _ _ = _
              simp (disch := omega) only [gput_lt]
              try rfl
      | [y], hx, v2, v7, hsv1, hret =>
        have hs1 : subsM op = 1 := v2.symm
        have hrk3 : rankM op = 3 := by unfold rankM; rw [if_neg (by rintro rfl; revert hs1; decide), if_neg (by rintro rfl; revert hs1; decide), if_pos hs1]
        have n10 : ¬(op : Int) = 10 := by intro e; have e2 : op = 10 := by omega
                                          subst e2; revert hs1; decide
        have n14 : ¬(op : Int) = 14 := by intro e; have e2 : op = 14 := by omega
                                          subst e2; revert hs1; decide
        rw [hs1, hrk3] at hrow hallr
        rcases hsv1 with ⟨hsub, _⟩ | ⟨ad, off, r, han, hsl, hrow1, hrep⟩
        · cases hsub
        obtain ⟨c1, r1, rfl, hy1, hr1⟩ := hrep
        have hr1' : r1 = [] := hr1
        subst hr1'
        obtain ⟨k2, k3, sv2, hcy, h2c, hop2⟩ := repN_one hy1
        subst hcy
        have h2a : allOne [.lit (.int .u8 y.op), .lit (.int .i64 k2), .lit (.int .i64 k3), sv2] = true := by simp [h2c]
        have hrw := hrow1.agg (k := 0) (s := 4) (by simp)
        simp only [Nat.add_zero, List.append_nil, List.drop_zero, List.take] at hrw
        simp only [validL, Bool.and_eq_true] at v7
        have hvy := v7.1
        have hsy : sizeN y ≤ m := by unfold sizeN sizeL sizeL at hx; omega
        have hty := text_size y hvy
        have hps := par_size (textM y) (rankM y.op) 3
        have HY := Hide.mk hy1
        have IHY : Hide (∀ (g' : Nat → Option Blk) (n' : Nat), g' 0 = some opsB → g' 1 = some (.cells bP false 0) → 1 < n' → repN g' n' y [.lit (.int .u8 y.op), .lit (.int .i64 k2), .lit (.int .i64 k3), sv2] →
            WC 6 Tryd.prog 39 [.agg [.lit (.int .u8 y.op), .lit (.int .i64 k2), .lit (.int .i64 k3), sv2], .lit (.int .i64 3)] ⟨.fn g', n'⟩ fun r => r = .ret (.lit (.string (parM (textM y) (rankM y.op) 3))) ⟨.fn g', n'⟩) :=
          ⟨fun g' n' q1 q0 q2 q3 => IH.out (by omega) y hsy g' n' _ 3 q1 q0 q2 q3 hvy⟩
        have HRET : Hide (parM (signB op ++ ⟨#[32]⟩ ++ parM (textM y) (rankM y.op) 3) 3 least = ret) := ⟨by rw [← hret]; show _ = parM _ (rankM op) _; rw [hrk3]; rfl⟩
        have hwl : (parM (textM y) (rankM y.op) 3).size ≤ 100000000 := by omega
        generalize parM (textM y) (rankM y.op) 3 = wy at HRET IHY hwl
        generalize signB op = sg at *
        have s1 : ((⟨#[32]⟩ : ByteArray) ++ wy).size ≤ 100000001 := by simp only [ba_size_append]; omega
        have s2 : (sg ++ ((⟨#[32]⟩ : ByteArray) ++ wy)).size ≤ 200000000 := by simp only [ba_size_append]; omega
        have s3 : ((⟨#[40]⟩ : ByteArray) ++ (sg ++ ((⟨#[32]⟩ : ByteArray) ++ wy))).size ≤ 200000001 := by simp only [ba_size_append]; omega
        clear hret v2 v7 hrow1 hy1 hr1 hty hps hvy hsy hs1 hrk3 hrk1 hrk2 hop
        rcases hsl with ⟨c, rfl⟩ | ⟨c, rfl⟩
        all_goals
          refine WC.enterP (noO_ok _ _) hG pl39 Tryd.func39 rfl (by decide +kernel) (Nat.le_of_ble_eq_true (by kernel_rfl)) ?_
          iterate 20 (all_goals try (first | with_reducible refine splitI (fun h => ?_) (fun h => ?_) | with_reducible refine splitBI (fun h => ?_) (fun h => ?_) | simp (config := { maxSteps := 1000000 }) (disch := first | assumption | omega | (simp; done) | fail) [Tryd.results39, *]))
          refine WC.mono (IHY.out _ _ (by simp (disch := omega) only [gput_lt]; exact hg) (by simp (disch := omega) only [gput_lt]; exact hgp) (by omega) (repN_mono (by omega) (fun a ha => by simp (disch := omega) only [gput_lt]) HY.out)) ?_
          rintro _ rfl
          iterate 20 (all_goals try (first | with_reducible refine splitI (fun h => ?_) (fun h => ?_) | with_reducible refine splitBI (fun h => ?_) (fun h => ?_) | simp (config := { maxSteps := 1000000 }) (disch := first | assumption | omega | (simp; done) | fail) [Tryd.results39, *]))
          
        all_goals
          have e := HRET.out
          refine ⟨_, ⟨?_, rfl⟩, ⟨by dsimp only; omega, fun b hb => ?_⟩⟩
          · rw [← e]; unfold parM
            first | (rw [if_pos (by assumption)]) | (rw [if_neg (by omega)])
            try simp only [ByteArray.append_assoc]
          · have hb' : b < n := hb
            show gput _ _ _ _ = _
            simp (disch := omega) only [gput_lt]
            try rfl
      | [y, z], hx, v2, v7, hsv1, hret =>
        have ho : op = 5 ∨ op = 6 ∨ op = 10 ∨ op = 14 := by
          rcases op_cases v1 with rfl | rfl | rfl | rfl | rfl | rfl | rfl | rfl | rfl | rfl | rfl | rfl | rfl | rfl | rfl <;> simp [subsM] at v2 ⊢
        rcases hsv1 with ⟨hsub, _⟩ | ⟨ad, off, r, han, hsl, hrow1, hrep⟩
        · cases hsub
        obtain ⟨c1, r1, rfl, hy1, c2, r2, rfl, hz1, hr2⟩ := hrep
        have hr2' : r2 = [] := hr2
        subst hr2'
        obtain ⟨k2, k3, sv2, hcy, h2c, hop2⟩ := repN_one hy1
        subst hcy
        obtain ⟨j2, j3, sv3, hcz, h3c, hop3⟩ := repN_one hz1
        subst hcz
        have h2a : allOne [.lit (.int .u8 y.op), .lit (.int .i64 k2), .lit (.int .i64 k3), sv2] = true := by simp [h2c]
        have h3a : allOne [.lit (.int .u8 z.op), .lit (.int .i64 j2), .lit (.int .i64 j3), sv3] = true := by simp [h3c]
        have hrw1 := hrow1.agg (k := 0) (s := 4) (by simp)
        have hrw2 := hrow1.agg (k := 4) (s := 4) (by simp)
        simp only [Nat.add_zero, List.append_nil, List.drop_zero, List.take, List.cons_append, List.nil_append, List.drop_succ_cons] at hrw1 hrw2
        simp only [validL, Bool.and_eq_true] at v7
        have hvy := v7.1
        have hvz := v7.2.1
        have hsy : sizeN y ≤ m := by unfold sizeN sizeL sizeL sizeL at hx; omega
        have hsz : sizeN z ≤ m := by unfold sizeN sizeL sizeL sizeL at hx; omega
        have hty := text_size y hvy
        have htz := text_size z hvz
        have HY := Hide.mk hy1
        have HZ := Hide.mk hz1
        clear hrow1 hy1 hz1 hr2 v7
        rcases ho with rfl | rfl | rfl | rfl
        · rw [show subsM 5 = 2 from rfl, show rankM 5 = 2 from rfl] at hrow hallr
          have HRET : Hide (parM (parM (textM y) (rankM y.op) 2 ++ ⟨#[32]⟩ ++ signB 5 ++ ⟨#[32]⟩ ++ parM (textM z) (rankM z.op) 3) 2 least = ret) := ⟨by rw [← hret]; rfl⟩
          have IHY : Hide (∀ (g' : Nat → Option Blk) (n' : Nat), g' 0 = some opsB → g' 1 = some (.cells bP false 0) → 1 < n' → repN g' n' y [.lit (.int .u8 y.op), .lit (.int .i64 k2), .lit (.int .i64 k3), sv2] →
              WC 6 Tryd.prog 39 [.agg [.lit (.int .u8 y.op), .lit (.int .i64 k2), .lit (.int .i64 k3), sv2], .lit (.int .i64 2)] ⟨.fn g', n'⟩ fun r => r = .ret (.lit (.string (parM (textM y) (rankM y.op) 2))) ⟨.fn g', n'⟩) :=
            ⟨fun g' n' q1 q0 q2 q3 => IH.out (by omega) y hsy g' n' _ 2 q1 q0 q2 q3 hvy⟩
          have IHZ : Hide (∀ (g' : Nat → Option Blk) (n' : Nat), g' 0 = some opsB → g' 1 = some (.cells bP false 0) → 1 < n' → repN g' n' z [.lit (.int .u8 z.op), .lit (.int .i64 j2), .lit (.int .i64 j3), sv3] →
              WC 6 Tryd.prog 39 [.agg [.lit (.int .u8 z.op), .lit (.int .i64 j2), .lit (.int .i64 j3), sv3], .lit (.int .i64 3)] ⟨.fn g', n'⟩ fun r => r = .ret (.lit (.string (parM (textM z) (rankM z.op) 3))) ⟨.fn g', n'⟩) :=
            ⟨fun g' n' q1 q0 q2 q3 => IH.out (by omega) z hsz g' n' _ 3 q1 q0 q2 q3 hvz⟩
          have hps := par_size (textM y) (rankM y.op) 2
          have hpz := par_size (textM z) (rankM z.op) 3
          have hwl : (parM (textM y) (rankM y.op) 2).size ≤ 100000000 := by omega
          have hwz : (parM (textM z) (rankM z.op) 3).size ≤ 100000000 := by omega
          generalize parM (textM y) (rankM y.op) 2 = wy at HRET IHY hwl
          generalize parM (textM z) (rankM z.op) 3 = wz at HRET IHZ hwz
          generalize signB 5 = sg at *
          have s0 : (wy ++ (⟨#[32]⟩ : ByteArray)).size ≤ 400000000 := by simp only [ba_size_append]; omega
          have s1 : ((wy ++ (⟨#[32]⟩ : ByteArray)) ++ sg).size ≤ 400000000 := by simp only [ba_size_append]; omega
          have s2 : (((wy ++ (⟨#[32]⟩ : ByteArray)) ++ sg) ++ (⟨#[32]⟩ : ByteArray)).size ≤ 400000000 := by simp only [ba_size_append]; omega
          have s3 : ((((wy ++ (⟨#[32]⟩ : ByteArray)) ++ sg) ++ (⟨#[32]⟩ : ByteArray)) ++ wz).size ≤ 400000000 := by simp only [ba_size_append]; omega
          have s4 : ((⟨#[40]⟩ : ByteArray) ++ ((((wy ++ (⟨#[32]⟩ : ByteArray)) ++ sg) ++ (⟨#[32]⟩ : ByteArray)) ++ wz)).size ≤ 400000000 := by simp only [ba_size_append]; omega
          clear hret v2 hps hpz hty htz hvy hvz hsy hsz hrk1 hrk2 hop IH
          rcases hsl with ⟨c, rfl⟩ | ⟨c, rfl⟩
          all_goals
            refine WC.enterP (noO_ok _ _) hG pl39 Tryd.func39 rfl (by decide +kernel) (Nat.le_of_ble_eq_true (by kernel_rfl)) ?_
            iterate 20 (all_goals try (first | with_reducible refine splitI (fun h => ?_) (fun h => ?_) | with_reducible refine splitBI (fun h => ?_) (fun h => ?_) | simp (config := { maxSteps := 1000000 }) (disch := first | assumption | omega | (simp; done) | fail) [Tryd.results39, *]))
            refine WC.mono (IHY.out _ _ (by simp (disch := omega) only [gput_lt]; exact hg) (by simp (disch := omega) only [gput_lt]; exact hgp) (by omega) (repN_mono (by omega) (fun a ha => by simp (disch := omega) only [gput_lt]) HY.out)) ?_
            rintro _ rfl
            iterate 20 (all_goals try (first | with_reducible refine splitI (fun h => ?_) (fun h => ?_) | with_reducible refine splitBI (fun h => ?_) (fun h => ?_) | simp (config := { maxSteps := 1000000 }) (disch := first | assumption | omega | (simp; done) | fail) [Tryd.results39, *]))
            refine WC.mono (IHZ.out _ _ (by simp (disch := omega) only [gput_lt]; exact hg) (by simp (disch := omega) only [gput_lt]; exact hgp) (by omega) (repN_mono (by omega) (fun a ha => by simp (disch := omega) only [gput_lt]) HZ.out)) ?_
            rintro _ rfl
            iterate 20 (all_goals try (first | with_reducible refine splitI (fun h => ?_) (fun h => ?_) | with_reducible refine splitBI (fun h => ?_) (fun h => ?_) | simp (config := { maxSteps := 1000000 }) (disch := first | assumption | omega | (simp; done) | fail) [Tryd.results39, *]))
            
          all_goals
            have e := HRET.out
            refine ⟨_, ⟨?_, rfl⟩, ⟨by dsimp only; omega, fun b hb => ?_⟩⟩
            · rw [← e]; unfold parM
              first | (rw [if_pos (by assumption)]) | (rw [if_neg (by omega)])
              try simp only [ByteArray.append_assoc]
            · have hb' : b < n := hb
              show gput _ _ _ _ = _
              simp (disch := omega) only [gput_lt]
              try rfl
        · rw [show subsM 6 = 2 from rfl, show rankM 6 = 1 from rfl] at hrow hallr
          have HRET : Hide (parM (parM (textM y) (rankM y.op) 1 ++ ⟨#[32]⟩ ++ signB 6 ++ ⟨#[32]⟩ ++ parM (textM z) (rankM z.op) 2) 1 least = ret) := ⟨by rw [← hret]; rfl⟩
          have IHY : Hide (∀ (g' : Nat → Option Blk) (n' : Nat), g' 0 = some opsB → g' 1 = some (.cells bP false 0) → 1 < n' → repN g' n' y [.lit (.int .u8 y.op), .lit (.int .i64 k2), .lit (.int .i64 k3), sv2] →
              WC 6 Tryd.prog 39 [.agg [.lit (.int .u8 y.op), .lit (.int .i64 k2), .lit (.int .i64 k3), sv2], .lit (.int .i64 1)] ⟨.fn g', n'⟩ fun r => r = .ret (.lit (.string (parM (textM y) (rankM y.op) 1))) ⟨.fn g', n'⟩) :=
            ⟨fun g' n' q1 q0 q2 q3 => IH.out (by omega) y hsy g' n' _ 1 q1 q0 q2 q3 hvy⟩
          have IHZ : Hide (∀ (g' : Nat → Option Blk) (n' : Nat), g' 0 = some opsB → g' 1 = some (.cells bP false 0) → 1 < n' → repN g' n' z [.lit (.int .u8 z.op), .lit (.int .i64 j2), .lit (.int .i64 j3), sv3] →
              WC 6 Tryd.prog 39 [.agg [.lit (.int .u8 z.op), .lit (.int .i64 j2), .lit (.int .i64 j3), sv3], .lit (.int .i64 2)] ⟨.fn g', n'⟩ fun r => r = .ret (.lit (.string (parM (textM z) (rankM z.op) 2))) ⟨.fn g', n'⟩) :=
            ⟨fun g' n' q1 q0 q2 q3 => IH.out (by omega) z hsz g' n' _ 2 q1 q0 q2 q3 hvz⟩
          have hps := par_size (textM y) (rankM y.op) 1
          have hpz := par_size (textM z) (rankM z.op) 2
          have hwl : (parM (textM y) (rankM y.op) 1).size ≤ 100000000 := by omega
          have hwz : (parM (textM z) (rankM z.op) 2).size ≤ 100000000 := by omega
          generalize parM (textM y) (rankM y.op) 1 = wy at HRET IHY hwl
          generalize parM (textM z) (rankM z.op) 2 = wz at HRET IHZ hwz
          generalize signB 6 = sg at *
          have s0 : (wy ++ (⟨#[32]⟩ : ByteArray)).size ≤ 400000000 := by simp only [ba_size_append]; omega
          have s1 : ((wy ++ (⟨#[32]⟩ : ByteArray)) ++ sg).size ≤ 400000000 := by simp only [ba_size_append]; omega
          have s2 : (((wy ++ (⟨#[32]⟩ : ByteArray)) ++ sg) ++ (⟨#[32]⟩ : ByteArray)).size ≤ 400000000 := by simp only [ba_size_append]; omega
          have s3 : ((((wy ++ (⟨#[32]⟩ : ByteArray)) ++ sg) ++ (⟨#[32]⟩ : ByteArray)) ++ wz).size ≤ 400000000 := by simp only [ba_size_append]; omega
          have s4 : ((⟨#[40]⟩ : ByteArray) ++ ((((wy ++ (⟨#[32]⟩ : ByteArray)) ++ sg) ++ (⟨#[32]⟩ : ByteArray)) ++ wz)).size ≤ 400000000 := by simp only [ba_size_append]; omega
          clear hret v2 hps hpz hty htz hvy hvz hsy hsz hrk1 hrk2 hop IH
          rcases hsl with ⟨c, rfl⟩ | ⟨c, rfl⟩
          all_goals
            refine WC.enterP (noO_ok _ _) hG pl39 Tryd.func39 rfl (by decide +kernel) (Nat.le_of_ble_eq_true (by kernel_rfl)) ?_
            iterate 20 (all_goals try (first | with_reducible refine splitI (fun h => ?_) (fun h => ?_) | with_reducible refine splitBI (fun h => ?_) (fun h => ?_) | simp (config := { maxSteps := 1000000 }) (disch := first | assumption | omega | (simp; done) | fail) [Tryd.results39, *]))
            refine WC.mono (IHY.out _ _ (by simp (disch := omega) only [gput_lt]; exact hg) (by simp (disch := omega) only [gput_lt]; exact hgp) (by omega) (repN_mono (by omega) (fun a ha => by simp (disch := omega) only [gput_lt]) HY.out)) ?_
            rintro _ rfl
            iterate 20 (all_goals try (first | with_reducible refine splitI (fun h => ?_) (fun h => ?_) | with_reducible refine splitBI (fun h => ?_) (fun h => ?_) | simp (config := { maxSteps := 1000000 }) (disch := first | assumption | omega | (simp; done) | fail) [Tryd.results39, *]))
            refine WC.mono (IHZ.out _ _ (by simp (disch := omega) only [gput_lt]; exact hg) (by simp (disch := omega) only [gput_lt]; exact hgp) (by omega) (repN_mono (by omega) (fun a ha => by simp (disch := omega) only [gput_lt]) HZ.out)) ?_
            rintro _ rfl
            iterate 20 (all_goals try (first | with_reducible refine splitI (fun h => ?_) (fun h => ?_) | with_reducible refine splitBI (fun h => ?_) (fun h => ?_) | simp (config := { maxSteps := 1000000 }) (disch := first | assumption | omega | (simp; done) | fail) [Tryd.results39, *]))
            
          all_goals
            have e := HRET.out
            refine ⟨_, ⟨?_, rfl⟩, ⟨by dsimp only; omega, fun b hb => ?_⟩⟩
            · rw [← e]; unfold parM
              first | (rw [if_pos (by assumption)]) | (rw [if_neg (by omega)])
              try simp only [ByteArray.append_assoc]
            · have hb' : b < n := hb
              show gput _ _ _ _ = _
              simp (disch := omega) only [gput_lt]
              try rfl
        · rw [show subsM 10 = 2 from rfl, show rankM 10 = 4 from rfl] at hrow hallr
          have HRET : Hide (parM (signB 10 ++ ⟨#[91]⟩ ++ parM (textM y) (rankM y.op) 0 ++ ⟨#[32, 85, 32]⟩ ++ parM (textM z) (rankM z.op) 0 ++ ⟨#[93]⟩) 4 least = ret) := ⟨by rw [← hret, par_zero, par_zero]; rfl⟩
          have IHY : Hide (∀ (g' : Nat → Option Blk) (n' : Nat), g' 0 = some opsB → g' 1 = some (.cells bP false 0) → 1 < n' → repN g' n' y [.lit (.int .u8 y.op), .lit (.int .i64 k2), .lit (.int .i64 k3), sv2] →
              WC 6 Tryd.prog 39 [.agg [.lit (.int .u8 y.op), .lit (.int .i64 k2), .lit (.int .i64 k3), sv2], .lit (.int .i64 0)] ⟨.fn g', n'⟩ fun r => r = .ret (.lit (.string (parM (textM y) (rankM y.op) 0))) ⟨.fn g', n'⟩) :=
            ⟨fun g' n' q1 q0 q2 q3 => IH.out (by omega) y hsy g' n' _ 0 q1 q0 q2 q3 hvy⟩
          have IHZ : Hide (∀ (g' : Nat → Option Blk) (n' : Nat), g' 0 = some opsB → g' 1 = some (.cells bP false 0) → 1 < n' → repN g' n' z [.lit (.int .u8 z.op), .lit (.int .i64 j2), .lit (.int .i64 j3), sv3] →
              WC 6 Tryd.prog 39 [.agg [.lit (.int .u8 z.op), .lit (.int .i64 j2), .lit (.int .i64 j3), sv3], .lit (.int .i64 0)] ⟨.fn g', n'⟩ fun r => r = .ret (.lit (.string (parM (textM z) (rankM z.op) 0))) ⟨.fn g', n'⟩) :=
            ⟨fun g' n' q1 q0 q2 q3 => IH.out (by omega) z hsz g' n' _ 0 q1 q0 q2 q3 hvz⟩
          have hps := par_size (textM y) (rankM y.op) 0
          have hpz := par_size (textM z) (rankM z.op) 0
          have hwl : (parM (textM y) (rankM y.op) 0).size ≤ 100000000 := by omega
          have hwz : (parM (textM z) (rankM z.op) 0).size ≤ 100000000 := by omega
          generalize parM (textM y) (rankM y.op) 0 = wy at HRET IHY hwl
          generalize parM (textM z) (rankM z.op) 0 = wz at HRET IHZ hwz
          generalize signB 10 = sg at *
          have s0 : ((⟨#[91]⟩ : ByteArray) ++ wy).size ≤ 400000000 := by simp only [ba_size_append]; omega
          have s1 : (((⟨#[91]⟩ : ByteArray) ++ wy) ++ (⟨#[32, 85, 32]⟩ : ByteArray)).size ≤ 400000000 := by simp only [ba_size_append]; omega
          have s2 : ((((⟨#[91]⟩ : ByteArray) ++ wy) ++ (⟨#[32, 85, 32]⟩ : ByteArray)) ++ wz).size ≤ 400000000 := by simp only [ba_size_append]; omega
          have s3 : (((((⟨#[91]⟩ : ByteArray) ++ wy) ++ (⟨#[32, 85, 32]⟩ : ByteArray)) ++ wz) ++ (⟨#[93]⟩ : ByteArray)).size ≤ 400000000 := by simp only [ba_size_append]; omega
          have s4 : (sg ++ (((((⟨#[91]⟩ : ByteArray) ++ wy) ++ (⟨#[32, 85, 32]⟩ : ByteArray)) ++ wz) ++ (⟨#[93]⟩ : ByteArray))).size ≤ 400000000 := by simp only [ba_size_append]; omega
          have s5 : ((⟨#[40]⟩ : ByteArray) ++ (sg ++ (((((⟨#[91]⟩ : ByteArray) ++ wy) ++ (⟨#[32, 85, 32]⟩ : ByteArray)) ++ wz) ++ (⟨#[93]⟩ : ByteArray)))).size ≤ 400000000 := by simp only [ba_size_append]; omega
          clear hret v2 hps hpz hty htz hvy hvz hsy hsz hrk1 hrk2 hop IH
          rcases hsl with ⟨c, rfl⟩ | ⟨c, rfl⟩
          all_goals
            refine WC.enterP (noO_ok _ _) hG pl39 Tryd.func39 rfl (by decide +kernel) (Nat.le_of_ble_eq_true (by kernel_rfl)) ?_
            iterate 20 (all_goals try (first | with_reducible refine splitI (fun h => ?_) (fun h => ?_) | with_reducible refine splitBI (fun h => ?_) (fun h => ?_) | simp (config := { maxSteps := 1000000 }) (disch := first | assumption | omega | (simp; done) | fail) [Tryd.results39, *]))
            refine WC.mono (IHY.out _ _ (by simp (disch := omega) only [gput_lt]; exact hg) (by simp (disch := omega) only [gput_lt]; exact hgp) (by omega) (repN_mono (by omega) (fun a ha => by simp (disch := omega) only [gput_lt]) HY.out)) ?_
            rintro _ rfl
            iterate 20 (all_goals try (first | with_reducible refine splitI (fun h => ?_) (fun h => ?_) | with_reducible refine splitBI (fun h => ?_) (fun h => ?_) | simp (config := { maxSteps := 1000000 }) (disch := first | assumption | omega | (simp; done) | fail) [Tryd.results39, *]))
            refine WC.mono (IHZ.out _ _ (by simp (disch := omega) only [gput_lt]; exact hg) (by simp (disch := omega) only [gput_lt]; exact hgp) (by omega) (repN_mono (by omega) (fun a ha => by simp (disch := omega) only [gput_lt]) HZ.out)) ?_
            rintro _ rfl
            iterate 20 (all_goals try (first | with_reducible refine splitI (fun h => ?_) (fun h => ?_) | with_reducible refine splitBI (fun h => ?_) (fun h => ?_) | simp (config := { maxSteps := 1000000 }) (disch := first | assumption | omega | (simp; done) | fail) [Tryd.results39, *]))
            
          all_goals
            have e := HRET.out
            refine ⟨_, ⟨?_, rfl⟩, ⟨by dsimp only; omega, fun b hb => ?_⟩⟩
            · rw [← e]; unfold parM
              first | (rw [if_pos (by assumption)]) | (rw [if_neg (by omega)])
              try simp only [ByteArray.append_assoc]
            · have hb' : b < n := hb
              show gput _ _ _ _ = _
              simp (disch := omega) only [gput_lt]
              try rfl
        · rw [show subsM 14 = 2 from rfl, show rankM 14 = 4 from rfl] at hrow hallr
          have HRET : Hide (parM (signB 14 ++ ⟨#[91]⟩ ++ parM (textM y) (rankM y.op) 0 ++ ⟨#[32, 85, 32]⟩ ++ parM (textM z) (rankM z.op) 0 ++ ⟨#[93]⟩) 4 least = ret) := ⟨by rw [← hret, par_zero, par_zero]; rfl⟩
          have IHY : Hide (∀ (g' : Nat → Option Blk) (n' : Nat), g' 0 = some opsB → g' 1 = some (.cells bP false 0) → 1 < n' → repN g' n' y [.lit (.int .u8 y.op), .lit (.int .i64 k2), .lit (.int .i64 k3), sv2] →
              WC 6 Tryd.prog 39 [.agg [.lit (.int .u8 y.op), .lit (.int .i64 k2), .lit (.int .i64 k3), sv2], .lit (.int .i64 0)] ⟨.fn g', n'⟩ fun r => r = .ret (.lit (.string (parM (textM y) (rankM y.op) 0))) ⟨.fn g', n'⟩) :=
            ⟨fun g' n' q1 q0 q2 q3 => IH.out (by omega) y hsy g' n' _ 0 q1 q0 q2 q3 hvy⟩
          have IHZ : Hide (∀ (g' : Nat → Option Blk) (n' : Nat), g' 0 = some opsB → g' 1 = some (.cells bP false 0) → 1 < n' → repN g' n' z [.lit (.int .u8 z.op), .lit (.int .i64 j2), .lit (.int .i64 j3), sv3] →
              WC 6 Tryd.prog 39 [.agg [.lit (.int .u8 z.op), .lit (.int .i64 j2), .lit (.int .i64 j3), sv3], .lit (.int .i64 0)] ⟨.fn g', n'⟩ fun r => r = .ret (.lit (.string (parM (textM z) (rankM z.op) 0))) ⟨.fn g', n'⟩) :=
            ⟨fun g' n' q1 q0 q2 q3 => IH.out (by omega) z hsz g' n' _ 0 q1 q0 q2 q3 hvz⟩
          have hps := par_size (textM y) (rankM y.op) 0
          have hpz := par_size (textM z) (rankM z.op) 0
          have hwl : (parM (textM y) (rankM y.op) 0).size ≤ 100000000 := by omega
          have hwz : (parM (textM z) (rankM z.op) 0).size ≤ 100000000 := by omega
          generalize parM (textM y) (rankM y.op) 0 = wy at HRET IHY hwl
          generalize parM (textM z) (rankM z.op) 0 = wz at HRET IHZ hwz
          generalize signB 14 = sg at *
          have s0 : ((⟨#[91]⟩ : ByteArray) ++ wy).size ≤ 400000000 := by simp only [ba_size_append]; omega
          have s1 : (((⟨#[91]⟩ : ByteArray) ++ wy) ++ (⟨#[32, 85, 32]⟩ : ByteArray)).size ≤ 400000000 := by simp only [ba_size_append]; omega
          have s2 : ((((⟨#[91]⟩ : ByteArray) ++ wy) ++ (⟨#[32, 85, 32]⟩ : ByteArray)) ++ wz).size ≤ 400000000 := by simp only [ba_size_append]; omega
          have s3 : (((((⟨#[91]⟩ : ByteArray) ++ wy) ++ (⟨#[32, 85, 32]⟩ : ByteArray)) ++ wz) ++ (⟨#[93]⟩ : ByteArray)).size ≤ 400000000 := by simp only [ba_size_append]; omega
          have s4 : (sg ++ (((((⟨#[91]⟩ : ByteArray) ++ wy) ++ (⟨#[32, 85, 32]⟩ : ByteArray)) ++ wz) ++ (⟨#[93]⟩ : ByteArray))).size ≤ 400000000 := by simp only [ba_size_append]; omega
          have s5 : ((⟨#[40]⟩ : ByteArray) ++ (sg ++ (((((⟨#[91]⟩ : ByteArray) ++ wy) ++ (⟨#[32, 85, 32]⟩ : ByteArray)) ++ wz) ++ (⟨#[93]⟩ : ByteArray)))).size ≤ 400000000 := by simp only [ba_size_append]; omega
          clear hret v2 hps hpz hty htz hvy hvz hsy hsz hrk1 hrk2 hop IH
          rcases hsl with ⟨c, rfl⟩ | ⟨c, rfl⟩
          all_goals
            refine WC.enterP (noO_ok _ _) hG pl39 Tryd.func39 rfl (by decide +kernel) (Nat.le_of_ble_eq_true (by kernel_rfl)) ?_
            iterate 20 (all_goals try (first | with_reducible refine splitI (fun h => ?_) (fun h => ?_) | with_reducible refine splitBI (fun h => ?_) (fun h => ?_) | simp (config := { maxSteps := 1000000 }) (disch := first | assumption | omega | (simp; done) | fail) [Tryd.results39, *]))
            refine WC.mono (IHY.out _ _ (by simp (disch := omega) only [gput_lt]; exact hg) (by simp (disch := omega) only [gput_lt]; exact hgp) (by omega) (repN_mono (by omega) (fun a ha => by simp (disch := omega) only [gput_lt]) HY.out)) ?_
            rintro _ rfl
            iterate 20 (all_goals try (first | with_reducible refine splitI (fun h => ?_) (fun h => ?_) | with_reducible refine splitBI (fun h => ?_) (fun h => ?_) | simp (config := { maxSteps := 1000000 }) (disch := first | assumption | omega | (simp; done) | fail) [Tryd.results39, *]))
            refine WC.mono (IHZ.out _ _ (by simp (disch := omega) only [gput_lt]; exact hg) (by simp (disch := omega) only [gput_lt]; exact hgp) (by omega) (repN_mono (by omega) (fun a ha => by simp (disch := omega) only [gput_lt]) HZ.out)) ?_
            rintro _ rfl
            iterate 20 (all_goals try (first | with_reducible refine splitI (fun h => ?_) (fun h => ?_) | with_reducible refine splitBI (fun h => ?_) (fun h => ?_) | simp (config := { maxSteps := 1000000 }) (disch := first | assumption | omega | (simp; done) | fail) [Tryd.results39, *]))
            
          all_goals
            have e := HRET.out
            refine ⟨_, ⟨?_, rfl⟩, ⟨by dsimp only; omega, fun b hb => ?_⟩⟩
            · rw [← e]; unfold parM
              first | (rw [if_pos (by assumption)]) | (rw [if_neg (by omega)])
              try simp only [ByteArray.append_assoc]
            · have hb' : b < n := hb
              show gput _ _ _ _ = _
              simp (disch := omega) only [gput_lt]
              try rfl
      | x1 :: x2 :: x3 :: l, hx, v2, v7, hsv1, hret =>
        exfalso
        have : subsM op ≤ 2 := by rcases op_cases v1 with rfl | rfl | rfl | rfl | rfl | rfl | rfl | rfl | rfl | rfl | rfl | rfl | rfl | rfl | rfl <;> decide
        simp only [List.length_cons] at v2
        omega
end Go.Ai
end

section
namespace Go.Ai
open Go.Proofs
set_option maxRecDepth 10000
set_option maxHeartbeats 40000000
theorem Text_yes (x : NodeM) (hx : sizeN x ≤ 1000000) (hv : validM 10000 10000 10000 x = true) (hsm : (smallM x 64).1 = true) (g : Nat → Option Blk) (n : Nat) (cs : List AV) (hops : g 0 = some opsB) (hgp : g 1 = some (.cells bP false 0)) (hn : 1 < n) (hr : repN g n x cs) :
    WC 6 Tryd.prog 15 [.agg cs] ⟨.fn g, n⟩ fun r => ∃ g' n', r = .ret (.tup [.lit (.string (textM x)), .lit (.int .i64 0)]) ⟨.fn g', n'⟩ ∧ n ≤ n' ∧ ∀ b, b < n → g' b = g b := by
  obtain ⟨k2, k3, sv2, hcy, h1c, hop2⟩ := repN_one hr
  subst hcy
  have h1a : allOne [.lit (.int .u8 x.op), .lit (.int .i64 k2), .lit (.int .i64 k3), sv2] = true := by simp [h1c]
  have HR := Hide.mk hr
  clear hr
  refine WC.enterP (noO_ok _ _) hG [] Tryd.func15 rfl (by decide +kernel) (Nat.le_of_ble_eq_true (by kernel_rfl)) ?_
  iterate 12 (all_goals try (first | with_reducible refine splitI (fun h => ?_) (fun h => ?_) | with_reducible refine splitBI (fun h => ?_) (fun h => ?_) | simp (config := { maxSteps := 1000000 }) (disch := first | assumption | omega | (simp; done) | fail) [Tryd.results15, *]))
  refine WC.mono (checked_yes 10000 10000 10000 x hx hv hsm _ _ _ (by simp (disch := omega) only [gput_lt]; exact hops) (by omega) (repN_mono (by omega) (fun a ha => (by simp (disch := omega) only [gput_lt])) HR.out)) ?_
  rintro _ ⟨g1, n1, rfl, hn1, hg1⟩
  have e1 : g1 n = some (.cells [.lit (.int .u8 x.op), .lit (.int .i64 k2), .lit (.int .i64 k3), sv2] true 0) := by rw [hg1 n (by omega)]; simp
  have HO : Hide (∀ b, b < n → g1 b = g b) := ⟨fun b hb => by rw [hg1 b (by omega)]; simp (disch := omega) only [gput_lt]⟩
  clear hg1
  iterate 12 (all_goals try (first | with_reducible refine splitI (fun h => ?_) (fun h => ?_) | with_reducible refine splitBI (fun h => ?_) (fun h => ?_) | simp (config := { maxSteps := 1000000 }) (disch := first | assumption | omega | (simp; done) | fail) [Tryd.results15, *]))
  refine WC.mono (write_w 1000000 (Nat.le_refl _) x hx _ _ _ 0 ((HO.out 0 (by omega)).trans hops) ((HO.out 1 (by omega)).trans hgp) (by omega) (repN_mono (by omega) (fun a ha => HO.out a ha) HR.out) hv) ?_
  rintro _ rfl
  rw [par_zero]
  iterate 12 (all_goals try (first | with_reducible refine splitI (fun h => ?_) (fun h => ?_) | with_reducible refine splitBI (fun h => ?_) (fun h => ?_) | simp (config := { maxSteps := 1000000 }) (disch := first | assumption | omega | (simp; done) | fail) [Tryd.results15, *]))
  refine ⟨_, _, ⟨rfl, rfl⟩, by omega, fun b hb => HO.out b hb⟩
end Go.Ai
end

section
namespace Go.Ai
open Go.Proofs
set_option maxRecDepth 10000
set_option maxHeartbeats 40000000
theorem Rank_w (o : Nat) (ho : o < 15) (H : Mem) : WC 6 Tryd.prog 62 [.lit (.int .u8 o)] H fun r => r = .ret (.lit (.int .i64 (rankM o))) H := by
  have HS := Hide.mk (subs_w o ho)
  by_cases h6 : o = 6
  · subst h6
    refine WC.enterP (noO_ok _ _) hG [] Tryd.func62 rfl (by decide +kernel) (Nat.le_of_ble_eq_true (by kernel_rfl)) ?_
    iterate 12 (all_goals try (first | with_reducible refine splitI (fun h => ?_) (fun h => ?_) | with_reducible refine splitBI (fun h => ?_) (fun h => ?_) | simp (config := { maxSteps := 1000000 }) (disch := first | assumption | omega | (simp; done) | fail) [Tryd.results62, *]))
    all_goals rfl
  by_cases h5 : o = 5
  · subst h5
    refine WC.enterP (noO_ok _ _) hG [] Tryd.func62 rfl (by decide +kernel) (Nat.le_of_ble_eq_true (by kernel_rfl)) ?_
    iterate 12 (all_goals try (first | with_reducible refine splitI (fun h => ?_) (fun h => ?_) | with_reducible refine splitBI (fun h => ?_) (fun h => ?_) | simp (config := { maxSteps := 1000000 }) (disch := first | assumption | omega | (simp; done) | fail) [Tryd.results62, *]))
    all_goals rfl
  have h6I : ¬(o : Int) = 6 := by omega
  have h5I : ¬(o : Int) = 5 := by omega
  by_cases h1 : subsM o = 1
  · have hr : rankM o = 3 := by unfold rankM; rw [if_neg h6, if_neg h5, if_pos h1]
    have HR := Hide.mk hr
    clear hr
    refine WC.enterP (noO_ok _ _) hG [] Tryd.func62 rfl (by decide +kernel) (Nat.le_of_ble_eq_true (by kernel_rfl)) ?_
    iterate 12 (all_goals try (first | with_reducible refine splitI (fun h => ?_) (fun h => ?_) | with_reducible refine splitBI (fun h => ?_) (fun h => ?_) | simp (config := { maxSteps := 1000000 }) (disch := first | assumption | omega | (simp; done) | fail) [Tryd.results62, *]))
    refine WC.mono (HS.out _) ?_
    rintro _ rfl
    rw [h1]
    iterate 12 (all_goals try (first | with_reducible refine splitI (fun h => ?_) (fun h => ?_) | with_reducible refine splitBI (fun h => ?_) (fun h => ?_) | simp (config := { maxSteps := 1000000 }) (disch := first | assumption | omega | (simp; done) | fail) [Tryd.results62, *]))
    all_goals first | exact HR.out.symm | (rw [HR.out]) | simp [HR.out]
  · have hr : rankM o = 4 := by unfold rankM; rw [if_neg h6, if_neg h5, if_neg h1]
    have HR := Hide.mk hr
    have h1I : ¬((subsM o : Nat) : Int) = 1 := by omega
    clear hr
    refine WC.enterP (noO_ok _ _) hG [] Tryd.func62 rfl (by decide +kernel) (Nat.le_of_ble_eq_true (by kernel_rfl)) ?_
    iterate 12 (all_goals try (first | with_reducible refine splitI (fun h => ?_) (fun h => ?_) | with_reducible refine splitBI (fun h => ?_) (fun h => ?_) | simp (config := { maxSteps := 1000000 }) (disch := first | assumption | omega | (simp; done) | fail) [Tryd.results62, *]))
    refine WC.mono (HS.out _) ?_
    rintro _ rfl
    generalize subsM o = q at *
    iterate 12 (all_goals try (first | with_reducible refine splitI (fun h => ?_) (fun h => ?_) | with_reducible refine splitBI (fun h => ?_) (fun h => ?_) | simp (config := { maxSteps := 1000000 }) (disch := first | assumption | omega | (simp; done) | fail) [Tryd.results62, *]))
    all_goals first | exact HR.out.symm | (rw [HR.out]) | simp [HR.out]
end Go.Ai
end

section
namespace Go.Ai
open Go.Proofs
set_option maxRecDepth 10000
set_option maxHeartbeats 40000000
def tenB : ByteArray := ⟨#[48, 49, 50, 51, 52, 53, 54, 55, 56, 57]⟩
theorem ten_dig {n : Nat} (h : n ≤ 9) : tenB.extract n (n + 1) = digB n := by
  have hn : n = 0 ∨ n = 1 ∨ n = 2 ∨ n = 3 ∨ n = 4 ∨ n = 5 ∨ n = 6 ∨ n = 7 ∨ n = 8 ∨ n = 9 := by omega
  rcases hn with rfl | rfl | rfl | rfl | rfl | rfl | rfl | rfl | rfl | rfl <;> decide +kernel
theorem Number_w (n : Nat) (hn : n ≤ 2147483648) (H : Mem) : WC 6 Tryd.prog 45 [.lit (.int .i64 n)] H fun r => r = .ret (.lit (.string (decB n))) H := by
  generalize hret : decB n = ret
  have HRET := Hide.mk hret
  clear hret
  refine WC.enterP (noO_ok _ _) hG [] Tryd.func45 rfl (by decide +kernel) (Nat.le_of_ble_eq_true (by kernel_rfl)) ?_
  iterate 12 (all_goals try (first | with_reducible refine splitI (fun h => ?_) (fun h => ?_) | with_reducible refine splitBI (fun h => ?_) (fun h => ?_) | simp (disch := first | assumption | omega | (simp; done) | fail) [Tryd.results45, *]))
  refine LX.ind (fun m gf H' => ∃ (k : Nat) (out : ByteArray), m = k ∧ H' = H ∧ gf 0 = some (.lit (.int .i64 k)) ∧ gf 3 = some (.lit (.string out)) ∧ k ≤ 2147483648 ∧ out.size + k ≤ 4294967296 ∧ ret = decB k ++ out) (m0 := n) ?_ ?_
  · exact ⟨n, ⟨#[]⟩, rfl, rfl, by simp, by simp, hn, by show 0 + n ≤ _; omega, by rw [← HRET.out]; exact (ByteArray.append_empty).symm⟩
  · rintro m gf H' ⟨k, out, rfl, rfl, g0, g3, hk, ho, hr⟩ ih
    have HR := Hide.mk hr
    clear hr
    refine LX.roundP (noO_ok _ _) hG [] (by decide +kernel) ?_
    by_cases h9 : 9 < m
    · have h9i : (9 : Int) < (m : Int) := by omega
      have hlt : m % 10 < 10 := Nat.mod_lt _ (by omega)
      have hlt2 : m / 10 < m := by omega
      have hmod : ((m : Int).tmod 10) = (m : Int) % 10 := rfl
      have hdiv : ((m : Int).tdiv 10) = (m : Int) / 10 := rfl
      have hts : (⟨#[48, 49, 50, 51, 52, 53, 54, 55, 56, 57]⟩ : ByteArray).size = 10 := rfl
      have hex : (⟨#[48, 49, 50, 51, 52, 53, 54, 55, 56, 57]⟩ : ByteArray).extract ((m : Int) % 10).toNat ((m : Int) % 10 + 1).toNat = digB (m % 10) := by
        rw [show ((m : Int) % 10).toNat = m % 10 by omega, show ((m : Int) % 10 + 1).toNat = m % 10 + 1 by omega]
        exact ten_dig (by omega)
      have hds : (digB (m % 10)).size = 1 := rfl
      iterate 14 (all_goals try (first | with_reducible refine splitI (fun h => ?_) (fun h => ?_) | with_reducible refine splitBI (fun h => ?_) (fun h => ?_) | simp (disch := first | assumption | omega | (simp; done) | fail) [Tryd.results45, *]))
      refine ih.out (m / 10) _ _ hlt2 ⟨m / 10, digB (m % 10) ++ out, rfl, rfl, by simp, by simp, by omega, ?_, ?_⟩
      · rw [ba_size_append, hds]; omega
      · rw [HR.out, dec_hi h9, ByteArray.append_assoc]
    · have h9i : ¬(9 : Int) < (m : Int) := by omega
      have hts : (⟨#[48, 49, 50, 51, 52, 53, 54, 55, 56, 57]⟩ : ByteArray).size = 10 := rfl
      have hex : (⟨#[48, 49, 50, 51, 52, 53, 54, 55, 56, 57]⟩ : ByteArray).extract m (m + 1) = digB m := ten_dig (by omega)
      have hex2 : (⟨#[48, 49, 50, 51, 52, 53, 54, 55, 56, 57]⟩ : ByteArray).extract m ((m : Int) + 1).toNat = digB m := by
        rw [show ((m : Int) + 1).toNat = m + 1 by omega]; exact hex
      have hds : (digB m).size = 1 := rfl
      have hr : digB m ++ out = ret := by rw [HR.out, dec_lo (by omega)]
      iterate 14 (all_goals try (first | with_reducible refine splitI (fun h => ?_) (fun h => ?_) | with_reducible refine splitBI (fun h => ?_) (fun h => ?_) | simp (disch := first | assumption | omega | (simp; done) | fail) [Tryd.results45, *]))
end Go.Ai
end

section
namespace Go.Ai
open Go.Proofs
set_option maxRecDepth 10000
set_option maxHeartbeats 40000000
def RTxt (m : Nat) : Prop := ∀ (x : NodeM), sizeN x ≤ m → validM 10000 10000 10000 x = true → ∀ (g : Nat → Option Blk) (n : Nat) (cs : List AV), 0 < n → repN g n x cs → WC 6 Tryd.prog 17 [.agg cs] ⟨.fn g, n⟩ fun r => r = .ret (.lit (.string (textM x))) ⟨.fn g, n⟩
theorem within_w {m : Nat} (IH : RTxt m) (hm : m ≤ 1000000) (x : NodeM) (hx : sizeN x ≤ m) (hv : validM 10000 10000 10000 x = true) (g : Nat → Option Blk) (n : Nat) (cs : List AV) (least : Int) (hn : 0 < n) (hr : repN g n x cs) :
    WC 6 Tryd.prog 46 [.agg cs, .lit (.int .i64 least)] ⟨.fn g, n⟩ fun r => r = .ret (.lit (.string (parM (textM x) (rankM x.op) least))) ⟨.fn g, n⟩ := by
  refine WC.drop1 rfl ?_
  obtain ⟨k2, k3, sv2, hcy, h1c, hop2⟩ := repN_one hr
  subst hcy
  have h1a : allOne [.lit (.int .u8 x.op), .lit (.int .i64 k2), .lit (.int .i64 k3), sv2] = true := by simp [h1c]
  have ho : x.op < 15 := by
    cases x with
    | mk op a b subs => simp only [validM, Bool.and_eq_true, decide_eq_true_eq] at hv; exact hv.1
  have hts := text_size x hv
  have HT : Hide (∀ (g' : Nat → Option Blk) (n' : Nat), 0 < n' → repN g' n' x [.lit (.int .u8 x.op), .lit (.int .i64 k2), .lit (.int .i64 k3), sv2] → WC 6 Tryd.prog 17 [.agg [.lit (.int .u8 x.op), .lit (.int .i64 k2), .lit (.int .i64 k3), sv2]] ⟨.fn g', n'⟩ fun r => r = .ret (.lit (.string (textM x))) ⟨.fn g', n'⟩) := ⟨fun g' n' q1 q2 => IH x hx hv g' n' _ q1 q2⟩
  have HR := Hide.mk hr
  have HK := Hide.mk (Rank_w x.op ho)
  generalize hret : parM (textM x) (rankM x.op) least = ret
  have HRET := Hide.mk hret
  have hwl : (textM x).size ≤ 100000000 := by omega
  clear hr hret hv hts IH
  have hpl : (⟨#[40]⟩ : ByteArray).size = 1 := rfl
  have hpr : (⟨#[41]⟩ : ByteArray).size = 1 := rfl
  generalize textM x = wx at *
  generalize rankM x.op = rk at *
  have s1 : ((⟨#[40]⟩ : ByteArray) ++ wx).size ≤ 200000000 := by simp only [ba_size_append]; omega
  have s2 : ((⟨#[40]⟩ : ByteArray) ++ wx ++ (⟨#[41]⟩ : ByteArray)).size ≤ 200000000 := by simp only [ba_size_append]; omega
  by_cases hlt : rk < least
  · refine WC.enterP (noO_ok _ _) hG [] Tryd.func46 rfl (by decide +kernel) (Nat.le_of_ble_eq_true (by kernel_rfl)) ?_
    iterate 12 (all_goals try (first | with_reducible refine splitI (fun h => ?_) (fun h => ?_) | with_reducible refine splitBI (fun h => ?_) (fun h => ?_) | simp (config := { maxSteps := 1000000 }) (disch := first | assumption | omega | (simp; done) | fail) [Tryd.results46, *]))
    refine WC.mono (HK.out _) ?_
    rintro _ rfl
    iterate 12 (all_goals try (first | with_reducible refine splitI (fun h => ?_) (fun h => ?_) | with_reducible refine splitBI (fun h => ?_) (fun h => ?_) | simp (config := { maxSteps := 1000000 }) (disch := first | assumption | omega | (simp; done) | fail) [Tryd.results46, *]))
    refine WC.mono (HT.out _ _ (by omega) (repN_mono (by omega) (fun a ha => (by simp (disch := omega) only [gput_lt])) HR.out)) ?_
    rintro _ rfl
    iterate 12 (all_goals try (first | with_reducible refine splitI (fun h => ?_) (fun h => ?_) | with_reducible refine splitBI (fun h => ?_) (fun h => ?_) | simp (config := { maxSteps := 1000000 }) (disch := first | assumption | omega | (simp; done) | fail) [Tryd.results46, *]))
    refine ⟨_, ⟨?_, rfl⟩, ⟨by dsimp only; omega, fun b hb => ?_⟩⟩
    · rw [← HRET.out]; unfold parM; rw [if_pos hlt]
    · have hb' : b < n := hb
      show gput _ _ _ _ = _
      simp (disch := omega) only [gput_lt]
      try rfl
  · refine WC.enterP (noO_ok _ _) hG [] Tryd.func46 rfl (by decide +kernel) (Nat.le_of_ble_eq_true (by kernel_rfl)) ?_
    iterate 12 (all_goals try (first | with_reducible refine splitI (fun h => ?_) (fun h => ?_) | with_reducible refine splitBI (fun h => ?_) (fun h => ?_) | simp (config := { maxSteps := 1000000 }) (disch := first | assumption | omega | (simp; done) | fail) [Tryd.results46, *]))
    refine WC.mono (HK.out _) ?_
    rintro _ rfl
    iterate 12 (all_goals try (first | with_reducible refine splitI (fun h => ?_) (fun h => ?_) | with_reducible refine splitBI (fun h => ?_) (fun h => ?_) | simp (config := { maxSteps := 1000000 }) (disch := first | assumption | omega | (simp; done) | fail) [Tryd.results46, *]))
    refine WC.mono (HT.out _ _ (by omega) (repN_mono (by omega) (fun a ha => (by simp (disch := omega) only [gput_lt])) HR.out)) ?_
    rintro _ rfl
    iterate 12 (all_goals try (first | with_reducible refine splitI (fun h => ?_) (fun h => ?_) | with_reducible refine splitBI (fun h => ?_) (fun h => ?_) | simp (config := { maxSteps := 1000000 }) (disch := first | assumption | omega | (simp; done) | fail) [Tryd.results46, *]))
    refine ⟨_, ⟨?_, rfl⟩, ⟨by dsimp only; omega, fun b hb => ?_⟩⟩
    · rw [← HRET.out]; unfold parM; rw [if_neg hlt]
    · have hb' : b < n := hb
      show gput _ _ _ _ = _
      simp (disch := omega) only [gput_lt]
      try rfl
theorem rText_w : ∀ (m : Nat), m ≤ 1000000 → RTxt m := by
  intro m
  induction m with
  | zero => intro _ x hx; cases x; unfold sizeN at hx; omega
  | succ m ihm =>
    intro hm x hx hv g n cs hn hr
    have IH := Hide.mk (ihm (by omega))
    clear ihm
    refine WC.drop1 rfl ?_
    cases x with
    | mk op a b subs =>
      generalize hret : textM (.mk op a b subs) = ret
      simp only [validM, Bool.and_eq_true, decide_eq_true_eq] at hv
      obtain ⟨v1, v2, v3, v4, v5, v6, v7⟩ := hv
      obtain ⟨hop, sv1, rfl, hsv1⟩ := hr
      have h1c : oneC sv1 = true := by rcases hsv1 with ⟨_, rfl | rfl⟩ | ⟨a, off, r, _, ⟨c, rfl⟩ | ⟨c, rfl⟩, _⟩ <;> rfl
      have h1a : allOne [.lit (.int .u8 op), .lit (.int .i64 a), .lit (.int .i64 b), sv1] = true := by simp [h1c]
      have hsg := sign_size op
      obtain ⟨ka, rfl⟩ := Int.eq_ofNat_of_zero_le v3
      obtain ⟨kb, rfl⟩ := Int.eq_ofNat_of_zero_le v4
      have va : ka < 10000 := by split at v5 <;> (try split at v5) <;> omega
      have vb : kb < 10000 := by split at v6 <;> omega
      have da := dec_size ka 3 (by omega)
      have db := dec_size kb 3 (by omega)
      have hspz : (⟨#[32]⟩ : ByteArray).size = 1 := rfl
      have hql : (⟨#[91]⟩ : ByteArray).size = 1 := rfl
      have hqr : (⟨#[93]⟩ : ByteArray).size = 1 := rfl
      have hqu : (⟨#[32, 85, 32]⟩ : ByteArray).size = 3 := rfl
      clear v5 v6
      match subs, hx, v2, v7, hsv1, hret with
      | [], hx, v2, v7, hsv1, hret =>
        have ho : op = 0 ∨ op = 1 ∨ op = 2 ∨ op = 3 := by
          rcases op_cases v1 with rfl | rfl | rfl | rfl | rfl | rfl | rfl | rfl | rfl | rfl | rfl | rfl | rfl | rfl | rfl <;> simp [subsM] at v2 ⊢
        clear hsv1 v2 v7 IH
        rcases ho with rfl | rfl | rfl | rfl
        · have HRET : Hide (signB 0 = ret) := ⟨by rw [← hret]; rfl⟩
          clear hret
          refine WC.enterP (noO_ok _ _) hG pl17 Tryd.func17 rfl (by decide +kernel) (Nat.le_of_ble_eq_true (by kernel_rfl)) ?_
          iterate 20 (all_goals try (first | with_reducible refine splitI (fun h => ?_) (fun h => ?_) | with_reducible refine splitBI (fun h => ?_) (fun h => ?_) | simp (config := { maxSteps := 1000000 }) (disch := first | assumption | omega | (simp; done) | fail) [Tryd.results17, *]))
          all_goals
            have e := HRET.out
            refine ⟨_, ⟨?_, rfl⟩, ⟨by dsimp only; omega, fun b hb => ?_⟩⟩
            · rw [← e]
              try rfl
            · have hb' : b < n := hb
              show gput _ _ _ _ = _
              simp (disch := omega) only [gput_lt]
              try rfl
        · have HRET : Hide (signB 1 ++ ⟨#[32]⟩ ++ decB ka = ret) := ⟨by rw [← hret]; rfl⟩
          clear hret
          have s1 : (signB 1 ++ (⟨#[32]⟩ : ByteArray)).size ≤ 400000000 := by simp only [ba_size_append]; omega
          have s2 : ((signB 1 ++ (⟨#[32]⟩ : ByteArray)) ++ decB ka).size ≤ 400000000 := by simp only [ba_size_append]; omega
          refine WC.enterP (noO_ok _ _) hG pl17 Tryd.func17 rfl (by decide +kernel) (Nat.le_of_ble_eq_true (by kernel_rfl)) ?_
          iterate 20 (all_goals try (first | with_reducible refine splitI (fun h => ?_) (fun h => ?_) | with_reducible refine splitBI (fun h => ?_) (fun h => ?_) | simp (config := { maxSteps := 1000000 }) (disch := first | assumption | omega | (simp; done) | fail) [Tryd.results17, *]))
          refine WC.mono (sign_w 1 (by omega) _ _) ?_
          rintro _ rfl
          iterate 20 (all_goals try (first | with_reducible refine splitI (fun h => ?_) (fun h => ?_) | with_reducible refine splitBI (fun h => ?_) (fun h => ?_) | simp (config := { maxSteps := 1000000 }) (disch := first | assumption | omega | (simp; done) | fail) [Tryd.results17, *]))
          refine WC.mono (Number_w ka (by omega) _) ?_
          rintro _ rfl
          generalize decB ka = dka at *
          iterate 20 (all_goals try (first | with_reducible refine splitI (fun h => ?_) (fun h => ?_) | with_reducible refine splitBI (fun h => ?_) (fun h => ?_) | simp (config := { maxSteps := 1000000 }) (disch := first | assumption | omega | (simp; done) | fail) [Tryd.results17, *]))
          all_goals
            have e := HRET.out
            refine ⟨_, ⟨?_, rfl⟩, ⟨by dsimp only; omega, fun b hb => ?_⟩⟩
            · rw [← e]
              try simp only [ByteArray.append_assoc]
            · have hb' : b < n := hb
              show gput _ _ _ _ = _
              simp (disch := omega) only [gput_lt]
              try rfl
        · have HRET : Hide (signB 2 ++ ⟨#[32]⟩ ++ decB ka = ret) := ⟨by rw [← hret]; rfl⟩
          clear hret
          have s1 : (signB 2 ++ (⟨#[32]⟩ : ByteArray)).size ≤ 400000000 := by simp only [ba_size_append]; omega
          have s2 : ((signB 2 ++ (⟨#[32]⟩ : ByteArray)) ++ decB ka).size ≤ 400000000 := by simp only [ba_size_append]; omega
          refine WC.enterP (noO_ok _ _) hG pl17 Tryd.func17 rfl (by decide +kernel) (Nat.le_of_ble_eq_true (by kernel_rfl)) ?_
          iterate 20 (all_goals try (first | with_reducible refine splitI (fun h => ?_) (fun h => ?_) | with_reducible refine splitBI (fun h => ?_) (fun h => ?_) | simp (config := { maxSteps := 1000000 }) (disch := first | assumption | omega | (simp; done) | fail) [Tryd.results17, *]))
          refine WC.mono (sign_w 2 (by omega) _ _) ?_
          rintro _ rfl
          iterate 20 (all_goals try (first | with_reducible refine splitI (fun h => ?_) (fun h => ?_) | with_reducible refine splitBI (fun h => ?_) (fun h => ?_) | simp (config := { maxSteps := 1000000 }) (disch := first | assumption | omega | (simp; done) | fail) [Tryd.results17, *]))
          refine WC.mono (Number_w ka (by omega) _) ?_
          rintro _ rfl
          generalize decB ka = dka at *
          iterate 20 (all_goals try (first | with_reducible refine splitI (fun h => ?_) (fun h => ?_) | with_reducible refine splitBI (fun h => ?_) (fun h => ?_) | simp (config := { maxSteps := 1000000 }) (disch := first | assumption | omega | (simp; done) | fail) [Tryd.results17, *]))
          all_goals
            have e := HRET.out
            refine ⟨_, ⟨?_, rfl⟩, ⟨by dsimp only; omega, fun b hb => ?_⟩⟩
            · rw [← e]
              try simp only [ByteArray.append_assoc]
            · have hb' : b < n := hb
              show gput _ _ _ _ = _
              simp (disch := omega) only [gput_lt]
              try rfl
        · have hgv : signB 3 ++ (⟨#[32]⟩ : ByteArray) = ⟨#[103, 105, 118, 101, 115, 32]⟩ := by decide +kernel
          have hgz : (⟨#[103, 105, 118, 101, 115, 32]⟩ : ByteArray).size = 6 := rfl
          have HRET : Hide (⟨#[103, 105, 118, 101, 115, 32]⟩ ++ decB ka ++ ⟨#[32]⟩ ++ decB kb = ret) := ⟨by rw [← hret, ← hgv]; rfl⟩
          clear hret
          have s2 : ((⟨#[103, 105, 118, 101, 115, 32]⟩ : ByteArray) ++ decB ka).size ≤ 400000000 := by simp only [ba_size_append]; omega
          have s3 : (((⟨#[103, 105, 118, 101, 115, 32]⟩ : ByteArray) ++ decB ka) ++ (⟨#[32]⟩ : ByteArray)).size ≤ 400000000 := by simp only [ba_size_append]; omega
          have s4 : ((((⟨#[103, 105, 118, 101, 115, 32]⟩ : ByteArray) ++ decB ka) ++ (⟨#[32]⟩ : ByteArray)) ++ decB kb).size ≤ 400000000 := by simp only [ba_size_append]; omega
          refine WC.enterP (noO_ok _ _) hG pl17 Tryd.func17 rfl (by decide +kernel) (Nat.le_of_ble_eq_true (by kernel_rfl)) ?_
          iterate 20 (all_goals try (first | with_reducible refine splitI (fun h => ?_) (fun h => ?_) | with_reducible refine splitBI (fun h => ?_) (fun h => ?_) | simp (config := { maxSteps := 1000000 }) (disch := first | assumption | omega | (simp; done) | fail) [Tryd.results17, *]))
          refine WC.mono (Number_w ka (by omega) _) ?_
          rintro _ rfl
          generalize decB ka = dka at *
          iterate 20 (all_goals try (first | with_reducible refine splitI (fun h => ?_) (fun h => ?_) | with_reducible refine splitBI (fun h => ?_) (fun h => ?_) | simp (config := { maxSteps := 1000000 }) (disch := first | assumption | omega | (simp; done) | fail) [Tryd.results17, *]))
          refine WC.mono (Number_w kb (by omega) _) ?_
          rintro _ rfl
          generalize decB kb = dkb at *
          iterate 20 (all_goals try (first | with_reducible refine splitI (fun h => ?_) (fun h => ?_) | with_reducible refine splitBI (fun h => ?_) (fun h => ?_) | simp (config := { maxSteps := 1000000 }) (disch := first | assumption | omega | (simp; done) | fail) [Tryd.results17, *]))
          all_goals
            have e := HRET.out
            refine ⟨_, ⟨?_, rfl⟩, ⟨by dsimp only; omega, fun b hb => ?_⟩⟩
            · rw [← e]
              try simp only [ByteArray.append_assoc]
            · have hb' : b < n := hb
              show gput _ _ _ _ = _
              simp (disch := omega) only [gput_lt]
              try rfl
      | [y], hx, v2, v7, hsv1, hret =>
        have hs1 : subsM op = 1 := v2.symm
        have m0 : ¬op = 0 := by intro e2; rw [e2] at hs1; exact absurd hs1 (by decide)
        have n0 : ¬(op : Int) = 0 := by intro e; have e2 : op = 0 := (by omega); rw [e2] at hs1; exact absurd hs1 (by decide)
        have n1 : ¬(op : Int) = 1 := by intro e; have e2 : op = 1 := (by omega); rw [e2] at hs1; exact absurd hs1 (by decide)
        have n2 : ¬(op : Int) = 2 := by intro e; have e2 : op = 2 := (by omega); rw [e2] at hs1; exact absurd hs1 (by decide)
        have n3 : ¬(op : Int) = 3 := by intro e; have e2 : op = 3 := (by omega); rw [e2] at hs1; exact absurd hs1 (by decide)
        have n5 : ¬(op : Int) = 5 := by intro e; have e2 : op = 5 := (by omega); rw [e2] at hs1; exact absurd hs1 (by decide)
        have n6 : ¬(op : Int) = 6 := by intro e; have e2 : op = 6 := (by omega); rw [e2] at hs1; exact absurd hs1 (by decide)
        have n10 : ¬(op : Int) = 10 := by intro e; have e2 : op = 10 := (by omega); rw [e2] at hs1; exact absurd hs1 (by decide)
        have n14 : ¬(op : Int) = 14 := by intro e; have e2 : op = 14 := (by omega); rw [e2] at hs1; exact absurd hs1 (by decide)
        rcases hsv1 with ⟨hsub, _⟩ | ⟨ad, off, r, han, hsl, hrow1, hrep⟩
        · cases hsub
        obtain ⟨c1, r1, rfl, hy1, hr1⟩ := hrep
        have hr1' : r1 = [] := hr1
        subst hr1'
        obtain ⟨k2, k3, sv2, hcy, h2c, hop2⟩ := repN_one hy1
        subst hcy
        have h2a : allOne [.lit (.int .u8 y.op), .lit (.int .i64 k2), .lit (.int .i64 k3), sv2] = true := by simp [h2c]
        have hrw := hrow1.agg (k := 0) (s := 4) (by simp)
        simp only [Nat.add_zero, List.append_nil, List.drop_zero, List.take] at hrw
        simp only [validL, Bool.and_eq_true] at v7
        have hvy := v7.1
        have hsy : sizeN y ≤ m := by unfold sizeN sizeL sizeL at hx; omega
        have hty := text_size y hvy
        have HY := Hide.mk hy1
        have IHY : Hide (∀ (g' : Nat → Option Blk) (n' : Nat), 0 < n' → repN g' n' y [.lit (.int .u8 y.op), .lit (.int .i64 k2), .lit (.int .i64 k3), sv2] → WC 6 Tryd.prog 46 [.agg [.lit (.int .u8 y.op), .lit (.int .i64 k2), .lit (.int .i64 k3), sv2], .lit (.int .i64 3)] ⟨.fn g', n'⟩ fun r => r = .ret (.lit (.string (parM (textM y) (rankM y.op) 3))) ⟨.fn g', n'⟩) :=
          ⟨fun g' n' q1 q2 => within_w IH.out (by omega) y hsy hvy g' n' _ 3 q1 q2⟩
        have hps := par_size (textM y) (rankM y.op) 3
        have HRET : Hide (signB op ++ ⟨#[32]⟩ ++ parM (textM y) (rankM y.op) 3 = ret) := ⟨by rw [← hret]; rfl⟩
        have hwl : (parM (textM y) (rankM y.op) 3).size ≤ 100000000 := by omega
        have HSI := Hide.mk (sign_w op v1)
        generalize parM (textM y) (rankM y.op) 3 = wy at HRET IHY hwl
        generalize signB op = sg at *
        have s1 : (sg ++ (⟨#[32]⟩ : ByteArray)).size ≤ 400000000 := by simp only [ba_size_append]; omega
        have s2 : ((sg ++ (⟨#[32]⟩ : ByteArray)) ++ wy).size ≤ 400000000 := by simp only [ba_size_append]; omega
        clear hret v2 v7 hrow1 hy1 hr1 hty hps hvy hsy hs1 hop
        rcases hsl with ⟨c, rfl⟩ | ⟨c, rfl⟩
        all_goals
          refine WC.enterP (noO_ok _ _) hG pl17 Tryd.func17 rfl (by decide +kernel) (Nat.le_of_ble_eq_true (by kernel_rfl)) ?_
          iterate 20 (all_goals try (first | with_reducible refine splitI (fun h => ?_) (fun h => ?_) | with_reducible refine splitBI (fun h => ?_) (fun h => ?_) | simp (config := { maxSteps := 1000000 }) (disch := first | assumption | omega | (simp; done) | fail) [Tryd.results17, *]))
          refine WC.mono (HSI.out _ _) ?_
          rintro _ rfl
          iterate 20 (all_goals try (first | with_reducible refine splitI (fun h => ?_) (fun h => ?_) | with_reducible refine splitBI (fun h => ?_) (fun h => ?_) | simp (config := { maxSteps := 1000000 }) (disch := first | assumption | omega | (simp; done) | fail) [Tryd.results17, *]))
          refine WC.mono (IHY.out _ _ (by omega) (repN_mono (by omega) (fun a ha => by simp (disch := omega) only [gput_lt]) HY.out)) ?_
          rintro _ rfl
          iterate 20 (all_goals try (first | with_reducible refine splitI (fun h => ?_) (fun h => ?_) | with_reducible refine splitBI (fun h => ?_) (fun h => ?_) | simp (config := { maxSteps := 1000000 }) (disch := first | assumption | omega | (simp; done) | fail) [Tryd.results17, *]))
          
        all_goals
          have e := HRET.out
          refine ⟨_, ⟨?_, rfl⟩, ⟨by dsimp only; omega, fun b hb => ?_⟩⟩
          · rw [← e]
            try simp only [ByteArray.append_assoc]
          · have hb' : b < n := hb
            show gput _ _ _ _ = _
            simp (disch := omega) only [gput_lt]
            try rfl
      | [y, z], hx, v2, v7, hsv1, hret =>
        have ho : op = 5 ∨ op = 6 ∨ op = 10 ∨ op = 14 := by
          rcases op_cases v1 with rfl | rfl | rfl | rfl | rfl | rfl | rfl | rfl | rfl | rfl | rfl | rfl | rfl | rfl | rfl <;> simp [subsM] at v2 ⊢
        rcases hsv1 with ⟨hsub, _⟩ | ⟨ad, off, r, han, hsl, hrow1, hrep⟩
        · cases hsub
        obtain ⟨c1, r1, rfl, hy1, c2, r2, rfl, hz1, hr2⟩ := hrep
        have hr2' : r2 = [] := hr2
        subst hr2'
        obtain ⟨k2, k3, sv2, hcy, h2c, hop2⟩ := repN_one hy1
        subst hcy
        obtain ⟨j2, j3, sv3, hcz, h3c, hop3⟩ := repN_one hz1
        subst hcz
        have h2a : allOne [.lit (.int .u8 y.op), .lit (.int .i64 k2), .lit (.int .i64 k3), sv2] = true := by simp [h2c]
        have h3a : allOne [.lit (.int .u8 z.op), .lit (.int .i64 j2), .lit (.int .i64 j3), sv3] = true := by simp [h3c]
        have hrw1 := hrow1.agg (k := 0) (s := 4) (by simp)
        have hrw2 := hrow1.agg (k := 4) (s := 4) (by simp)
        simp only [Nat.add_zero, List.append_nil, List.drop_zero, List.take, List.cons_append, List.nil_append, List.drop_succ_cons] at hrw1 hrw2
        simp only [validL, Bool.and_eq_true] at v7
        have hvy := v7.1
        have hvz := v7.2.1
        have hsy : sizeN y ≤ m := by unfold sizeN sizeL sizeL sizeL at hx; omega
        have hsz : sizeN z ≤ m := by unfold sizeN sizeL sizeL sizeL at hx; omega
        have hty := text_size y hvy
        have htz := text_size z hvz
        have HY := Hide.mk hy1
        have HZ := Hide.mk hz1
        clear hrow1 hy1 hz1 hr2 v7
        rcases ho with rfl | rfl | rfl | rfl
        · have IHY : Hide (∀ (g' : Nat → Option Blk) (n' : Nat), 0 < n' → repN g' n' y [.lit (.int .u8 y.op), .lit (.int .i64 k2), .lit (.int .i64 k3), sv2] → WC 6 Tryd.prog 46 [.agg [.lit (.int .u8 y.op), .lit (.int .i64 k2), .lit (.int .i64 k3), sv2], .lit (.int .i64 2)] ⟨.fn g', n'⟩ fun r => r = .ret (.lit (.string (parM (textM y) (rankM y.op) 2))) ⟨.fn g', n'⟩) :=
            ⟨fun g' n' q1 q2 => within_w IH.out (by omega) y hsy hvy g' n' _ 2 q1 q2⟩
          have IHZ : Hide (∀ (g' : Nat → Option Blk) (n' : Nat), 0 < n' → repN g' n' z [.lit (.int .u8 z.op), .lit (.int .i64 j2), .lit (.int .i64 j3), sv3] → WC 6 Tryd.prog 46 [.agg [.lit (.int .u8 z.op), .lit (.int .i64 j2), .lit (.int .i64 j3), sv3], .lit (.int .i64 3)] ⟨.fn g', n'⟩ fun r => r = .ret (.lit (.string (parM (textM z) (rankM z.op) 3))) ⟨.fn g', n'⟩) :=
            ⟨fun g' n' q1 q2 => within_w IH.out (by omega) z hsz hvz g' n' _ 3 q1 q2⟩
          have hmid : (⟨#[32]⟩ : ByteArray) ++ (signB 5 ++ ⟨#[32]⟩) = ⟨#[32, 97, 110, 100, 32]⟩ := by decide +kernel
          have HRET : Hide (parM (textM y) (rankM y.op) 2 ++ ⟨#[32, 97, 110, 100, 32]⟩ ++ parM (textM z) (rankM z.op) 3 = ret) := ⟨by
            rw [← hret, ← hmid]
            simp only [ByteArray.append_assoc]
            show _ = parM (textM y) (rankM y.op) 2 ++ ⟨#[32]⟩ ++ signB 5 ++ ⟨#[32]⟩ ++ parM (textM z) (rankM z.op) 3
            simp only [ByteArray.append_assoc]⟩
          have hps := par_size (textM y) (rankM y.op) 2
          have hpz := par_size (textM z) (rankM z.op) 3
          have hwl : (parM (textM y) (rankM y.op) 2).size ≤ 100000000 := by omega
          have hwz : (parM (textM z) (rankM z.op) 3).size ≤ 100000000 := by omega
          have hms : (⟨#[32, 97, 110, 100, 32]⟩ : ByteArray).size ≤ 5 := by decide
          generalize parM (textM y) (rankM y.op) 2 = wy at HRET IHY hwl
          generalize parM (textM z) (rankM z.op) 3 = wz at HRET IHZ hwz
          have s1 : (wy ++ (⟨#[32, 97, 110, 100, 32]⟩ : ByteArray)).size ≤ 400000000 := by simp only [ba_size_append]; omega
          have s2 : ((wy ++ (⟨#[32, 97, 110, 100, 32]⟩ : ByteArray)) ++ wz).size ≤ 400000000 := by simp only [ba_size_append]; omega
          clear hret v2 hps hpz hty htz hvy hvz hsy hsz hop IH hmid
          rcases hsl with ⟨c, rfl⟩ | ⟨c, rfl⟩
          all_goals
            refine WC.enterP (noO_ok _ _) hG pl17 Tryd.func17 rfl (by decide +kernel) (Nat.le_of_ble_eq_true (by kernel_rfl)) ?_
            iterate 20 (all_goals try (first | with_reducible refine splitI (fun h => ?_) (fun h => ?_) | with_reducible refine splitBI (fun h => ?_) (fun h => ?_) | simp (config := { maxSteps := 1000000 }) (disch := first | assumption | omega | (simp; done) | fail) [Tryd.results17, *]))
            refine WC.mono (IHY.out _ _ (by omega) (repN_mono (by omega) (fun a ha => by simp (disch := omega) only [gput_lt]) HY.out)) ?_
            rintro _ rfl
            iterate 20 (all_goals try (first | with_reducible refine splitI (fun h => ?_) (fun h => ?_) | with_reducible refine splitBI (fun h => ?_) (fun h => ?_) | simp (config := { maxSteps := 1000000 }) (disch := first | assumption | omega | (simp; done) | fail) [Tryd.results17, *]))
            refine WC.mono (IHZ.out _ _ (by omega) (repN_mono (by omega) (fun a ha => by simp (disch := omega) only [gput_lt]) HZ.out)) ?_
            rintro _ rfl
            iterate 20 (all_goals try (first | with_reducible refine splitI (fun h => ?_) (fun h => ?_) | with_reducible refine splitBI (fun h => ?_) (fun h => ?_) | simp (config := { maxSteps := 1000000 }) (disch := first | assumption | omega | (simp; done) | fail) [Tryd.results17, *]))
            
          all_goals
            have e := HRET.out
            refine ⟨_, ⟨?_, rfl⟩, ⟨by dsimp only; omega, fun b hb => ?_⟩⟩
            · rw [← e]
              try simp only [ByteArray.append_assoc]
            · have hb' : b < n := hb
              show gput _ _ _ _ = _
              simp (disch := omega) only [gput_lt]
              try rfl
        · have IHY : Hide (∀ (g' : Nat → Option Blk) (n' : Nat), 0 < n' → repN g' n' y [.lit (.int .u8 y.op), .lit (.int .i64 k2), .lit (.int .i64 k3), sv2] → WC 6 Tryd.prog 46 [.agg [.lit (.int .u8 y.op), .lit (.int .i64 k2), .lit (.int .i64 k3), sv2], .lit (.int .i64 1)] ⟨.fn g', n'⟩ fun r => r = .ret (.lit (.string (parM (textM y) (rankM y.op) 1))) ⟨.fn g', n'⟩) :=
            ⟨fun g' n' q1 q2 => within_w IH.out (by omega) y hsy hvy g' n' _ 1 q1 q2⟩
          have IHZ : Hide (∀ (g' : Nat → Option Blk) (n' : Nat), 0 < n' → repN g' n' z [.lit (.int .u8 z.op), .lit (.int .i64 j2), .lit (.int .i64 j3), sv3] → WC 6 Tryd.prog 46 [.agg [.lit (.int .u8 z.op), .lit (.int .i64 j2), .lit (.int .i64 j3), sv3], .lit (.int .i64 2)] ⟨.fn g', n'⟩ fun r => r = .ret (.lit (.string (parM (textM z) (rankM z.op) 2))) ⟨.fn g', n'⟩) :=
            ⟨fun g' n' q1 q2 => within_w IH.out (by omega) z hsz hvz g' n' _ 2 q1 q2⟩
          have hmid : (⟨#[32]⟩ : ByteArray) ++ (signB 6 ++ ⟨#[32]⟩) = ⟨#[32, 111, 114, 32]⟩ := by decide +kernel
          have HRET : Hide (parM (textM y) (rankM y.op) 1 ++ ⟨#[32, 111, 114, 32]⟩ ++ parM (textM z) (rankM z.op) 2 = ret) := ⟨by
            rw [← hret, ← hmid]
            simp only [ByteArray.append_assoc]
            show _ = parM (textM y) (rankM y.op) 1 ++ ⟨#[32]⟩ ++ signB 6 ++ ⟨#[32]⟩ ++ parM (textM z) (rankM z.op) 2
            simp only [ByteArray.append_assoc]⟩
          have hps := par_size (textM y) (rankM y.op) 1
          have hpz := par_size (textM z) (rankM z.op) 2
          have hwl : (parM (textM y) (rankM y.op) 1).size ≤ 100000000 := by omega
          have hwz : (parM (textM z) (rankM z.op) 2).size ≤ 100000000 := by omega
          have hms : (⟨#[32, 111, 114, 32]⟩ : ByteArray).size ≤ 5 := by decide
          generalize parM (textM y) (rankM y.op) 1 = wy at HRET IHY hwl
          generalize parM (textM z) (rankM z.op) 2 = wz at HRET IHZ hwz
          have s1 : (wy ++ (⟨#[32, 111, 114, 32]⟩ : ByteArray)).size ≤ 400000000 := by simp only [ba_size_append]; omega
          have s2 : ((wy ++ (⟨#[32, 111, 114, 32]⟩ : ByteArray)) ++ wz).size ≤ 400000000 := by simp only [ba_size_append]; omega
          clear hret v2 hps hpz hty htz hvy hvz hsy hsz hop IH hmid
          rcases hsl with ⟨c, rfl⟩ | ⟨c, rfl⟩
          all_goals
            refine WC.enterP (noO_ok _ _) hG pl17 Tryd.func17 rfl (by decide +kernel) (Nat.le_of_ble_eq_true (by kernel_rfl)) ?_
            iterate 20 (all_goals try (first | with_reducible refine splitI (fun h => ?_) (fun h => ?_) | with_reducible refine splitBI (fun h => ?_) (fun h => ?_) | simp (config := { maxSteps := 1000000 }) (disch := first | assumption | omega | (simp; done) | fail) [Tryd.results17, *]))
            refine WC.mono (IHY.out _ _ (by omega) (repN_mono (by omega) (fun a ha => by simp (disch := omega) only [gput_lt]) HY.out)) ?_
            rintro _ rfl
            iterate 20 (all_goals try (first | with_reducible refine splitI (fun h => ?_) (fun h => ?_) | with_reducible refine splitBI (fun h => ?_) (fun h => ?_) | simp (config := { maxSteps := 1000000 }) (disch := first | assumption | omega | (simp; done) | fail) [Tryd.results17, *]))
            refine WC.mono (IHZ.out _ _ (by omega) (repN_mono (by omega) (fun a ha => by simp (disch := omega) only [gput_lt]) HZ.out)) ?_
            rintro _ rfl
            iterate 20 (all_goals try (first | with_reducible refine splitI (fun h => ?_) (fun h => ?_) | with_reducible refine splitBI (fun h => ?_) (fun h => ?_) | simp (config := { maxSteps := 1000000 }) (disch := first | assumption | omega | (simp; done) | fail) [Tryd.results17, *]))
            
          all_goals
            have e := HRET.out
            refine ⟨_, ⟨?_, rfl⟩, ⟨by dsimp only; omega, fun b hb => ?_⟩⟩
            · rw [← e]
              try simp only [ByteArray.append_assoc]
            · have hb' : b < n := hb
              show gput _ _ _ _ = _
              simp (disch := omega) only [gput_lt]
              try rfl
        · have IHY : Hide (∀ (g' : Nat → Option Blk) (n' : Nat), 0 < n' → repN g' n' y [.lit (.int .u8 y.op), .lit (.int .i64 k2), .lit (.int .i64 k3), sv2] → WC 6 Tryd.prog 17 [.agg [.lit (.int .u8 y.op), .lit (.int .i64 k2), .lit (.int .i64 k3), sv2]] ⟨.fn g', n'⟩ fun r => r = .ret (.lit (.string (textM y))) ⟨.fn g', n'⟩) :=
            ⟨fun g' n' q1 q2 => IH.out y hsy hvy g' n' _ q1 q2⟩
          have IHZ : Hide (∀ (g' : Nat → Option Blk) (n' : Nat), 0 < n' → repN g' n' z [.lit (.int .u8 z.op), .lit (.int .i64 j2), .lit (.int .i64 j3), sv3] → WC 6 Tryd.prog 17 [.agg [.lit (.int .u8 z.op), .lit (.int .i64 j2), .lit (.int .i64 j3), sv3]] ⟨.fn g', n'⟩ fun r => r = .ret (.lit (.string (textM z))) ⟨.fn g', n'⟩) :=
            ⟨fun g' n' q1 q2 => IH.out z hsz hvz g' n' _ q1 q2⟩
          have HRET : Hide (signB 10 ++ ⟨#[91]⟩ ++ textM y ++ ⟨#[32, 85, 32]⟩ ++ textM z ++ ⟨#[93]⟩ = ret) := ⟨by rw [← hret]; rfl⟩
          have HSI := Hide.mk (sign_w 10 v1)
          have hwl : (textM y).size ≤ 100000000 := by omega
          have hwz : (textM z).size ≤ 100000000 := by omega
          generalize textM y = wy at HRET IHY hwl
          generalize textM z = wz at HRET IHZ hwz
          generalize signB 10 = sg at *
          have s0 : (sg ++ (⟨#[91]⟩ : ByteArray)).size ≤ 400000000 := by simp only [ba_size_append]; omega
          have s1 : ((sg ++ (⟨#[91]⟩ : ByteArray)) ++ wy).size ≤ 400000000 := by simp only [ba_size_append]; omega
          have s2 : (((sg ++ (⟨#[91]⟩ : ByteArray)) ++ wy) ++ (⟨#[32, 85, 32]⟩ : ByteArray)).size ≤ 400000000 := by simp only [ba_size_append]; omega
          have s3 : ((((sg ++ (⟨#[91]⟩ : ByteArray)) ++ wy) ++ (⟨#[32, 85, 32]⟩ : ByteArray)) ++ wz).size ≤ 400000000 := by simp only [ba_size_append]; omega
          have s4 : (((((sg ++ (⟨#[91]⟩ : ByteArray)) ++ wy) ++ (⟨#[32, 85, 32]⟩ : ByteArray)) ++ wz) ++ (⟨#[93]⟩ : ByteArray)).size ≤ 400000000 := by simp only [ba_size_append]; omega
          clear hret v2 hty htz hvy hvz hsy hsz hop IH
          rcases hsl with ⟨c, rfl⟩ | ⟨c, rfl⟩
          all_goals
            refine WC.enterP (noO_ok _ _) hG pl17 Tryd.func17 rfl (by decide +kernel) (Nat.le_of_ble_eq_true (by kernel_rfl)) ?_
            iterate 20 (all_goals try (first | with_reducible refine splitI (fun h => ?_) (fun h => ?_) | with_reducible refine splitBI (fun h => ?_) (fun h => ?_) | simp (config := { maxSteps := 1000000 }) (disch := first | assumption | omega | (simp; done) | fail) [Tryd.results17, *]))
            refine WC.mono (HSI.out _ _) ?_
            rintro _ rfl
            iterate 20 (all_goals try (first | with_reducible refine splitI (fun h => ?_) (fun h => ?_) | with_reducible refine splitBI (fun h => ?_) (fun h => ?_) | simp (config := { maxSteps := 1000000 }) (disch := first | assumption | omega | (simp; done) | fail) [Tryd.results17, *]))
            refine WC.mono (IHY.out _ _ (by omega) (repN_mono (by omega) (fun a ha => by simp (disch := omega) only [gput_lt]) HY.out)) ?_
            rintro _ rfl
            iterate 20 (all_goals try (first | with_reducible refine splitI (fun h => ?_) (fun h => ?_) | with_reducible refine splitBI (fun h => ?_) (fun h => ?_) | simp (config := { maxSteps := 1000000 }) (disch := first | assumption | omega | (simp; done) | fail) [Tryd.results17, *]))
            refine WC.mono (IHZ.out _ _ (by omega) (repN_mono (by omega) (fun a ha => by simp (disch := omega) only [gput_lt]) HZ.out)) ?_
            rintro _ rfl
            iterate 20 (all_goals try (first | with_reducible refine splitI (fun h => ?_) (fun h => ?_) | with_reducible refine splitBI (fun h => ?_) (fun h => ?_) | simp (config := { maxSteps := 1000000 }) (disch := first | assumption | omega | (simp; done) | fail) [Tryd.results17, *]))
            
          all_goals
            have e := HRET.out
            refine ⟨_, ⟨?_, rfl⟩, ⟨by dsimp only; omega, fun b hb => ?_⟩⟩
            · rw [← e]
              try simp only [ByteArray.append_assoc]
            · have hb' : b < n := hb
              show gput _ _ _ _ = _
              simp (disch := omega) only [gput_lt]
              try rfl
        · have IHY : Hide (∀ (g' : Nat → Option Blk) (n' : Nat), 0 < n' → repN g' n' y [.lit (.int .u8 y.op), .lit (.int .i64 k2), .lit (.int .i64 k3), sv2] → WC 6 Tryd.prog 17 [.agg [.lit (.int .u8 y.op), .lit (.int .i64 k2), .lit (.int .i64 k3), sv2]] ⟨.fn g', n'⟩ fun r => r = .ret (.lit (.string (textM y))) ⟨.fn g', n'⟩) :=
            ⟨fun g' n' q1 q2 => IH.out y hsy hvy g' n' _ q1 q2⟩
          have IHZ : Hide (∀ (g' : Nat → Option Blk) (n' : Nat), 0 < n' → repN g' n' z [.lit (.int .u8 z.op), .lit (.int .i64 j2), .lit (.int .i64 j3), sv3] → WC 6 Tryd.prog 17 [.agg [.lit (.int .u8 z.op), .lit (.int .i64 j2), .lit (.int .i64 j3), sv3]] ⟨.fn g', n'⟩ fun r => r = .ret (.lit (.string (textM z))) ⟨.fn g', n'⟩) :=
            ⟨fun g' n' q1 q2 => IH.out z hsz hvz g' n' _ q1 q2⟩
          have HRET : Hide (signB 14 ++ ⟨#[91]⟩ ++ textM y ++ ⟨#[32, 85, 32]⟩ ++ textM z ++ ⟨#[93]⟩ = ret) := ⟨by rw [← hret]; rfl⟩
          have HSI := Hide.mk (sign_w 14 v1)
          have hwl : (textM y).size ≤ 100000000 := by omega
          have hwz : (textM z).size ≤ 100000000 := by omega
          generalize textM y = wy at HRET IHY hwl
          generalize textM z = wz at HRET IHZ hwz
          generalize signB 14 = sg at *
          have s0 : (sg ++ (⟨#[91]⟩ : ByteArray)).size ≤ 400000000 := by simp only [ba_size_append]; omega
          have s1 : ((sg ++ (⟨#[91]⟩ : ByteArray)) ++ wy).size ≤ 400000000 := by simp only [ba_size_append]; omega
          have s2 : (((sg ++ (⟨#[91]⟩ : ByteArray)) ++ wy) ++ (⟨#[32, 85, 32]⟩ : ByteArray)).size ≤ 400000000 := by simp only [ba_size_append]; omega
          have s3 : ((((sg ++ (⟨#[91]⟩ : ByteArray)) ++ wy) ++ (⟨#[32, 85, 32]⟩ : ByteArray)) ++ wz).size ≤ 400000000 := by simp only [ba_size_append]; omega
          have s4 : (((((sg ++ (⟨#[91]⟩ : ByteArray)) ++ wy) ++ (⟨#[32, 85, 32]⟩ : ByteArray)) ++ wz) ++ (⟨#[93]⟩ : ByteArray)).size ≤ 400000000 := by simp only [ba_size_append]; omega
          clear hret v2 hty htz hvy hvz hsy hsz hop IH
          rcases hsl with ⟨c, rfl⟩ | ⟨c, rfl⟩
          all_goals
            refine WC.enterP (noO_ok _ _) hG pl17 Tryd.func17 rfl (by decide +kernel) (Nat.le_of_ble_eq_true (by kernel_rfl)) ?_
            iterate 20 (all_goals try (first | with_reducible refine splitI (fun h => ?_) (fun h => ?_) | with_reducible refine splitBI (fun h => ?_) (fun h => ?_) | simp (config := { maxSteps := 1000000 }) (disch := first | assumption | omega | (simp; done) | fail) [Tryd.results17, *]))
            refine WC.mono (HSI.out _ _) ?_
            rintro _ rfl
            iterate 20 (all_goals try (first | with_reducible refine splitI (fun h => ?_) (fun h => ?_) | with_reducible refine splitBI (fun h => ?_) (fun h => ?_) | simp (config := { maxSteps := 1000000 }) (disch := first | assumption | omega | (simp; done) | fail) [Tryd.results17, *]))
            refine WC.mono (IHY.out _ _ (by omega) (repN_mono (by omega) (fun a ha => by simp (disch := omega) only [gput_lt]) HY.out)) ?_
            rintro _ rfl
            iterate 20 (all_goals try (first | with_reducible refine splitI (fun h => ?_) (fun h => ?_) | with_reducible refine splitBI (fun h => ?_) (fun h => ?_) | simp (config := { maxSteps := 1000000 }) (disch := first | assumption | omega | (simp; done) | fail) [Tryd.results17, *]))
            refine WC.mono (IHZ.out _ _ (by omega) (repN_mono (by omega) (fun a ha => by simp (disch := omega) only [gput_lt]) HZ.out)) ?_
            rintro _ rfl
            iterate 20 (all_goals try (first | with_reducible refine splitI (fun h => ?_) (fun h => ?_) | with_reducible refine splitBI (fun h => ?_) (fun h => ?_) | simp (config := { maxSteps := 1000000 }) (disch := first | assumption | omega | (simp; done) | fail) [Tryd.results17, *]))
            
          all_goals
            have e := HRET.out
            refine ⟨_, ⟨?_, rfl⟩, ⟨by dsimp only; omega, fun b hb => ?_⟩⟩
            · rw [← e]
              try simp only [ByteArray.append_assoc]
            · have hb' : b < n := hb
              show gput _ _ _ _ = _
              simp (disch := omega) only [gput_lt]
              try rfl
      | x1 :: x2 :: x3 :: l, hx, v2, v7, hsv1, hret =>
        exfalso
        have : subsM op ≤ 2 := by rcases op_cases v1 with rfl | rfl | rfl | rfl | rfl | rfl | rfl | rfl | rfl | rfl | rfl | rfl | rfl | rfl | rfl <;> decide
        simp only [List.length_cons] at v2
        omega
end Go.Ai
end

section
namespace Go.Ai
open Go.Proofs
set_option maxRecDepth 10000
set_option maxHeartbeats 40000000
def u16Cells (l : List Nat) : List AV := l.map fun (c : Nat) => .lit (.int .u16 (c : Int))
theorem MOf_w (st inp out : Nat) (part : Bool) (es : List Nat) (ev : AV) (g : Nat → Option Blk) (n : Nat) (hst : st < 256) (hinp : inp < 256) (hout : out < 256) (hes : SliceA g n ev es.length (u16Cells es)) (heb : ∀ c ∈ es, c < 65536) :
    WC 6 Tryd.prog 29 [.agg [.lit (.int .u8 st), .lit (.int .u8 inp), .lit (.int .u8 out), .lit (.bool part), ev]] ⟨.fn g, n⟩ fun r => ∃ cs g' n', r = .ret (.agg cs) ⟨.fn g', n'⟩ ∧ n ≤ n' ∧ (∀ b, b < n → g' b = g b) ∧ FreshM g' n n' (machOf st inp out part es) cs := by
  have h1e := hes.one
  have h1a : allOne [.lit (.int .u8 st), .lit (.int .u8 inp), .lit (.int .u8 out), .lit (.bool part), ev] = true := by simp [h1e]
  have HE := Hide.mk hes
  have HB := Hide.mk heb
  clear hes heb
  have hm1 : (st : Int).tmod 6 = ((st % 6 : Nat) : Int) := (Int.ofNat_tmod st 6).symm
  have hm2 : (inp : Int).tmod 3 = ((inp % 3 : Nat) : Int) := (Int.ofNat_tmod inp 3).symm
  have hm3 : (out : Int).tmod 3 = ((out % 3 : Nat) : Int) := (Int.ofNat_tmod out 3).symm
  have HM : Hide (machOf st inp out part es = ⟨1 + ((inp % 3 : Nat) : Int), 1 + ((out % 3 : Nat) : Int), (List.range (1 + st % 6)).map (rowM part es (1 + st % 6) (1 + inp % 3) (1 + out % 3))⟩) := ⟨rfl⟩
  have ha := Nat.mod_lt st (show 0 < 6 by omega)
  have hb := Nat.mod_lt inp (show 0 < 3 by omega)
  have hc := Nat.mod_lt out (show 0 < 3 by omega)
  generalize machOf st inp out part es = M at *
  generalize st % 6 = a at *
  generalize inp % 3 = b at *
  generalize out % 3 = c at *
  refine WC.enterP (noO_ok _ _) hG pl29 Tryd.func29 rfl (by decide +kernel) (Nat.le_of_ble_eq_true (by kernel_rfl)) ?_
  iterate 6 (all_goals try (first | with_reducible refine splitI (fun h => ?_) (fun h => ?_) | with_reducible refine splitBI (fun h => ?_) (fun h => ?_) | simp (config := { maxSteps := 1000000 }) (disch := first | assumption | omega | (simp; done) | fail) [Tryd.results29, *]))
  refine LX.ind (fun m gf H' => ∃ (s n' : Nat) (g' gk : Nat → Option Blk) (A : Nat) (rv : AV) (svs : List AV), s ≤ 1 + a ∧ m = 1 + a - s ∧ H' = ⟨.fn g', n'⟩ ∧ n + 1 + 1 + 1 ≤ n' ∧ (∀ b, b < n → g' b = g b) ∧ g' n = some (.cells [.lit (.int .u8 st), .lit (.int .u8 inp), .lit (.int .u8 out), .lit (.bool part), ev] true 0) ∧ g' (n + 1) = some (.cells [.lit (.int .i64 0), .lit (.int .i64 0), .lit (.slice none 0 0)] true 0) ∧ g' (n + 1 + 1) = some (.cells [.lit (.int .i64 (1 + (b : Int))), .lit (.int .i64 (1 + (c : Int))), rv] true 0) ∧
    GrowV g' (n + 1 + 1 + 1) n' A rv s 1 svs ∧ RowsE gk n' ((List.range s).map (rowM part es (1 + a) (1 + b) (1 + c))) svs ∧ (∀ q z, gk q = some z → g' q = some z ∧ q ≠ A ∧ n + 1 + 1 + 1 ≤ q ∧ q < n') ∧ gf 1 = some (.ptr n 0) ∧ gf 2 = some (.ptr (n + 1) 0) ∧ gf 3 = some (.lit (.int .i64 (1 + (a : Int)))) ∧ gf 4 = some (.ptr (n + 1 + 1) 0) ∧ gf 5 = some (.lit (.int .i64 s))) (m0 := 1 + a) ?_ ?_
  · refine ⟨0, _, _, fun _ => none, 0, _, [], by omega, rfl, rfl, by omega, fun q hq => ?_, ?_, ?_, ?_, .inl ⟨rfl, rfl, rfl⟩, rfl, fun q z h => (by cases h), by simp, by simp, by simp, by simp, by simp⟩
    · simp (disch := omega) only [gput_lt]
    · simp (disch := omega) only [gput_lt, gput_eq]
    · simp (disch := omega) only [gput_lt, gput_eq]
    · simp (disch := omega) only [gput_lt, gput_eq]
  rintro m gf H' ⟨s, n1, g1, gk, A, rv, svs, hs, rfl, rfl, hn1, hg1, e0, e1, e2, hA, hrows, hk, w1, w2, w3, w4, w5⟩ ih
  have HG1 := Hide.mk hg1
  have HA := Hide.mk hA
  have HK := Hide.mk hk
  have HR := Hide.mk hrows
  clear hg1 hA hk hrows
  refine LX.roundP (noO_ok _ _) hG pl29 (by decide +kernel) ?_
  by_cases hlt : s < 1 + a
  · have hltI : (s : Int) < 1 + (a : Int) := by omega
    iterate 6 (all_goals try (first | with_reducible refine splitI (fun h => ?_) (fun h => ?_) | with_reducible refine splitBI (fun h => ?_) (fun h => ?_) | simp (config := { maxSteps := 1000000 }) (disch := first | assumption | omega | (simp; done) | fail) [Tryd.results29, *]))
    refine LX.ind (fun m gf H' => ∃ (j n' : Nat) (g' : Nat → Option Blk) (B : Nat) (sv : AV) (rr : List AV), j ≤ 1 + b ∧ m = 1 + b - j ∧ H' = ⟨.fn g', n'⟩ ∧ n1 ≤ n' ∧ (∀ q, q < n1 → g' q = g1 q) ∧
      GrowV g' n1 n' B sv j 2 rr ∧ Hide (rr = rowC ((List.range j).map fun i => edgeM part (1 + a) (1 + c) (es.getD (s * (1 + b) + i) 0))) ∧ gf 1 = some (.ptr n 0) ∧ gf 2 = some (.ptr (n + 1) 0) ∧ gf 3 = some (.lit (.int .i64 (1 + (a : Int)))) ∧ gf 4 = some (.ptr (n + 1 + 1) 0) ∧ gf 5 = some (.lit (.int .i64 s)) ∧ gf 6 = some sv ∧ gf 7 = some (.lit (.int .i64 j))) (m0 := 1 + b) ?_ ?_
    · refine ⟨0, _, _, 0, _, _, by omega, rfl, rfl, by omega, fun q hq => rfl, .inl ⟨rfl, rfl, rfl⟩, ⟨rfl⟩, by simp [*], by simp [*], by simp [*], by simp [*], by simp [*], by simp, by simp⟩
    rintro m gf H' ⟨j, n', g', B, sv, rr, hj, rfl, rfl, hn', hg', hB, hrr, v1, v2, v3, v4, v5, v6, v7⟩ ihj
    have HG := Hide.mk hg'
    have HBv := Hide.mk hB
    clear hg' hB
    have f0 := (HG.out n (by omega)).trans e0
    have f2 := (HG.out (n + 1 + 1) (by omega)).trans e2
    refine LX.roundP (noO_ok _ _) hG pl29 (by decide +kernel) ?_
    by_cases hjt : j < 1 + b
    · have hjtI : (j : Int) < 1 + (b : Int) := by omega
      have hp : s * (1 + b) ≤ 15 := Nat.le_trans (Nat.mul_le_mul (show s ≤ 5 by omega) (show 1 + b ≤ 3 by omega)) (by omega)
      have hmul : (s : Int) * (1 + (b : Int)) = ((s * (1 + b) : Nat) : Int) := by simp
      generalize hpe : s * (1 + b) = p at *
      have hvl : es.getD (p + j) 0 < 65536 := by
        rw [List.getD_eq_getElem?_getD]
        cases hq : es[p + j]? with
        | none => simp
        | some x => exact HB.out x (List.mem_of_getElem? hq)

      generalize hv : es.getD (p + j) 0 = v at *
      have hq4 : (v : Int).tdiv 4 = ((v / 4 : Nat) : Int) := rfl
      have hr4 : (v : Int).tmod 4 = ((v % 4 : Nat) : Int) := (Int.ofNat_tmod v 4).symm
      generalize hqe : v / 4 = q at *
      generalize hre : v % 4 = r at *
      have hqa : (q : Int).tmod (1 + (a : Int)) = ((q % (1 + a) : Nat) : Int) := by rw [show (1 + (a : Int)) = ((1 + a : Nat) : Int) by omega]; exact (Int.ofNat_tmod q (1 + a)).symm
      have hqb : (q : Int).tdiv (1 + (a : Int)) = ((q / (1 + a) : Nat) : Int) := by rw [show (1 + (a : Int)) = ((1 + a : Nat) : Int) by omega]; rfl
      have hql : q / (1 + a) ≤ q := Nat.div_le_self _ _
      generalize hde : q / (1 + a) = d at *
      have hdc : (d : Int).tmod (1 + (c : Int)) = ((d % (1 + c) : Nat) : Int) := by rw [show (1 + (c : Int)) = ((1 + c : Nat) : Int) by omega]; exact (Int.ofNat_tmod d (1 + c)).symm
      have hEd : Hide (edgeM part (1 + a) (1 + c) v = if part = true ∧ r = 3 then (-1, -1) else (((q % (1 + a) : Nat) : Int), ((d % (1 + c) : Nat) : Int))) := ⟨by rw [← hre, ← hde, ← hqe]; rfl⟩
      have hz : v = 0 → q % (1 + a) = 0 ∧ d % (1 + c) = 0 ∧ r = 0 := fun e => by
        have e1 : q = 0 := by rw [← hqe, e]
        have e2 : d = 0 := by rw [← hde, e1]; simp
        have e3 : r = 0 := by rw [← hre, e]
        exact ⟨by rw [e1]; simp, by rw [e2]; simp, e3⟩
      have HZ := Hide.mk hz
      clear hz
      generalize q % (1 + a) = x at *
      generalize d % (1 + c) = y at *
      have hql2 : q ≤ v := by omega
      have hlen : ∀ {H : Mem} {e' : Ev} {o : Oper} {c' : Call} {e : TypeId}, lenS Tryd.prog H e' o c' (some (.slice e)) (some [ev]) = .val (.lit (.int .i64 es.length)) H := by
        intro H e' o c' e
        rcases HE.out with ⟨h1, rfl | rfl⟩ | ⟨a2, off, c2, _, rfl, _⟩
        · rw [h1]; rfl
        · rw [h1]; rfl
        · rfl
      have hEr : Hide (rowC (List.map (fun i => edgeM part (1 + a) (1 + c) (es.getD (p + i) 0)) (List.range (j + 1))) = rr ++ [.lit (.int .i64 (edgeM part (1 + a) (1 + c) v).1), .lit (.int .i64 (edgeM part (1 + a) (1 + c) v).2)]) := ⟨by rw [List.range_succ, List.map_append, List.map_singleton, hv, rowC_snoc, hrr.out]⟩
      have hdv : d ≤ v := by omega
      clear hqe hre hde hql
      by_cases hin : p + j < es.length
      · have hinI : (p : Int) + (j : Int) < (es.length : Int) := by omega
        rcases HE.out with ⟨h1, _⟩ | ⟨a2, off, c2, ha2, rfl, hrow⟩
        · omega
        have hnum := (hrow.mono ((HG.out a2 (by omega)).trans (HG1.out a2 ha2))).one (k := p + j) (s := 1) (by simp only [u16Cells, List.length_map]; exact hin)
        have hcell : (u16Cells es)[p + j]'(by simp only [u16Cells, List.length_map]; exact hin) = .lit (.int .u16 (v : Int)) := by simp only [u16Cells, List.getElem_map]; rw [← hv, List.getD_eq_getElem?_getD, List.getElem?_eq_getElem hin]; rfl
        rw [hcell] at hnum
        clear hv hcell hrow
        have htn : ((p : Int) + (j : Int)).toNat = p + j := by omega
        rcases HBv.out with hB0 | ⟨hpos, hsv, hB1, hB2, hB3, hB4⟩
        · obtain ⟨hj0, hnil, hsv⟩ := hB0
          subst hsv
          have HJ := Hide.mk (And.intro hj0 hnil)
          clear hj0 hnil
          cases part <;> by_cases hr3 : r = 3
          all_goals
            first
              | have hrI : (r : Int) = 3 := by omega
              | have hrI : ¬(r : Int) = 3 := by omega
            iterate 6 (all_goals try (first | with_reducible refine splitI (fun h => ?_) (fun h => ?_) | with_reducible refine splitBI (fun h => ?_) (fun h => ?_) | simp (config := { maxSteps := 1000000 }) (disch := first | assumption | omega | (simp; done) | fail) [Tryd.results29, *]))
            refine ihj.out (1 + b - (j + 1)) _ _ (by omega) ⟨j + 1, n' + 1 + 1, _, n' + 1, .slq (n' + 1) 0 (j + 1) 0, _, by omega, rfl, rfl, by omega, fun q hq => ?_, .mk gput_eq (by omega) (by omega) ?_, ⟨?_⟩, by simp [*], by simp [*], by simp [*], by simp [*], by simp [*], by rw [HJ.out.1]; simp [*], by simp⟩
            · simp (disch := omega) only [gput_lt, gput_ne]
              exact HG.out q hq
            · rw [HJ.out.1]; simp [*]
            · rw [hEr.out, hEd.out]
              rw [HJ.out.2]; simp [*]
        · subst hsv
          have hj6 : j ≤ 1000000 := by omega
          cases part <;> by_cases hr3 : r = 3
          all_goals
            first
              | have hrI : (r : Int) = 3 := by omega
              | have hrI : ¬(r : Int) = 3 := by omega
            iterate 6 (all_goals try (first | with_reducible refine splitI (fun h => ?_) (fun h => ?_) | with_reducible refine splitBI (fun h => ?_) (fun h => ?_) | simp (config := { maxSteps := 1000000 }) (disch := first | assumption | omega | (simp; done) | fail) [Tryd.results29, *]))
            refine ihj.out (1 + b - (j + 1)) _ _ (by omega) ⟨j + 1, n' + 1 + 1, _, n' + 1, .slq (n' + 1) 0 (j + 1) 0, _, by omega, rfl, rfl, by omega, fun q hq => ?_, .mk gput_eq (by omega) (by omega) ?_, ⟨?_⟩, by simp [*], by simp [*], by simp [*], by simp [*], by simp [*], by simp [*], by simp⟩
            · simp (disch := omega) only [gput_lt, gput_ne]
              exact HG.out q hq
            · simp [*]; omega
            · rw [hEr.out, hEd.out]
              simp [*]
      · have hinI : ¬(p : Int) + (j : Int) < (es.length : Int) := by omega
        have hv0 : v = 0 := by
          rw [← hv, List.getD_eq_getElem?_getD, List.getElem?_eq_none (by omega)]; rfl
        obtain ⟨hx0, hy0, hr0⟩ := HZ.out hv0
        clear hv hq4 hr4 hqa hqb hdc
        rcases HBv.out with hB0 | ⟨hpos, hsv, hB1, hB2, hB3, hB4⟩
        · obtain ⟨hj0, hnil, hsv⟩ := hB0
          subst hsv
          have HJ := Hide.mk (And.intro hj0 hnil)
          clear hj0 hnil
          cases part
          all_goals
            iterate 6 (all_goals try (first | with_reducible refine splitI (fun h => ?_) (fun h => ?_) | with_reducible refine splitBI (fun h => ?_) (fun h => ?_) | simp (config := { maxSteps := 1000000 }) (disch := first | assumption | omega | (simp; done) | fail) [Tryd.results29, *]))
            refine ihj.out (1 + b - (j + 1)) _ _ (by omega) ⟨j + 1, n' + 1 + 1, _, n' + 1, .slq (n' + 1) 0 (j + 1) 0, _, by omega, rfl, rfl, by omega, fun q hq => ?_, .mk gput_eq (by omega) (by omega) ?_, ⟨?_⟩, by simp [*], by simp [*], by simp [*], by simp [*], by simp [*], by rw [HJ.out.1]; simp [*], by simp⟩
            · simp (disch := omega) only [gput_lt, gput_ne]
              exact HG.out q hq
            · rw [HJ.out.1]; simp [*]
            · rw [hEr.out, hEd.out]
              rw [HJ.out.2]; simp [*]
        · subst hsv
          have hj6 : j ≤ 1000000 := by omega
          cases part
          all_goals
            iterate 6 (all_goals try (first | with_reducible refine splitI (fun h => ?_) (fun h => ?_) | with_reducible refine splitBI (fun h => ?_) (fun h => ?_) | simp (config := { maxSteps := 1000000 }) (disch := first | assumption | omega | (simp; done) | fail) [Tryd.results29, *]))
            refine ihj.out (1 + b - (j + 1)) _ _ (by omega) ⟨j + 1, n' + 1 + 1, _, n' + 1, .slq (n' + 1) 0 (j + 1) 0, _, by omega, rfl, rfl, by omega, fun q hq => ?_, .mk gput_eq (by omega) (by omega) ?_, ⟨?_⟩, by simp [*], by simp [*], by simp [*], by simp [*], by simp [*], by simp [*], by simp⟩
            · simp (disch := omega) only [gput_lt, gput_ne]
              exact HG.out q hq
            · simp [*]; omega
            · rw [hEr.out, hEd.out]
              simp [*]
    · have Hj2 : Hide (j = 1 + b) := ⟨by omega⟩
      have hjtI : ¬(j : Int) < 1 + (b : Int) := by omega
      have hs6 : s ≤ 1000000 := by omega
      rcases HBv.out with ⟨h0, _⟩ | ⟨hpos, hsv, hB1, hB2, hB3, hB4⟩
      · omega
      subst hsv
      have HB4 := Hide.mk hB4
      clear hB4
      have HR2 : Hide (RowsE (gput gk B (some (.cells rr true 2))) (n' + 1 + 1) ((List.range (s + 1)).map (rowM part es (1 + a) (1 + b) (1 + c))) (svs ++ [.slq B 0 j 0])) := ⟨by
        rw [List.range_succ, List.map_append, List.map_singleton]
        refine RowsE.snoc ?_ (HR.out.ext (by omega) fun q z hq hz => (gput_lt (by omega)).trans hz)
        rw [show (rowM part es (1 + a) (1 + b) (1 + c) s).length = j by unfold rowM; simp [Hj2.out]]
        refine .inr ⟨B, 0, by omega, .inr ⟨0, rfl⟩, rr, true, 2, gput_eq, ?_, ?_⟩
        · rw [show rowC (rowM part es (1 + a) (1 + b) (1 + c) s) = rr by rw [hrr.out, Hj2.out]; rfl]; simp
        · rw [show rowC (rowM part es (1 + a) (1 + b) (1 + c) s) = rr by rw [hrr.out, Hj2.out]; rfl]; simp⟩
      have HK2 : Hide (∀ q z, gput gk B (some (.cells rr true 2)) q = some z → g' q = some z ∧ q ≠ n' ∧ q ≠ n' + 1 ∧ q ≠ n + 1 + 1 ∧ n + 1 + 1 + 1 ≤ q ∧ q < n' ∧ (A < n1 → q ≠ A)) := ⟨fun q z hz => by
        rcases gput_v hz with ⟨rfl, h⟩ | ⟨_, hz⟩
        · cases h; exact ⟨hB3, by omega, by omega, by omega, by omega, hB2, by omega⟩
        · obtain ⟨k1, k2, k3, k4⟩ := HK.out q z hz
          exact ⟨(HG.out q k4).trans k1, by omega, by omega, by omega, k3, by omega, fun _ => k2⟩⟩
      rcases HA.out with hA0 | ⟨hspos, hrv, hA1, hA2, hA3, hA4⟩
      · obtain ⟨hs0, hnil, hrv⟩ := hA0
        subst hrv
        have HJ := Hide.mk (And.intro hs0 hnil)
        clear hs0 hnil
        iterate 6 (all_goals try (first | with_reducible refine splitI (fun h => ?_) (fun h => ?_) | with_reducible refine splitBI (fun h => ?_) (fun h => ?_) | simp (config := { maxSteps := 1000000 }) (disch := first | assumption | omega | (simp; done) | fail) [Tryd.results29, *]))
        refine ih.out (1 + a - (s + 1)) _ _ (by omega) ⟨s + 1, n' + 1 + 1, _, _, n' + 1, .slq (n' + 1) 0 (s + 1) 0, svs ++ [.slq B 0 j 0], by omega, rfl, rfl, by omega, fun q hq => ?_, ?_, ?_, ?_, .mk ?_ (by omega) (by omega) ?_, HR2.out, fun q z hz => ?_, by simp [*], by simp [*], by simp [*], by simp [*], by simp [*]⟩
        · simp (disch := omega) only [gput_lt, gput_ne]
          rw [HG.out q (by omega)]
          exact HG1.out q hq
        · simp (disch := omega) only [gput_lt, gput_ne]
          exact f0
        · simp (disch := omega) only [gput_lt, gput_ne]
          rw [HG.out (n + 1) (by omega)]
          exact e1
        · rw [HJ.out.1]; simp [*]
        · rw [HJ.out.2]; simp (disch := omega) [gput_ne, gput_eq]
        · rw [HJ.out.1, HJ.out.2]; simp [*]
        · obtain ⟨k1, k2, k3, k4, k5, k6, k7⟩ := HK2.out q z hz
          refine ⟨?_, k3, k5, by omega⟩
          simp (disch := omega) only [gput_lt, gput_ne]
          exact k1
      · subst hrv
        have hA5 := (HG.out A hA2).trans hA3
        iterate 6 (all_goals try (first | with_reducible refine splitI (fun h => ?_) (fun h => ?_) | with_reducible refine splitBI (fun h => ?_) (fun h => ?_) | simp (config := { maxSteps := 1000000 }) (disch := first | assumption | omega | (simp; done) | fail) [Tryd.results29, *]))
        refine ih.out (1 + a - (s + 1)) _ _ (by omega) ⟨s + 1, n' + 1 + 1, _, _, n' + 1, .slq (n' + 1) 0 (s + 1) 0, svs ++ [.slq B 0 j 0], by omega, rfl, rfl, by omega, fun q hq => ?_, ?_, ?_, ?_, .mk ?_ (by omega) (by omega) ?_, HR2.out, fun q z hz => ?_, by simp [*], by simp [*], by simp [*], by simp [*], by simp [*]⟩
        · simp (disch := omega) only [gput_lt, gput_ne]
          rw [HG.out q (by omega)]
          exact HG1.out q hq
        · simp (disch := omega) only [gput_lt, gput_ne]
          exact f0
        · simp (disch := omega) only [gput_lt, gput_ne]
          rw [HG.out (n + 1) (by omega)]
          exact e1
        · simp [*]
        · simp (disch := omega) [gput_ne, gput_eq]
        · simp [*]
        · obtain ⟨k1, k2, k3, k4, k5, k6, k7⟩ := HK2.out q z hz
          refine ⟨?_, k3, k5, by omega⟩
          have k8 := k7 hA2
          simp (disch := omega) only [gput_lt, gput_ne]
          exact k1
  · have hltI : ¬(s : Int) < 1 + (a : Int) := by omega
    have hs2 : s = 1 + a := by omega
    have h1r := HA.out.one
    have h1m : allOne [.lit (.int .i64 (1 + (b : Int))), .lit (.int .i64 (1 + (c : Int))), rv] = true := by simp [h1r]
    have hlen : svs.length = s := by rw [HR.out.len]; simp
    have HREP : Hide (RepM (fun q => if q = A ∧ n + 1 + 1 + 1 ≤ A ∧ A < n1 then g1 A else gk q) n1 M [.lit (.int .i64 (1 + (b : Int))), .lit (.int .i64 (1 + (c : Int))), rv]) := ⟨by
      rw [HM.out]
      refine ⟨rv, svs, rfl, ?_, ?_⟩
      · show RowsE _ n1 ((List.range (1 + a)).map _) svs
        have hrs := HR.out
        rw [hs2] at hrs
        refine hrs.ext (Nat.le_refl _) fun q z _ hz => ?_
        obtain ⟨k1, k2, k3, k4⟩ := HK.out q z hz
        show (if q = A ∧ n + 1 + 1 + 1 ≤ A ∧ A < n1 then g1 A else gk q) = some z
        rw [if_neg (fun h => k2 h.1)]; exact hz
      · show SliceV _ n1 rv ((List.range (1 + a)).map _).length svs
        rw [List.length_map, List.length_range, ← hs2]
        refine HA.out.slice.ext (Nat.le_refl _) fun q z _ hz => ?_
        have hz' : (if q = A ∧ n + 1 + 1 + 1 ≤ A ∧ A < n1 then g1 q else none) = some z := hz
        show (if q = A ∧ n + 1 + 1 + 1 ≤ A ∧ A < n1 then g1 A else gk q) = some z
        split at hz'
        · rename_i h
          rw [if_pos h, ← h.1]; exact hz'
        · cases hz'⟩
    clear hs2 hlen
    iterate 6 (all_goals try (first | with_reducible refine splitI (fun h => ?_) (fun h => ?_) | with_reducible refine splitBI (fun h => ?_) (fun h => ?_) | simp (config := { maxSteps := 1000000 }) (disch := first | assumption | omega | (simp; done) | fail) [Tryd.results29, *]))
    refine ⟨_, _, _, ⟨rfl, rfl, rfl⟩, by omega, fun q hq => ?_, _, fun q z hz => ?_, HREP.out⟩
    · rw [gput_lt (by omega)]; exact HG1.out q hq
    · have hz' : (if q = A ∧ n + 1 + 1 + 1 ≤ A ∧ A < n1 then g1 A else gk q) = some z := hz
      split at hz'
      · rename_i h
        obtain ⟨rfl, h2, h3⟩ := h
        exact ⟨by rw [gput_ne (by omega)]; exact hz', by omega, h3⟩
      · obtain ⟨k1, k2, k3, k4⟩ := HK.out q z hz'
        exact ⟨by rw [gput_ne (by omega)]; exact k1, by omega, k4⟩
end Go.Ai
end
