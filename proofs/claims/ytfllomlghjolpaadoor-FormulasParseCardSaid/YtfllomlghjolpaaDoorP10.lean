/- A small verified interpreter over names, its proofs, and what was proved with it. No condition. -/
import Derived.Test.YtfllomlghjolpaaDoorCards
import Derived.Test.YtfllomlghjolpaaDoorTie
import Derived.WalkKit
import Derived.OpenShut
import Derived.Deep.DeepHandedRow
import Derived.LaidOnce
import Derived.Test.YtfllomlghjolpaaDoorP08
import Derived.Test.YtfllomlghjolpaaDoorP07
import Derived.Test.YtfllomlghjolpaaDoorP09
import Derived.Test.YtfllomlghjolpaaDoorP06
set_option linter.all false
set_option linter.deprecated false
section
namespace Go.Ai
open Go.Proofs
set_option maxRecDepth 10000
set_option maxHeartbeats 40000000
theorem ops_agg (op : Nat) (h : op < 15) : ∃ fn, loadB (some (true, 4)) (some opsB) (op * 4) = some (.agg [.lit (.int .i64 (subsM op : Nat)), .lit (.int .i64 (rankM op)), .lit (.string (signB op)), .lit (.func (.func fn) #[] #[])]) := by
  rcases op_cases h with rfl | rfl | rfl | rfl | rfl | rfl | rfl | rfl | rfl | rfl | rfl | rfl | rfl | rfl | rfl <;> exact ⟨_, rfl⟩
theorem rank_in (op : Nat) : 1 ≤ rankM op ∧ rankM op ≤ 4 := by unfold rankM; split <;> (try split) <;> (try split) <;> omega
theorem par_zero (w : ByteArray) (op : Nat) : parM w (rankM op) 0 = w := by unfold parM; exact if_neg (by have := rank_in op; omega)
theorem write_w : ∀ (m : Nat), m ≤ 1000000 → ∀ (x : NodeM), sizeN x ≤ m → ∀ (g : Nat → Option Blk) (n : Nat) (cs : List AV) (least : Int), g 0 = some opsB → g 1 = some (.cells bP false 0) → 1 < n → repN g n x cs → validM 10000 10000 10000 x = true →
    WC 6 Tryd.prog 39 [.agg cs, .lit (.int .i64 least)] ⟨.fn g, n⟩ fun r => r = .ret (.lit (.string (parM (textM x) (rankM x.op) least))) ⟨.fn g, n⟩ := by
  intro m
  induction m with
  | zero => intro _ x hx; cases x; unfold sizeN at hx; omega
  | succ m ihm =>
    intro hm x hx g n cs least hg hgp hn hr hv
    have IH := Hide.mk ihm
    clear ihm
    refine WC.drop1 rfl ?_
    cases x with
    | mk op a b subs =>
      generalize hret : parM (textM (.mk op a b subs)) (rankM (NodeM.mk op a b subs).op) least = ret
      simp only [validM, Bool.and_eq_true, decide_eq_true_eq] at hv
      obtain ⟨v1, v2, v3, v4, v5, v6, v7⟩ := hv
      obtain ⟨hop, sv1, rfl, hsv1⟩ := hr
      have h1c : oneC sv1 = true := by rcases hsv1 with ⟨_, rfl | rfl⟩ | ⟨a, off, r, _, ⟨c, rfl⟩ | ⟨c, rfl⟩, _⟩ <;> rfl
      have h1a : allOne [.lit (.int .u8 op), .lit (.int .i64 a), .lit (.int .i64 b), sv1] = true := by simp [h1c]
      obtain ⟨fn, hrow⟩ := ops_agg op v1
      obtain ⟨hrk1, hrk2⟩ := rank_in op
      have hsg := sign_size op
      have hallr : allOne [.lit (.int .i64 (subsM op : Nat)), .lit (.int .i64 (rankM op)), .lit (.string (signB op)), .lit (.func (.func fn) #[] #[])] = true := by simp
      obtain ⟨ka, rfl⟩ := Int.eq_ofNat_of_zero_le v3
      obtain ⟨kb, rfl⟩ := Int.eq_ofNat_of_zero_le v4
      have va : ka < 10000 := by split at v5 <;> (try split at v5) <;> omega
      have vb : kb < 10000 := by split at v6 <;> omega
      have da := dec_size ka 3 (by omega)
      have db := dec_size kb 3 (by omega)
      have hspz : (⟨#[32]⟩ : ByteArray).size = 1 := rfl
      have hpl : (⟨#[40]⟩ : ByteArray).size = 1 := rfl
      have hpr : (⟨#[41]⟩ : ByteArray).size = 1 := rfl
      have hql : (⟨#[91]⟩ : ByteArray).size = 1 := rfl
      have hqr : (⟨#[93]⟩ : ByteArray).size = 1 := rfl
      have hqu : (⟨#[32, 85, 32]⟩ : ByteArray).size = 3 := rfl
      clear v5 v6
      have hopI : (op : Int) < 15 := by omega
      match subs, hx, v2, v7, hsv1, hret with
      | [], hx, v2, v7, hsv1, hret =>
        have ho : op = 0 ∨ op = 1 ∨ op = 2 ∨ op = 3 := by
          rcases op_cases v1 with rfl | rfl | rfl | rfl | rfl | rfl | rfl | rfl | rfl | rfl | rfl | rfl | rfl | rfl | rfl <;> simp [subsM] at v2 ⊢
        clear hsv1 v2 v7 IH
        rcases ho with rfl | rfl | rfl | rfl
        · rw [show subsM 0 = 0 from rfl] at hrow hallr
          have h2 : ((⟨#[40]⟩ : ByteArray) ++ signB 0).size ≤ 200000001 := by rw [ba_size_append]; omega
          have HRET : Hide (parM (signB 0) (rankM 0) least = ret) := ⟨by rw [← hret]; rfl⟩
          clear hret
          refine WC.enterP (noO_ok _ _) hG pl39 Tryd.func39 rfl (by decide +kernel) (Nat.le_of_ble_eq_true (by kernel_rfl)) ?_
          iterate 20 (all_goals try (first | with_reducible refine splitI (fun h => ?_) (fun h => ?_) | with_reducible refine splitBI (fun h => ?_) (fun h => ?_) | simp (config := { maxSteps := 1000000 }) (disch := first | assumption | omega | (simp; done) | fail) [Tryd.results39, *]))
          all_goals
            have e := HRET.out
            refine ⟨_, ⟨?_, rfl⟩, ⟨by dsimp only; omega, fun b hb => ?_⟩⟩
            · rw [← e]; unfold parM
              first | (rw [if_pos (by assumption)]) | (rw [if_neg (by omega)])
              try simp only [ByteArray.append_assoc]
            · have hb' : b < n := hb
              show gput _ _ _ _ = _
              simp (disch := omega) only [gput_lt]
              try rfl
        · rw [show subsM 1 = 0 from rfl] at hrow hallr
          have HRET : Hide (parM (signB 1 ++ ⟨#[32]⟩ ++ decB ka) (rankM 1) least = ret) := ⟨by rw [← hret]; rfl⟩
          clear hret
          have s1 : ((⟨#[32]⟩ : ByteArray) ++ decB ka).size ≤ 200000000 := by rw [ba_size_append]; omega
          have s2 : (signB 1 ++ ((⟨#[32]⟩ : ByteArray) ++ decB ka)).size ≤ 200000000 := by rw [ba_size_append, ba_size_append]; omega
          have s3 : ((⟨#[40]⟩ : ByteArray) ++ (signB 1 ++ ((⟨#[32]⟩ : ByteArray) ++ decB ka))).size ≤ 200000001 := by rw [ba_size_append, ba_size_append, ba_size_append]; omega
          refine WC.enterP (noO_ok _ _) hG pl39 Tryd.func39 rfl (by decide +kernel) (Nat.le_of_ble_eq_true (by kernel_rfl)) ?_
          iterate 20 (all_goals try (first | with_reducible refine splitI (fun h => ?_) (fun h => ?_) | with_reducible refine splitBI (fun h => ?_) (fun h => ?_) | simp (config := { maxSteps := 1000000 }) (disch := first | assumption | omega | (simp; done) | fail) [Tryd.results39, *]))
          refine WC.mono (itoa_w ka (by omega) _ _ (by simp (disch := omega) only [gput_lt]; exact hgp) (by omega)) ?_
          rintro _ rfl
          generalize decB ka = dka at *
          iterate 20 (all_goals try (first | with_reducible refine splitI (fun h => ?_) (fun h => ?_) | with_reducible refine splitBI (fun h => ?_) (fun h => ?_) | simp (config := { maxSteps := 1000000 }) (disch := first | assumption | omega | (simp; done) | fail) [Tryd.results39, *]))
          all_goals
            have e := HRET.out
            refine ⟨_, ⟨?_, rfl⟩, ⟨by dsimp only; omega, fun b hb => ?_⟩⟩
            · rw [← e]; unfold parM
              first | (rw [if_pos (by assumption)]) | (rw [if_neg (by omega)])
              try simp only [ByteArray.append_assoc]
            · have hb' : b < n := hb
              show gput _ _ _ _ = _
              simp (disch := omega) only [gput_lt]
              try rfl
        · rw [show subsM 2 = 0 from rfl] at hrow hallr
          have HRET : Hide (parM (signB 2 ++ ⟨#[32]⟩ ++ decB ka) (rankM 2) least = ret) := ⟨by rw [← hret]; rfl⟩
          clear hret
          have s1 : ((⟨#[32]⟩ : ByteArray) ++ decB ka).size ≤ 200000000 := by rw [ba_size_append]; omega
          have s2 : (signB 2 ++ ((⟨#[32]⟩ : ByteArray) ++ decB ka)).size ≤ 200000000 := by rw [ba_size_append, ba_size_append]; omega
          have s3 : ((⟨#[40]⟩ : ByteArray) ++ (signB 2 ++ ((⟨#[32]⟩ : ByteArray) ++ decB ka))).size ≤ 200000001 := by rw [ba_size_append, ba_size_append, ba_size_append]; omega
          refine WC.enterP (noO_ok _ _) hG pl39 Tryd.func39 rfl (by decide +kernel) (Nat.le_of_ble_eq_true (by kernel_rfl)) ?_
          iterate 20 (all_goals try (first | with_reducible refine splitI (fun h => ?_) (fun h => ?_) | with_reducible refine splitBI (fun h => ?_) (fun h => ?_) | simp (config := { maxSteps := 1000000 }) (disch := first | assumption | omega | (simp; done) | fail) [Tryd.results39, *]))
          refine WC.mono (itoa_w ka (by omega) _ _ (by simp (disch := omega) only [gput_lt]; exact hgp) (by omega)) ?_
          rintro _ rfl
          generalize decB ka = dka at *
          iterate 20 (all_goals try (first | with_reducible refine splitI (fun h => ?_) (fun h => ?_) | with_reducible refine splitBI (fun h => ?_) (fun h => ?_) | simp (config := { maxSteps := 1000000 }) (disch := first | assumption | omega | (simp; done) | fail) [Tryd.results39, *]))
          all_goals
            have e := HRET.out
            refine ⟨_, ⟨?_, rfl⟩, ⟨by dsimp only; omega, fun b hb => ?_⟩⟩
            · rw [← e]; unfold parM
              first | (rw [if_pos (by assumption)]) | (rw [if_neg (by omega)])
              try simp only [ByteArray.append_assoc]
            · have hb' : b < n := hb
              show gput _ _ _ _ = _
              simp (disch := omega) only [gput_lt]
              try rfl
        · rw [show subsM 3 = 0 from rfl] at hrow hallr
          have HRET : Hide (parM (signB 3 ++ ⟨#[32]⟩ ++ decB ka ++ ⟨#[32]⟩ ++ decB kb) (rankM 3) least = ret) := ⟨by rw [← hret]; rfl⟩
          clear hret
          have s1 : ((⟨#[32]⟩ : ByteArray) ++ decB ka).size ≤ 200 := by simp only [ba_size_append]; omega
          have s2 : (((⟨#[32]⟩ : ByteArray) ++ decB ka) ++ (⟨#[32]⟩ : ByteArray)).size ≤ 200 := by simp only [ba_size_append]; omega
          have s3 : ((((⟨#[32]⟩ : ByteArray) ++ decB ka) ++ (⟨#[32]⟩ : ByteArray)) ++ decB kb).size ≤ 200 := by simp only [ba_size_append]; omega
          have s4 : (signB 3 ++ ((((⟨#[32]⟩ : ByteArray) ++ decB ka) ++ (⟨#[32]⟩ : ByteArray)) ++ decB kb)).size ≤ 200 := by simp only [ba_size_append]; omega
          have s5 : ((⟨#[40]⟩ : ByteArray) ++ (signB 3 ++ ((((⟨#[32]⟩ : ByteArray) ++ decB ka) ++ (⟨#[32]⟩ : ByteArray)) ++ decB kb))).size ≤ 200 := by simp only [ba_size_append]; omega
          refine WC.enterP (noO_ok _ _) hG pl39 Tryd.func39 rfl (by decide +kernel) (Nat.le_of_ble_eq_true (by kernel_rfl)) ?_
          iterate 20 (all_goals try (first | with_reducible refine splitI (fun h => ?_) (fun h => ?_) | with_reducible refine splitBI (fun h => ?_) (fun h => ?_) | simp (config := { maxSteps := 1000000 }) (disch := first | assumption | omega | (simp; done) | fail) [Tryd.results39, *]))
          refine WC.mono (itoa_w ka (by omega) _ _ (by simp (disch := omega) only [gput_lt]; exact hgp) (by omega)) ?_
          rintro _ rfl
          generalize decB ka = dka at *
          iterate 20 (all_goals try (first | with_reducible refine splitI (fun h => ?_) (fun h => ?_) | with_reducible refine splitBI (fun h => ?_) (fun h => ?_) | simp (config := { maxSteps := 1000000 }) (disch := first | assumption | omega | (simp; done) | fail) [Tryd.results39, *]))
          refine WC.mono (itoa_w kb (by omega) _ _ (by simp (disch := omega) only [gput_lt]; exact hgp) (by omega)) ?_
          rintro _ rfl
          generalize decB kb = dkb at *
          iterate 20 (all_goals try (first | with_reducible refine splitI (fun h => ?_) (fun h => ?_) | with_reducible refine splitBI (fun h => ?_) (fun h => ?_) | simp (config := { maxSteps := 1000000 }) (disch := first | assumption | omega | (simp; done) | fail) [Tryd.results39, *]))
          all_goals
            have e := HRET.out
            refine ⟨_, ⟨?_, rfl⟩, ⟨by dsimp only; omega, fun b hb => ?_⟩⟩
            · rw [← e]; unfold parM
              first | (rw [if_pos (by assumption)]) | (rw [if_neg (by omega)])
              try simp only [ByteArray.append_assoc]
            · have hb' : b < n := hb
              show gput _ _ _ _ = _
              simp (disch := omega) only [gput_lt]
              try rfl
      | [y], hx, v2, v7, hsv1, hret =>
        have hs1 : subsM op = 1 := v2.symm
        have hrk3 : rankM op = 3 := by unfold rankM; rw [if_neg (by rintro rfl; revert hs1; decide), if_neg (by rintro rfl; revert hs1; decide), if_pos hs1]
        have n10 : ¬(op : Int) = 10 := by intro e; have e2 : op = 10 := by omega
                                          subst e2; revert hs1; decide
        have n14 : ¬(op : Int) = 14 := by intro e; have e2 : op = 14 := by omega
                                          subst e2; revert hs1; decide
        rw [hs1, hrk3] at hrow hallr
        rcases hsv1 with ⟨hsub, _⟩ | ⟨ad, off, r, han, hsl, hrow1, hrep⟩
        · cases hsub
        obtain ⟨c1, r1, rfl, hy1, hr1⟩ := hrep
        have hr1' : r1 = [] := hr1
        subst hr1'
        obtain ⟨k2, k3, sv2, hcy, h2c, hop2⟩ := repN_one hy1
        subst hcy
        have h2a : allOne [.lit (.int .u8 y.op), .lit (.int .i64 k2), .lit (.int .i64 k3), sv2] = true := by simp [h2c]
        have hrw := hrow1.agg (k := 0) (s := 4) (by simp)
        simp only [Nat.add_zero, List.append_nil, List.drop_zero, List.take] at hrw
        simp only [validL, Bool.and_eq_true] at v7
        have hvy := v7.1
        have hsy : sizeN y ≤ m := by unfold sizeN sizeL sizeL at hx; omega
        have hty := text_size y hvy
        have hps := par_size (textM y) (rankM y.op) 3
        have HY := Hide.mk hy1
        have IHY : Hide (∀ (g' : Nat → Option Blk) (n' : Nat), g' 0 = some opsB → g' 1 = some (.cells bP false 0) → 1 < n' → repN g' n' y [.lit (.int .u8 y.op), .lit (.int .i64 k2), .lit (.int .i64 k3), sv2] →
            WC 6 Tryd.prog 39 [.agg [.lit (.int .u8 y.op), .lit (.int .i64 k2), .lit (.int .i64 k3), sv2], .lit (.int .i64 3)] ⟨.fn g', n'⟩ fun r => r = .ret (.lit (.string (parM (textM y) (rankM y.op) 3))) ⟨.fn g', n'⟩) :=
          ⟨fun g' n' q1 q0 q2 q3 => IH.out (by omega) y hsy g' n' _ 3 q1 q0 q2 q3 hvy⟩
        have HRET : Hide (parM (signB op ++ ⟨#[32]⟩ ++ parM (textM y) (rankM y.op) 3) 3 least = ret) := ⟨by rw [← hret]; show _ = parM _ (rankM op) _; rw [hrk3]; rfl⟩
        have hwl : (parM (textM y) (rankM y.op) 3).size ≤ 100000000 := by omega
        generalize parM (textM y) (rankM y.op) 3 = wy at HRET IHY hwl
        generalize signB op = sg at *
        have s1 : ((⟨#[32]⟩ : ByteArray) ++ wy).size ≤ 100000001 := by simp only [ba_size_append]; omega
        have s2 : (sg ++ ((⟨#[32]⟩ : ByteArray) ++ wy)).size ≤ 200000000 := by simp only [ba_size_append]; omega
        have s3 : ((⟨#[40]⟩ : ByteArray) ++ (sg ++ ((⟨#[32]⟩ : ByteArray) ++ wy))).size ≤ 200000001 := by simp only [ba_size_append]; omega
        clear hret v2 v7 hrow1 hy1 hr1 hty hps hvy hsy hs1 hrk3 hrk1 hrk2 hop
        rcases hsl with ⟨c, rfl⟩ | ⟨c, rfl⟩
        all_goals
          refine WC.enterP (noO_ok _ _) hG pl39 Tryd.func39 rfl (by decide +kernel) (Nat.le_of_ble_eq_true (by kernel_rfl)) ?_
          iterate 20 (all_goals try (first | with_reducible refine splitI (fun h => ?_) (fun h => ?_) | with_reducible refine splitBI (fun h => ?_) (fun h => ?_) | simp (config := { maxSteps := 1000000 }) (disch := first | assumption | omega | (simp; done) | fail) [Tryd.results39, *]))
          refine WC.mono (IHY.out _ _ (by simp (disch := omega) only [gput_lt]; exact hg) (by simp (disch := omega) only [gput_lt]; exact hgp) (by omega) (repN_mono (by omega) (fun a ha => by simp (disch := omega) only [gput_lt]) HY.out)) ?_
          rintro _ rfl
          iterate 20 (all_goals try (first | with_reducible refine splitI (fun h => ?_) (fun h => ?_) | with_reducible refine splitBI (fun h => ?_) (fun h => ?_) | simp (config := { maxSteps := 1000000 }) (disch := first | assumption | omega | (simp; done) | fail) [Tryd.results39, *]))
          
        all_goals
          have e := HRET.out
          refine ⟨_, ⟨?_, rfl⟩, ⟨by dsimp only; omega, fun b hb => ?_⟩⟩
          · rw [← e]; unfold parM
            first | (rw [if_pos (by assumption)]) | (rw [if_neg (by omega)])
            try simp only [ByteArray.append_assoc]
          · have hb' : b < n := hb
            show gput _ _ _ _ = _
            simp (disch := omega) only [gput_lt]
            try rfl
      | [y, z], hx, v2, v7, hsv1, hret =>
        have ho : op = 5 ∨ op = 6 ∨ op = 10 ∨ op = 14 := by
          rcases op_cases v1 with rfl | rfl | rfl | rfl | rfl | rfl | rfl | rfl | rfl | rfl | rfl | rfl | rfl | rfl | rfl <;> simp [subsM] at v2 ⊢
        rcases hsv1 with ⟨hsub, _⟩ | ⟨ad, off, r, han, hsl, hrow1, hrep⟩
        · cases hsub
        obtain ⟨c1, r1, rfl, hy1, c2, r2, rfl, hz1, hr2⟩ := hrep
        have hr2' : r2 = [] := hr2
        subst hr2'
        obtain ⟨k2, k3, sv2, hcy, h2c, hop2⟩ := repN_one hy1
        subst hcy
        obtain ⟨j2, j3, sv3, hcz, h3c, hop3⟩ := repN_one hz1
        subst hcz
        have h2a : allOne [.lit (.int .u8 y.op), .lit (.int .i64 k2), .lit (.int .i64 k3), sv2] = true := by simp [h2c]
        have h3a : allOne [.lit (.int .u8 z.op), .lit (.int .i64 j2), .lit (.int .i64 j3), sv3] = true := by simp [h3c]
        have hrw1 := hrow1.agg (k := 0) (s := 4) (by simp)
        have hrw2 := hrow1.agg (k := 4) (s := 4) (by simp)
        simp only [Nat.add_zero, List.append_nil, List.drop_zero, List.take, List.cons_append, List.nil_append, List.drop_succ_cons] at hrw1 hrw2
        simp only [validL, Bool.and_eq_true] at v7
        have hvy := v7.1
        have hvz := v7.2.1
        have hsy : sizeN y ≤ m := by unfold sizeN sizeL sizeL sizeL at hx; omega
        have hsz : sizeN z ≤ m := by unfold sizeN sizeL sizeL sizeL at hx; omega
        have hty := text_size y hvy
        have htz := text_size z hvz
        have HY := Hide.mk hy1
        have HZ := Hide.mk hz1
        clear hrow1 hy1 hz1 hr2 v7
        rcases ho with rfl | rfl | rfl | rfl
        · rw [show subsM 5 = 2 from rfl, show rankM 5 = 2 from rfl] at hrow hallr
          have HRET : Hide (parM (parM (textM y) (rankM y.op) 2 ++ ⟨#[32]⟩ ++ signB 5 ++ ⟨#[32]⟩ ++ parM (textM z) (rankM z.op) 3) 2 least = ret) := ⟨by rw [← hret]; rfl⟩
          have IHY : Hide (∀ (g' : Nat → Option Blk) (n' : Nat), g' 0 = some opsB → g' 1 = some (.cells bP false 0) → 1 < n' → repN g' n' y [.lit (.int .u8 y.op), .lit (.int .i64 k2), .lit (.int .i64 k3), sv2] →
              WC 6 Tryd.prog 39 [.agg [.lit (.int .u8 y.op), .lit (.int .i64 k2), .lit (.int .i64 k3), sv2], .lit (.int .i64 2)] ⟨.fn g', n'⟩ fun r => r = .ret (.lit (.string (parM (textM y) (rankM y.op) 2))) ⟨.fn g', n'⟩) :=
            ⟨fun g' n' q1 q0 q2 q3 => IH.out (by omega) y hsy g' n' _ 2 q1 q0 q2 q3 hvy⟩
          have IHZ : Hide (∀ (g' : Nat → Option Blk) (n' : Nat), g' 0 = some opsB → g' 1 = some (.cells bP false 0) → 1 < n' → repN g' n' z [.lit (.int .u8 z.op), .lit (.int .i64 j2), .lit (.int .i64 j3), sv3] →
              WC 6 Tryd.prog 39 [.agg [.lit (.int .u8 z.op), .lit (.int .i64 j2), .lit (.int .i64 j3), sv3], .lit (.int .i64 3)] ⟨.fn g', n'⟩ fun r => r = .ret (.lit (.string (parM (textM z) (rankM z.op) 3))) ⟨.fn g', n'⟩) :=
            ⟨fun g' n' q1 q0 q2 q3 => IH.out (by omega) z hsz g' n' _ 3 q1 q0 q2 q3 hvz⟩
          have hps := par_size (textM y) (rankM y.op) 2
          have hpz := par_size (textM z) (rankM z.op) 3
          have hwl : (parM (textM y) (rankM y.op) 2).size ≤ 100000000 := by omega
          have hwz : (parM (textM z) (rankM z.op) 3).size ≤ 100000000 := by omega
          generalize parM (textM y) (rankM y.op) 2 = wy at HRET IHY hwl
          generalize parM (textM z) (rankM z.op) 3 = wz at HRET IHZ hwz
          generalize signB 5 = sg at *
          have s0 : (wy ++ (⟨#[32]⟩ : ByteArray)).size ≤ 400000000 := by simp only [ba_size_append]; omega
          have s1 : ((wy ++ (⟨#[32]⟩ : ByteArray)) ++ sg).size ≤ 400000000 := by simp only [ba_size_append]; omega
          have s2 : (((wy ++ (⟨#[32]⟩ : ByteArray)) ++ sg) ++ (⟨#[32]⟩ : ByteArray)).size ≤ 400000000 := by simp only [ba_size_append]; omega
          have s3 : ((((wy ++ (⟨#[32]⟩ : ByteArray)) ++ sg) ++ (⟨#[32]⟩ : ByteArray)) ++ wz).size ≤ 400000000 := by simp only [ba_size_append]; omega
          have s4 : ((⟨#[40]⟩ : ByteArray) ++ ((((wy ++ (⟨#[32]⟩ : ByteArray)) ++ sg) ++ (⟨#[32]⟩ : ByteArray)) ++ wz)).size ≤ 400000000 := by simp only [ba_size_append]; omega
          clear hret v2 hps hpz hty htz hvy hvz hsy hsz hrk1 hrk2 hop IH
          rcases hsl with ⟨c, rfl⟩ | ⟨c, rfl⟩
          all_goals
            refine WC.enterP (noO_ok _ _) hG pl39 Tryd.func39 rfl (by decide +kernel) (Nat.le_of_ble_eq_true (by kernel_rfl)) ?_
            iterate 20 (all_goals try (first | with_reducible refine splitI (fun h => ?_) (fun h => ?_) | with_reducible refine splitBI (fun h => ?_) (fun h => ?_) | simp (config := { maxSteps := 1000000 }) (disch := first | assumption | omega | (simp; done) | fail) [Tryd.results39, *]))
            refine WC.mono (IHY.out _ _ (by simp (disch := omega) only [gput_lt]; exact hg) (by simp (disch := omega) only [gput_lt]; exact hgp) (by omega) (repN_mono (by omega) (fun a ha => by simp (disch := omega) only [gput_lt]) HY.out)) ?_
            rintro _ rfl
            iterate 20 (all_goals try (first | with_reducible refine splitI (fun h => ?_) (fun h => ?_) | with_reducible refine splitBI (fun h => ?_) (fun h => ?_) | simp (config := { maxSteps := 1000000 }) (disch := first | assumption | omega | (simp; done) | fail) [Tryd.results39, *]))
            refine WC.mono (IHZ.out _ _ (by simp (disch := omega) only [gput_lt]; exact hg) (by simp (disch := omega) only [gput_lt]; exact hgp) (by omega) (repN_mono (by omega) (fun a ha => by simp (disch := omega) only [gput_lt]) HZ.out)) ?_
            rintro _ rfl
            iterate 20 (all_goals try (first | with_reducible refine splitI (fun h => ?_) (fun h => ?_) | with_reducible refine splitBI (fun h => ?_) (fun h => ?_) | simp (config := { maxSteps := 1000000 }) (disch := first | assumption | omega | (simp; done) | fail) [Tryd.results39, *]))
            
          all_goals
            have e := HRET.out
            refine ⟨_, ⟨?_, rfl⟩, ⟨by dsimp only; omega, fun b hb => ?_⟩⟩
            · rw [← e]; unfold parM
              first | (rw [if_pos (by assumption)]) | (rw [if_neg (by omega)])
              try simp only [ByteArray.append_assoc]
            · have hb' : b < n := hb
              show gput _ _ _ _ = _
              simp (disch := omega) only [gput_lt]
              try rfl
        · rw [show subsM 6 = 2 from rfl, show rankM 6 = 1 from rfl] at hrow hallr
          have HRET : Hide (parM (parM (textM y) (rankM y.op) 1 ++ ⟨#[32]⟩ ++ signB 6 ++ ⟨#[32]⟩ ++ parM (textM z) (rankM z.op) 2) 1 least = ret) := ⟨by rw [← hret]; rfl⟩
          have IHY : Hide (∀ (g' : Nat → Option Blk) (n' : Nat), g' 0 = some opsB → g' 1 = some (.cells bP false 0) → 1 < n' → repN g' n' y [.lit (.int .u8 y.op), .lit (.int .i64 k2), .lit (.int .i64 k3), sv2] →
              WC 6 Tryd.prog 39 [.agg [.lit (.int .u8 y.op), .lit (.int .i64 k2), .lit (.int .i64 k3), sv2], .lit (.int .i64 1)] ⟨.fn g', n'⟩ fun r => r = .ret (.lit (.string (parM (textM y) (rankM y.op) 1))) ⟨.fn g', n'⟩) :=
            ⟨fun g' n' q1 q0 q2 q3 => IH.out (by omega) y hsy g' n' _ 1 q1 q0 q2 q3 hvy⟩
          have IHZ : Hide (∀ (g' : Nat → Option Blk) (n' : Nat), g' 0 = some opsB → g' 1 = some (.cells bP false 0) → 1 < n' → repN g' n' z [.lit (.int .u8 z.op), .lit (.int .i64 j2), .lit (.int .i64 j3), sv3] →
              WC 6 Tryd.prog 39 [.agg [.lit (.int .u8 z.op), .lit (.int .i64 j2), .lit (.int .i64 j3), sv3], .lit (.int .i64 2)] ⟨.fn g', n'⟩ fun r => r = .ret (.lit (.string (parM (textM z) (rankM z.op) 2))) ⟨.fn g', n'⟩) :=
            ⟨fun g' n' q1 q0 q2 q3 => IH.out (by omega) z hsz g' n' _ 2 q1 q0 q2 q3 hvz⟩
          have hps := par_size (textM y) (rankM y.op) 1
          have hpz := par_size (textM z) (rankM z.op) 2
          have hwl : (parM (textM y) (rankM y.op) 1).size ≤ 100000000 := by omega
          have hwz : (parM (textM z) (rankM z.op) 2).size ≤ 100000000 := by omega
          generalize parM (textM y) (rankM y.op) 1 = wy at HRET IHY hwl
          generalize parM (textM z) (rankM z.op) 2 = wz at HRET IHZ hwz
          generalize signB 6 = sg at *
          have s0 : (wy ++ (⟨#[32]⟩ : ByteArray)).size ≤ 400000000 := by simp only [ba_size_append]; omega
          have s1 : ((wy ++ (⟨#[32]⟩ : ByteArray)) ++ sg).size ≤ 400000000 := by simp only [ba_size_append]; omega
          have s2 : (((wy ++ (⟨#[32]⟩ : ByteArray)) ++ sg) ++ (⟨#[32]⟩ : ByteArray)).size ≤ 400000000 := by simp only [ba_size_append]; omega
          have s3 : ((((wy ++ (⟨#[32]⟩ : ByteArray)) ++ sg) ++ (⟨#[32]⟩ : ByteArray)) ++ wz).size ≤ 400000000 := by simp only [ba_size_append]; omega
          have s4 : ((⟨#[40]⟩ : ByteArray) ++ ((((wy ++ (⟨#[32]⟩ : ByteArray)) ++ sg) ++ (⟨#[32]⟩ : ByteArray)) ++ wz)).size ≤ 400000000 := by simp only [ba_size_append]; omega
          clear hret v2 hps hpz hty htz hvy hvz hsy hsz hrk1 hrk2 hop IH
          rcases hsl with ⟨c, rfl⟩ | ⟨c, rfl⟩
          all_goals
            refine WC.enterP (noO_ok _ _) hG pl39 Tryd.func39 rfl (by decide +kernel) (Nat.le_of_ble_eq_true (by kernel_rfl)) ?_
            iterate 20 (all_goals try (first | with_reducible refine splitI (fun h => ?_) (fun h => ?_) | with_reducible refine splitBI (fun h => ?_) (fun h => ?_) | simp (config := { maxSteps := 1000000 }) (disch := first | assumption | omega | (simp; done) | fail) [Tryd.results39, *]))
            refine WC.mono (IHY.out _ _ (by simp (disch := omega) only [gput_lt]; exact hg) (by simp (disch := omega) only [gput_lt]; exact hgp) (by omega) (repN_mono (by omega) (fun a ha => by simp (disch := omega) only [gput_lt]) HY.out)) ?_
            rintro _ rfl
            iterate 20 (all_goals try (first | with_reducible refine splitI (fun h => ?_) (fun h => ?_) | with_reducible refine splitBI (fun h => ?_) (fun h => ?_) | simp (config := { maxSteps := 1000000 }) (disch := first | assumption | omega | (simp; done) | fail) [Tryd.results39, *]))
            refine WC.mono (IHZ.out _ _ (by simp (disch := omega) only [gput_lt]; exact hg) (by simp (disch := omega) only [gput_lt]; exact hgp) (by omega) (repN_mono (by omega) (fun a ha => by simp (disch := omega) only [gput_lt]) HZ.out)) ?_
            rintro _ rfl
            iterate 20 (all_goals try (first | with_reducible refine splitI (fun h => ?_) (fun h => ?_) | with_reducible refine splitBI (fun h => ?_) (fun h => ?_) | simp (config := { maxSteps := 1000000 }) (disch := first | assumption | omega | (simp; done) | fail) [Tryd.results39, *]))
            
          all_goals
            have e := HRET.out
            refine ⟨_, ⟨?_, rfl⟩, ⟨by dsimp only; omega, fun b hb => ?_⟩⟩
            · rw [← e]; unfold parM
              first | (rw [if_pos (by assumption)]) | (rw [if_neg (by omega)])
              try simp only [ByteArray.append_assoc]
            · have hb' : b < n := hb
              show gput _ _ _ _ = _
              simp (disch := omega) only [gput_lt]
              try rfl
        · rw [show subsM 10 = 2 from rfl, show rankM 10 = 4 from rfl] at hrow hallr
          have HRET : Hide (parM (signB 10 ++ ⟨#[91]⟩ ++ parM (textM y) (rankM y.op) 0 ++ ⟨#[32, 85, 32]⟩ ++ parM (textM z) (rankM z.op) 0 ++ ⟨#[93]⟩) 4 least = ret) := ⟨by rw [← hret, par_zero, par_zero]; rfl⟩
          have IHY : Hide (∀ (g' : Nat → Option Blk) (n' : Nat), g' 0 = some opsB → g' 1 = some (.cells bP false 0) → 1 < n' → repN g' n' y [.lit (.int .u8 y.op), .lit (.int .i64 k2), .lit (.int .i64 k3), sv2] →
              WC 6 Tryd.prog 39 [.agg [.lit (.int .u8 y.op), .lit (.int .i64 k2), .lit (.int .i64 k3), sv2], .lit (.int .i64 0)] ⟨.fn g', n'⟩ fun r => r = .ret (.lit (.string (parM (textM y) (rankM y.op) 0))) ⟨.fn g', n'⟩) :=
            ⟨fun g' n' q1 q0 q2 q3 => IH.out (by omega) y hsy g' n' _ 0 q1 q0 q2 q3 hvy⟩
          have IHZ : Hide (∀ (g' : Nat → Option Blk) (n' : Nat), g' 0 = some opsB → g' 1 = some (.cells bP false 0) → 1 < n' → repN g' n' z [.lit (.int .u8 z.op), .lit (.int .i64 j2), .lit (.int .i64 j3), sv3] →
              WC 6 Tryd.prog 39 [.agg [.lit (.int .u8 z.op), .lit (.int .i64 j2), .lit (.int .i64 j3), sv3], .lit (.int .i64 0)] ⟨.fn g', n'⟩ fun r => r = .ret (.lit (.string (parM (textM z) (rankM z.op) 0))) ⟨.fn g', n'⟩) :=
            ⟨fun g' n' q1 q0 q2 q3 => IH.out (by omega) z hsz g' n' _ 0 q1 q0 q2 q3 hvz⟩
          have hps := par_size (textM y) (rankM y.op) 0
          have hpz := par_size (textM z) (rankM z.op) 0
          have hwl : (parM (textM y) (rankM y.op) 0).size ≤ 100000000 := by omega
          have hwz : (parM (textM z) (rankM z.op) 0).size ≤ 100000000 := by omega
          generalize parM (textM y) (rankM y.op) 0 = wy at HRET IHY hwl
          generalize parM (textM z) (rankM z.op) 0 = wz at HRET IHZ hwz
          generalize signB 10 = sg at *
          have s0 : ((⟨#[91]⟩ : ByteArray) ++ wy).size ≤ 400000000 := by simp only [ba_size_append]; omega
          have s1 : (((⟨#[91]⟩ : ByteArray) ++ wy) ++ (⟨#[32, 85, 32]⟩ : ByteArray)).size ≤ 400000000 := by simp only [ba_size_append]; omega
          have s2 : ((((⟨#[91]⟩ : ByteArray) ++ wy) ++ (⟨#[32, 85, 32]⟩ : ByteArray)) ++ wz).size ≤ 400000000 := by simp only [ba_size_append]; omega
          have s3 : (((((⟨#[91]⟩ : ByteArray) ++ wy) ++ (⟨#[32, 85, 32]⟩ : ByteArray)) ++ wz) ++ (⟨#[93]⟩ : ByteArray)).size ≤ 400000000 := by simp only [ba_size_append]; omega
          have s4 : (sg ++ (((((⟨#[91]⟩ : ByteArray) ++ wy) ++ (⟨#[32, 85, 32]⟩ : ByteArray)) ++ wz) ++ (⟨#[93]⟩ : ByteArray))).size ≤ 400000000 := by simp only [ba_size_append]; omega
          have s5 : ((⟨#[40]⟩ : ByteArray) ++ (sg ++ (((((⟨#[91]⟩ : ByteArray) ++ wy) ++ (⟨#[32, 85, 32]⟩ : ByteArray)) ++ wz) ++ (⟨#[93]⟩ : ByteArray)))).size ≤ 400000000 := by simp only [ba_size_append]; omega
          clear hret v2 hps hpz hty htz hvy hvz hsy hsz hrk1 hrk2 hop IH
          rcases hsl with ⟨c, rfl⟩ | ⟨c, rfl⟩
          all_goals
            refine WC.enterP (noO_ok _ _) hG pl39 Tryd.func39 rfl (by decide +kernel) (Nat.le_of_ble_eq_true (by kernel_rfl)) ?_
            iterate 20 (all_goals try (first | with_reducible refine splitI (fun h => ?_) (fun h => ?_) | with_reducible refine splitBI (fun h => ?_) (fun h => ?_) | simp (config := { maxSteps := 1000000 }) (disch := first | assumption | omega | (simp; done) | fail) [Tryd.results39, *]))
            refine WC.mono (IHY.out _ _ (by simp (disch := omega) only [gput_lt]; exact hg) (by simp (disch := omega) only [gput_lt]; exact hgp) (by omega) (repN_mono (by omega) (fun a ha => by simp (disch := omega) only [gput_lt]) HY.out)) ?_
            rintro _ rfl
            iterate 20 (all_goals try (first | with_reducible refine splitI (fun h => ?_) (fun h => ?_) | with_reducible refine splitBI (fun h => ?_) (fun h => ?_) | simp (config := { maxSteps := 1000000 }) (disch := first | assumption | omega | (simp; done) | fail) [Tryd.results39, *]))
            refine WC.mono (IHZ.out _ _ (by simp (disch := omega) only [gput_lt]; exact hg) (by simp (disch := omega) only [gput_lt]; exact hgp) (by omega) (repN_mono (by omega) (fun a ha => by simp (disch := omega) only [gput_lt]) HZ.out)) ?_
            rintro _ rfl
            iterate 20 (all_goals try (first | with_reducible refine splitI (fun h => ?_) (fun h => ?_) | with_reducible refine splitBI (fun h => ?_) (fun h => ?_) | simp (config := { maxSteps := 1000000 }) (disch := first | assumption | omega | (simp; done) | fail) [Tryd.results39, *]))
            
          all_goals
            have e := HRET.out
            refine ⟨_, ⟨?_, rfl⟩, ⟨by dsimp only; omega, fun b hb => ?_⟩⟩
            · rw [← e]; unfold parM
              first | (rw [if_pos (by assumption)]) | (rw [if_neg (by omega)])
              try simp only [ByteArray.append_assoc]
            · have hb' : b < n := hb
              show gput _ _ _ _ = _
              simp (disch := omega) only [gput_lt]
              try rfl
        · rw [show subsM 14 = 2 from rfl, show rankM 14 = 4 from rfl] at hrow hallr
          have HRET : Hide (parM (signB 14 ++ ⟨#[91]⟩ ++ parM (textM y) (rankM y.op) 0 ++ ⟨#[32, 85, 32]⟩ ++ parM (textM z) (rankM z.op) 0 ++ ⟨#[93]⟩) 4 least = ret) := ⟨by rw [← hret, par_zero, par_zero]; rfl⟩
          have IHY : Hide (∀ (g' : Nat → Option Blk) (n' : Nat), g' 0 = some opsB → g' 1 = some (.cells bP false 0) → 1 < n' → repN g' n' y [.lit (.int .u8 y.op), .lit (.int .i64 k2), .lit (.int .i64 k3), sv2] →
              WC 6 Tryd.prog 39 [.agg [.lit (.int .u8 y.op), .lit (.int .i64 k2), .lit (.int .i64 k3), sv2], .lit (.int .i64 0)] ⟨.fn g', n'⟩ fun r => r = .ret (.lit (.string (parM (textM y) (rankM y.op) 0))) ⟨.fn g', n'⟩) :=
            ⟨fun g' n' q1 q0 q2 q3 => IH.out (by omega) y hsy g' n' _ 0 q1 q0 q2 q3 hvy⟩
          have IHZ : Hide (∀ (g' : Nat → Option Blk) (n' : Nat), g' 0 = some opsB → g' 1 = some (.cells bP false 0) → 1 < n' → repN g' n' z [.lit (.int .u8 z.op), .lit (.int .i64 j2), .lit (.int .i64 j3), sv3] →
              WC 6 Tryd.prog 39 [.agg [.lit (.int .u8 z.op), .lit (.int .i64 j2), .lit (.int .i64 j3), sv3], .lit (.int .i64 0)] ⟨.fn g', n'⟩ fun r => r = .ret (.lit (.string (parM (textM z) (rankM z.op) 0))) ⟨.fn g', n'⟩) :=
            ⟨fun g' n' q1 q0 q2 q3 => IH.out (by omega) z hsz g' n' _ 0 q1 q0 q2 q3 hvz⟩
          have hps := par_size (textM y) (rankM y.op) 0
          have hpz := par_size (textM z) (rankM z.op) 0
          have hwl : (parM (textM y) (rankM y.op) 0).size ≤ 100000000 := by omega
          have hwz : (parM (textM z) (rankM z.op) 0).size ≤ 100000000 := by omega
          generalize parM (textM y) (rankM y.op) 0 = wy at HRET IHY hwl
          generalize parM (textM z) (rankM z.op) 0 = wz at HRET IHZ hwz
          generalize signB 14 = sg at *
          have s0 : ((⟨#[91]⟩ : ByteArray) ++ wy).size ≤ 400000000 := by simp only [ba_size_append]; omega
          have s1 : (((⟨#[91]⟩ : ByteArray) ++ wy) ++ (⟨#[32, 85, 32]⟩ : ByteArray)).size ≤ 400000000 := by simp only [ba_size_append]; omega
          have s2 : ((((⟨#[91]⟩ : ByteArray) ++ wy) ++ (⟨#[32, 85, 32]⟩ : ByteArray)) ++ wz).size ≤ 400000000 := by simp only [ba_size_append]; omega
          have s3 : (((((⟨#[91]⟩ : ByteArray) ++ wy) ++ (⟨#[32, 85, 32]⟩ : ByteArray)) ++ wz) ++ (⟨#[93]⟩ : ByteArray)).size ≤ 400000000 := by simp only [ba_size_append]; omega
          have s4 : (sg ++ (((((⟨#[91]⟩ : ByteArray) ++ wy) ++ (⟨#[32, 85, 32]⟩ : ByteArray)) ++ wz) ++ (⟨#[93]⟩ : ByteArray))).size ≤ 400000000 := by simp only [ba_size_append]; omega
          have s5 : ((⟨#[40]⟩ : ByteArray) ++ (sg ++ (((((⟨#[91]⟩ : ByteArray) ++ wy) ++ (⟨#[32, 85, 32]⟩ : ByteArray)) ++ wz) ++ (⟨#[93]⟩ : ByteArray)))).size ≤ 400000000 := by simp only [ba_size_append]; omega
          clear hret v2 hps hpz hty htz hvy hvz hsy hsz hrk1 hrk2 hop IH
          rcases hsl with ⟨c, rfl⟩ | ⟨c, rfl⟩
          all_goals
            refine WC.enterP (noO_ok _ _) hG pl39 Tryd.func39 rfl (by decide +kernel) (Nat.le_of_ble_eq_true (by kernel_rfl)) ?_
            iterate 20 (all_goals try (first | with_reducible refine splitI (fun h => ?_) (fun h => ?_) | with_reducible refine splitBI (fun h => ?_) (fun h => ?_) | simp (config := { maxSteps := 1000000 }) (disch := first | assumption | omega | (simp; done) | fail) [Tryd.results39, *]))
            refine WC.mono (IHY.out _ _ (by simp (disch := omega) only [gput_lt]; exact hg) (by simp (disch := omega) only [gput_lt]; exact hgp) (by omega) (repN_mono (by omega) (fun a ha => by simp (disch := omega) only [gput_lt]) HY.out)) ?_
            rintro _ rfl
            iterate 20 (all_goals try (first | with_reducible refine splitI (fun h => ?_) (fun h => ?_) | with_reducible refine splitBI (fun h => ?_) (fun h => ?_) | simp (config := { maxSteps := 1000000 }) (disch := first | assumption | omega | (simp; done) | fail) [Tryd.results39, *]))
            refine WC.mono (IHZ.out _ _ (by simp (disch := omega) only [gput_lt]; exact hg) (by simp (disch := omega) only [gput_lt]; exact hgp) (by omega) (repN_mono (by omega) (fun a ha => by simp (disch := omega) only [gput_lt]) HZ.out)) ?_
            rintro _ rfl
            iterate 20 (all_goals try (first | with_reducible refine splitI (fun h => ?_) (fun h => ?_) | with_reducible refine splitBI (fun h => ?_) (fun h => ?_) | simp (config := { maxSteps := 1000000 }) (disch := first | assumption | omega | (simp; done) | fail) [Tryd.results39, *]))
            
          all_goals
            have e := HRET.out
            refine ⟨_, ⟨?_, rfl⟩, ⟨by dsimp only; omega, fun b hb => ?_⟩⟩
            · rw [← e]; unfold parM
              first | (rw [if_pos (by assumption)]) | (rw [if_neg (by omega)])
              try simp only [ByteArray.append_assoc]
            · have hb' : b < n := hb
              show gput _ _ _ _ = _
              simp (disch := omega) only [gput_lt]
              try rfl
      | x1 :: x2 :: x3 :: l, hx, v2, v7, hsv1, hret =>
        exfalso
        have : subsM op ≤ 2 := by rcases op_cases v1 with rfl | rfl | rfl | rfl | rfl | rfl | rfl | rfl | rfl | rfl | rfl | rfl | rfl | rfl | rfl <;> decide
        simp only [List.length_cons] at v2
        omega
end Go.Ai
end

section
namespace Go.Ai
open Go.Proofs
set_option maxRecDepth 10000
set_option maxHeartbeats 40000000
theorem Text_yes (x : NodeM) (hx : sizeN x ≤ 1000000) (hv : validM 10000 10000 10000 x = true) (hsm : (smallM x 64).1 = true) (g : Nat → Option Blk) (n : Nat) (cs : List AV) (hops : g 0 = some opsB) (hgp : g 1 = some (.cells bP false 0)) (hn : 1 < n) (hr : repN g n x cs) :
    WC 6 Tryd.prog 15 [.agg cs] ⟨.fn g, n⟩ fun r => ∃ g' n', r = .ret (.tup [.lit (.string (textM x)), .lit (.int .i64 0)]) ⟨.fn g', n'⟩ ∧ n ≤ n' ∧ ∀ b, b < n → g' b = g b := by
  obtain ⟨k2, k3, sv2, hcy, h1c, hop2⟩ := repN_one hr
  subst hcy
  have h1a : allOne [.lit (.int .u8 x.op), .lit (.int .i64 k2), .lit (.int .i64 k3), sv2] = true := by simp [h1c]
  have HR := Hide.mk hr
  clear hr
  refine WC.enterP (noO_ok _ _) hG [] Tryd.func15 rfl (by decide +kernel) (Nat.le_of_ble_eq_true (by kernel_rfl)) ?_
  iterate 12 (all_goals try (first | with_reducible refine splitI (fun h => ?_) (fun h => ?_) | with_reducible refine splitBI (fun h => ?_) (fun h => ?_) | simp (config := { maxSteps := 1000000 }) (disch := first | assumption | omega | (simp; done) | fail) [Tryd.results15, *]))
  refine WC.mono (checked_yes 10000 10000 10000 x hx hv hsm _ _ _ (by simp (disch := omega) only [gput_lt]; exact hops) (by omega) (repN_mono (by omega) (fun a ha => (by simp (disch := omega) only [gput_lt])) HR.out)) ?_
  rintro _ ⟨g1, n1, rfl, hn1, hg1⟩
  have e1 : g1 n = some (.cells [.lit (.int .u8 x.op), .lit (.int .i64 k2), .lit (.int .i64 k3), sv2] true 0) := by rw [hg1 n (by omega)]; simp
  have HO : Hide (∀ b, b < n → g1 b = g b) := ⟨fun b hb => by rw [hg1 b (by omega)]; simp (disch := omega) only [gput_lt]⟩
  clear hg1
  iterate 12 (all_goals try (first | with_reducible refine splitI (fun h => ?_) (fun h => ?_) | with_reducible refine splitBI (fun h => ?_) (fun h => ?_) | simp (config := { maxSteps := 1000000 }) (disch := first | assumption | omega | (simp; done) | fail) [Tryd.results15, *]))
  refine WC.mono (write_w 1000000 (Nat.le_refl _) x hx _ _ _ 0 ((HO.out 0 (by omega)).trans hops) ((HO.out 1 (by omega)).trans hgp) (by omega) (repN_mono (by omega) (fun a ha => HO.out a ha) HR.out) hv) ?_
  rintro _ rfl
  rw [par_zero]
  iterate 12 (all_goals try (first | with_reducible refine splitI (fun h => ?_) (fun h => ?_) | with_reducible refine splitBI (fun h => ?_) (fun h => ?_) | simp (config := { maxSteps := 1000000 }) (disch := first | assumption | omega | (simp; done) | fail) [Tryd.results15, *]))
  refine ⟨_, _, ⟨rfl, rfl⟩, by omega, fun b hb => HO.out b hb⟩
end Go.Ai
end

section
namespace Go.Ai
open Go.Proofs
set_option maxRecDepth 10000
set_option maxHeartbeats 40000000
theorem Rank_w (o : Nat) (ho : o < 15) (H : Mem) : WC 6 Tryd.prog 62 [.lit (.int .u8 o)] H fun r => r = .ret (.lit (.int .i64 (rankM o))) H := by
  have HS := Hide.mk (subs_w o ho)
  by_cases h6 : o = 6
  · subst h6
    refine WC.enterP (noO_ok _ _) hG [] Tryd.func62 rfl (by decide +kernel) (Nat.le_of_ble_eq_true (by kernel_rfl)) ?_
    iterate 12 (all_goals try (first | with_reducible refine splitI (fun h => ?_) (fun h => ?_) | with_reducible refine splitBI (fun h => ?_) (fun h => ?_) | simp (config := { maxSteps := 1000000 }) (disch := first | assumption | omega | (simp; done) | fail) [Tryd.results62, *]))
    all_goals rfl
  by_cases h5 : o = 5
  · subst h5
    refine WC.enterP (noO_ok _ _) hG [] Tryd.func62 rfl (by decide +kernel) (Nat.le_of_ble_eq_true (by kernel_rfl)) ?_
    iterate 12 (all_goals try (first | with_reducible refine splitI (fun h => ?_) (fun h => ?_) | with_reducible refine splitBI (fun h => ?_) (fun h => ?_) | simp (config := { maxSteps := 1000000 }) (disch := first | assumption | omega | (simp; done) | fail) [Tryd.results62, *]))
    all_goals rfl
  have h6I : ¬(o : Int) = 6 := by omega
  have h5I : ¬(o : Int) = 5 := by omega
  by_cases h1 : subsM o = 1
  · have hr : rankM o = 3 := by unfold rankM; rw [if_neg h6, if_neg h5, if_pos h1]
    have HR := Hide.mk hr
    clear hr
    refine WC.enterP (noO_ok _ _) hG [] Tryd.func62 rfl (by decide +kernel) (Nat.le_of_ble_eq_true (by kernel_rfl)) ?_
    iterate 12 (all_goals try (first | with_reducible refine splitI (fun h => ?_) (fun h => ?_) | with_reducible refine splitBI (fun h => ?_) (fun h => ?_) | simp (config := { maxSteps := 1000000 }) (disch := first | assumption | omega | (simp; done) | fail) [Tryd.results62, *]))
    refine WC.mono (HS.out _) ?_
    rintro _ rfl
    rw [h1]
    iterate 12 (all_goals try (first | with_reducible refine splitI (fun h => ?_) (fun h => ?_) | with_reducible refine splitBI (fun h => ?_) (fun h => ?_) | simp (config := { maxSteps := 1000000 }) (disch := first | assumption | omega | (simp; done) | fail) [Tryd.results62, *]))
    all_goals first | exact HR.out.symm | (rw [HR.out]) | simp [HR.out]
  · have hr : rankM o = 4 := by unfold rankM; rw [if_neg h6, if_neg h5, if_neg h1]
    have HR := Hide.mk hr
    have h1I : ¬((subsM o : Nat) : Int) = 1 := by omega
    clear hr
    refine WC.enterP (noO_ok _ _) hG [] Tryd.func62 rfl (by decide +kernel) (Nat.le_of_ble_eq_true (by kernel_rfl)) ?_
    iterate 12 (all_goals try (first | with_reducible refine splitI (fun h => ?_) (fun h => ?_) | with_reducible refine splitBI (fun h => ?_) (fun h => ?_) | simp (config := { maxSteps := 1000000 }) (disch := first | assumption | omega | (simp; done) | fail) [Tryd.results62, *]))
    refine WC.mono (HS.out _) ?_
    rintro _ rfl
    generalize subsM o = q at *
    iterate 12 (all_goals try (first | with_reducible refine splitI (fun h => ?_) (fun h => ?_) | with_reducible refine splitBI (fun h => ?_) (fun h => ?_) | simp (config := { maxSteps := 1000000 }) (disch := first | assumption | omega | (simp; done) | fail) [Tryd.results62, *]))
    all_goals first | exact HR.out.symm | (rw [HR.out]) | simp [HR.out]
end Go.Ai
end

section
namespace Go.Ai
open Go.Proofs
set_option maxRecDepth 10000
set_option maxHeartbeats 40000000
def tenB : ByteArray := ⟨#[48, 49, 50, 51, 52, 53, 54, 55, 56, 57]⟩
theorem ten_dig {n : Nat} (h : n ≤ 9) : tenB.extract n (n + 1) = digB n := by
  have hn : n = 0 ∨ n = 1 ∨ n = 2 ∨ n = 3 ∨ n = 4 ∨ n = 5 ∨ n = 6 ∨ n = 7 ∨ n = 8 ∨ n = 9 := by omega
  rcases hn with rfl | rfl | rfl | rfl | rfl | rfl | rfl | rfl | rfl | rfl <;> decide +kernel
theorem Number_w (n : Nat) (hn : n ≤ 2147483648) (H : Mem) : WC 6 Tryd.prog 45 [.lit (.int .i64 n)] H fun r => r = .ret (.lit (.string (decB n))) H := by
  generalize hret : decB n = ret
  have HRET := Hide.mk hret
  clear hret
  refine WC.enterP (noO_ok _ _) hG [] Tryd.func45 rfl (by decide +kernel) (Nat.le_of_ble_eq_true (by kernel_rfl)) ?_
  iterate 12 (all_goals try (first | with_reducible refine splitI (fun h => ?_) (fun h => ?_) | with_reducible refine splitBI (fun h => ?_) (fun h => ?_) | simp (disch := first | assumption | omega | (simp; done) | fail) [Tryd.results45, *]))
  refine LX.ind (fun m gf H' => ∃ (k : Nat) (out : ByteArray), m = k ∧ H' = H ∧ gf 0 = some (.lit (.int .i64 k)) ∧ gf 3 = some (.lit (.string out)) ∧ k ≤ 2147483648 ∧ out.size + k ≤ 4294967296 ∧ ret = decB k ++ out) (m0 := n) ?_ ?_
  · exact ⟨n, ⟨#[]⟩, rfl, rfl, by simp, by simp, hn, by show 0 + n ≤ _; omega, by rw [← HRET.out]; exact (ByteArray.append_empty).symm⟩
  · rintro m gf H' ⟨k, out, rfl, rfl, g0, g3, hk, ho, hr⟩ ih
    have HR := Hide.mk hr
    clear hr
    refine LX.roundP (noO_ok _ _) hG [] (by decide +kernel) ?_
    by_cases h9 : 9 < m
    · have h9i : (9 : Int) < (m : Int) := by omega
      have hlt : m % 10 < 10 := Nat.mod_lt _ (by omega)
      have hlt2 : m / 10 < m := by omega
      have hmod : ((m : Int).tmod 10) = (m : Int) % 10 := rfl
      have hdiv : ((m : Int).tdiv 10) = (m : Int) / 10 := rfl
      have hts : (⟨#[48, 49, 50, 51, 52, 53, 54, 55, 56, 57]⟩ : ByteArray).size = 10 := rfl
      have hex : (⟨#[48, 49, 50, 51, 52, 53, 54, 55, 56, 57]⟩ : ByteArray).extract ((m : Int) % 10).toNat ((m : Int) % 10 + 1).toNat = digB (m % 10) := by
        rw [show ((m : Int) % 10).toNat = m % 10 by omega, show ((m : Int) % 10 + 1).toNat = m % 10 + 1 by omega]
        exact ten_dig (by omega)
      have hds : (digB (m % 10)).size = 1 := rfl
      iterate 14 (all_goals try (first | with_reducible refine splitI (fun h => ?_) (fun h => ?_) | with_reducible refine splitBI (fun h => ?_) (fun h => ?_) | simp (disch := first | assumption | omega | (simp; done) | fail) [Tryd.results45, *]))
      refine ih.out (m / 10) _ _ hlt2 ⟨m / 10, digB (m % 10) ++ out, rfl, rfl, by simp, by simp, by omega, ?_, ?_⟩
      · rw [ba_size_append, hds]; omega
      · rw [HR.out, dec_hi h9, ByteArray.append_assoc]
    · have h9i : ¬(9 : Int) < (m : Int) := by omega
      have hts : (⟨#[48, 49, 50, 51, 52, 53, 54, 55, 56, 57]⟩ : ByteArray).size = 10 := rfl
      have hex : (⟨#[48, 49, 50, 51, 52, 53, 54, 55, 56, 57]⟩ : ByteArray).extract m (m + 1) = digB m := ten_dig (by omega)
      have hex2 : (⟨#[48, 49, 50, 51, 52, 53, 54, 55, 56, 57]⟩ : ByteArray).extract m ((m : Int) + 1).toNat = digB m := by
        rw [show ((m : Int) + 1).toNat = m + 1 by omega]; exact hex
      have hds : (digB m).size = 1 := rfl
      have hr : digB m ++ out = ret := by rw [HR.out, dec_lo (by omega)]
      iterate 14 (all_goals try (first | with_reducible refine splitI (fun h => ?_) (fun h => ?_) | with_reducible refine splitBI (fun h => ?_) (fun h => ?_) | simp (disch := first | assumption | omega | (simp; done) | fail) [Tryd.results45, *]))
end Go.Ai
end

section
namespace Go.Ai
open Go.Proofs
set_option maxRecDepth 10000
set_option maxHeartbeats 40000000
def RTxt (m : Nat) : Prop := ∀ (x : NodeM), sizeN x ≤ m → validM 10000 10000 10000 x = true → ∀ (g : Nat → Option Blk) (n : Nat) (cs : List AV), 0 < n → repN g n x cs → WC 6 Tryd.prog 17 [.agg cs] ⟨.fn g, n⟩ fun r => r = .ret (.lit (.string (textM x))) ⟨.fn g, n⟩
theorem within_w {m : Nat} (IH : RTxt m) (hm : m ≤ 1000000) (x : NodeM) (hx : sizeN x ≤ m) (hv : validM 10000 10000 10000 x = true) (g : Nat → Option Blk) (n : Nat) (cs : List AV) (least : Int) (hn : 0 < n) (hr : repN g n x cs) :
    WC 6 Tryd.prog 46 [.agg cs, .lit (.int .i64 least)] ⟨.fn g, n⟩ fun r => r = .ret (.lit (.string (parM (textM x) (rankM x.op) least))) ⟨.fn g, n⟩ := by
  refine WC.drop1 rfl ?_
  obtain ⟨k2, k3, sv2, hcy, h1c, hop2⟩ := repN_one hr
  subst hcy
  have h1a : allOne [.lit (.int .u8 x.op), .lit (.int .i64 k2), .lit (.int .i64 k3), sv2] = true := by simp [h1c]
  have ho : x.op < 15 := by
    cases x with
    | mk op a b subs => simp only [validM, Bool.and_eq_true, decide_eq_true_eq] at hv; exact hv.1
  have hts := text_size x hv
  have HT : Hide (∀ (g' : Nat → Option Blk) (n' : Nat), 0 < n' → repN g' n' x [.lit (.int .u8 x.op), .lit (.int .i64 k2), .lit (.int .i64 k3), sv2] → WC 6 Tryd.prog 17 [.agg [.lit (.int .u8 x.op), .lit (.int .i64 k2), .lit (.int .i64 k3), sv2]] ⟨.fn g', n'⟩ fun r => r = .ret (.lit (.string (textM x))) ⟨.fn g', n'⟩) := ⟨fun g' n' q1 q2 => IH x hx hv g' n' _ q1 q2⟩
  have HR := Hide.mk hr
  have HK := Hide.mk (Rank_w x.op ho)
  generalize hret : parM (textM x) (rankM x.op) least = ret
  have HRET := Hide.mk hret
  have hwl : (textM x).size ≤ 100000000 := by omega
  clear hr hret hv hts IH
  have hpl : (⟨#[40]⟩ : ByteArray).size = 1 := rfl
  have hpr : (⟨#[41]⟩ : ByteArray).size = 1 := rfl
  generalize textM x = wx at *
  generalize rankM x.op = rk at *
  have s1 : ((⟨#[40]⟩ : ByteArray) ++ wx).size ≤ 200000000 := by simp only [ba_size_append]; omega
  have s2 : ((⟨#[40]⟩ : ByteArray) ++ wx ++ (⟨#[41]⟩ : ByteArray)).size ≤ 200000000 := by simp only [ba_size_append]; omega
  by_cases hlt : rk < least
  · refine WC.enterP (noO_ok _ _) hG [] Tryd.func46 rfl (by decide +kernel) (Nat.le_of_ble_eq_true (by kernel_rfl)) ?_
    iterate 12 (all_goals try (first | with_reducible refine splitI (fun h => ?_) (fun h => ?_) | with_reducible refine splitBI (fun h => ?_) (fun h => ?_) | simp (config := { maxSteps := 1000000 }) (disch := first | assumption | omega | (simp; done) | fail) [Tryd.results46, *]))
    refine WC.mono (HK.out _) ?_
    rintro _ rfl
    iterate 12 (all_goals try (first | with_reducible refine splitI (fun h => ?_) (fun h => ?_) | with_reducible refine splitBI (fun h => ?_) (fun h => ?_) | simp (config := { maxSteps := 1000000 }) (disch := first | assumption | omega | (simp; done) | fail) [Tryd.results46, *]))
    refine WC.mono (HT.out _ _ (by omega) (repN_mono (by omega) (fun a ha => (by simp (disch := omega) only [gput_lt])) HR.out)) ?_
    rintro _ rfl
    iterate 12 (all_goals try (first | with_reducible refine splitI (fun h => ?_) (fun h => ?_) | with_reducible refine splitBI (fun h => ?_) (fun h => ?_) | simp (config := { maxSteps := 1000000 }) (disch := first | assumption | omega | (simp; done) | fail) [Tryd.results46, *]))
    refine ⟨_, ⟨?_, rfl⟩, ⟨by dsimp only; omega, fun b hb => ?_⟩⟩
    · rw [← HRET.out]; unfold parM; rw [if_pos hlt]
    · have hb' : b < n := hb
      show gput _ _ _ _ = _
      simp (disch := omega) only [gput_lt]
      try rfl
  · refine WC.enterP (noO_ok _ _) hG [] Tryd.func46 rfl (by decide +kernel) (Nat.le_of_ble_eq_true (by kernel_rfl)) ?_
    iterate 12 (all_goals try (first | with_reducible refine splitI (fun h => ?_) (fun h => ?_) | with_reducible refine splitBI (fun h => ?_) (fun h => ?_) | simp (config := { maxSteps := 1000000 }) (disch := first | assumption | omega | (simp; done) | fail) [Tryd.results46, *]))
    refine WC.mono (HK.out _) ?_
    rintro _ rfl
    iterate 12 (all_goals try (first | with_reducible refine splitI (fun h => ?_) (fun h => ?_) | with_reducible refine splitBI (fun h => ?_) (fun h => ?_) | simp (config := { maxSteps := 1000000 }) (disch := first | assumption | omega | (simp; done) | fail) [Tryd.results46, *]))
    refine WC.mono (HT.out _ _ (by omega) (repN_mono (by omega) (fun a ha => (by simp (disch := omega) only [gput_lt])) HR.out)) ?_
    rintro _ rfl
    iterate 12 (all_goals try (first | with_reducible refine splitI (fun h => ?_) (fun h => ?_) | with_reducible refine splitBI (fun h => ?_) (fun h => ?_) | simp (config := { maxSteps := 1000000 }) (disch := first | assumption | omega | (simp; done) | fail) [Tryd.results46, *]))
    refine ⟨_, ⟨?_, rfl⟩, ⟨by dsimp only; omega, fun b hb => ?_⟩⟩
    · rw [← HRET.out]; unfold parM; rw [if_neg hlt]
    · have hb' : b < n := hb
      show gput _ _ _ _ = _
      simp (disch := omega) only [gput_lt]
      try rfl
theorem rText_w : ∀ (m : Nat), m ≤ 1000000 → RTxt m := by
  intro m
  induction m with
  | zero => intro _ x hx; cases x; unfold sizeN at hx; omega
  | succ m ihm =>
    intro hm x hx hv g n cs hn hr
    have IH := Hide.mk (ihm (by omega))
    clear ihm
    refine WC.drop1 rfl ?_
    cases x with
    | mk op a b subs =>
      generalize hret : textM (.mk op a b subs) = ret
      simp only [validM, Bool.and_eq_true, decide_eq_true_eq] at hv
      obtain ⟨v1, v2, v3, v4, v5, v6, v7⟩ := hv
      obtain ⟨hop, sv1, rfl, hsv1⟩ := hr
      have h1c : oneC sv1 = true := by rcases hsv1 with ⟨_, rfl | rfl⟩ | ⟨a, off, r, _, ⟨c, rfl⟩ | ⟨c, rfl⟩, _⟩ <;> rfl
      have h1a : allOne [.lit (.int .u8 op), .lit (.int .i64 a), .lit (.int .i64 b), sv1] = true := by simp [h1c]
      have hsg := sign_size op
      obtain ⟨ka, rfl⟩ := Int.eq_ofNat_of_zero_le v3
      obtain ⟨kb, rfl⟩ := Int.eq_ofNat_of_zero_le v4
      have va : ka < 10000 := by split at v5 <;> (try split at v5) <;> omega
      have vb : kb < 10000 := by split at v6 <;> omega
      have da := dec_size ka 3 (by omega)
      have db := dec_size kb 3 (by omega)
      have hspz : (⟨#[32]⟩ : ByteArray).size = 1 := rfl
      have hql : (⟨#[91]⟩ : ByteArray).size = 1 := rfl
      have hqr : (⟨#[93]⟩ : ByteArray).size = 1 := rfl
      have hqu : (⟨#[32, 85, 32]⟩ : ByteArray).size = 3 := rfl
      clear v5 v6
      match subs, hx, v2, v7, hsv1, hret with
      | [], hx, v2, v7, hsv1, hret =>
        have ho : op = 0 ∨ op = 1 ∨ op = 2 ∨ op = 3 := by
          rcases op_cases v1 with rfl | rfl | rfl | rfl | rfl | rfl | rfl | rfl | rfl | rfl | rfl | rfl | rfl | rfl | rfl <;> simp [subsM] at v2 ⊢
        clear hsv1 v2 v7 IH
        rcases ho with rfl | rfl | rfl | rfl
        · have HRET : Hide (signB 0 = ret) := ⟨by rw [← hret]; rfl⟩
          clear hret
          refine WC.enterP (noO_ok _ _) hG pl17 Tryd.func17 rfl (by decide +kernel) (Nat.le_of_ble_eq_true (by kernel_rfl)) ?_
          iterate 20 (all_goals try (first | with_reducible refine splitI (fun h => ?_) (fun h => ?_) | with_reducible refine splitBI (fun h => ?_) (fun h => ?_) | simp (config := { maxSteps := 1000000 }) (disch := first | assumption | omega | (simp; done) | fail) [Tryd.results17, *]))
          all_goals
            have e := HRET.out
            refine ⟨_, ⟨?_, rfl⟩, ⟨by dsimp only; omega, fun b hb => ?_⟩⟩
            · rw [← e]
              try rfl
            · have hb' : b < n := hb
              show gput _ _ _ _ = _
              simp (disch := omega) only [gput_lt]
              try rfl
        · have HRET : Hide (signB 1 ++ ⟨#[32]⟩ ++ decB ka = ret) := ⟨by rw [← hret]; rfl⟩
          clear hret
          have s1 : (signB 1 ++ (⟨#[32]⟩ : ByteArray)).size ≤ 400000000 := by simp only [ba_size_append]; omega
          have s2 : ((signB 1 ++ (⟨#[32]⟩ : ByteArray)) ++ decB ka).size ≤ 400000000 := by simp only [ba_size_append]; omega
          refine WC.enterP (noO_ok _ _) hG pl17 Tryd.func17 rfl (by decide +kernel) (Nat.le_of_ble_eq_true (by kernel_rfl)) ?_
          iterate 20 (all_goals try (first | with_reducible refine splitI (fun h => ?_) (fun h => ?_) | with_reducible refine splitBI (fun h => ?_) (fun h => ?_) | simp (config := { maxSteps := 1000000 }) (disch := first | assumption | omega | (simp; done) | fail) [Tryd.results17, *]))
          refine WC.mono (sign_w 1 (by omega) _ _) ?_
          rintro _ rfl
          iterate 20 (all_goals try (first | with_reducible refine splitI (fun h => ?_) (fun h => ?_) | with_reducible refine splitBI (fun h => ?_) (fun h => ?_) | simp (config := { maxSteps := 1000000 }) (disch := first | assumption | omega | (simp; done) | fail) [Tryd.results17, *]))
          refine WC.mono (Number_w ka (by omega) _) ?_
          rintro _ rfl
          generalize decB ka = dka at *
          iterate 20 (all_goals try (first | with_reducible refine splitI (fun h => ?_) (fun h => ?_) | with_reducible refine splitBI (fun h => ?_) (fun h => ?_) | simp (config := { maxSteps := 1000000 }) (disch := first | assumption | omega | (simp; done) | fail) [Tryd.results17, *]))
          all_goals
            have e := HRET.out
            refine ⟨_, ⟨?_, rfl⟩, ⟨by dsimp only; omega, fun b hb => ?_⟩⟩
            · rw [← e]
              try simp only [ByteArray.append_assoc]
            · have hb' : b < n := hb
              show gput _ _ _ _ = _
              simp (disch := omega) only [gput_lt]
              try rfl
        · have HRET : Hide (signB 2 ++ ⟨#[32]⟩ ++ decB ka = ret) := ⟨by rw [← hret]; rfl⟩
          clear hret
          have s1 : (signB 2 ++ (⟨#[32]⟩ : ByteArray)).size ≤ 400000000 := by simp only [ba_size_append]; omega
          have s2 : ((signB 2 ++ (⟨#[32]⟩ : ByteArray)) ++ decB ka).size ≤ 400000000 := by simp only [ba_size_append]; omega
          refine WC.enterP (noO_ok _ _) hG pl17 Tryd.func17 rfl (by decide +kernel) (Nat.le_of_ble_eq_true (by kernel_rfl)) ?_
          iterate 20 (all_goals try (first | with_reducible refine splitI (fun h => ?_) (fun h => ?_) | with_reducible refine splitBI (fun h => ?_) (fun h => ?_) | simp (config := { maxSteps := 1000000 }) (disch := first | assumption | omega | (simp; done) | fail) [Tryd.results17, *]))
          refine WC.mono (sign_w 2 (by omega) _ _) ?_
          rintro _ rfl
          iterate 20 (all_goals try (first | with_reducible refine splitI (fun h => ?_) (fun h => ?_) | with_reducible refine splitBI (fun h => ?_) (fun h => ?_) | simp (config := { maxSteps := 1000000 }) (disch := first | assumption | omega | (simp; done) | fail) [Tryd.results17, *]))
          refine WC.mono (Number_w ka (by omega) _) ?_
          rintro _ rfl
          generalize decB ka = dka at *
          iterate 20 (all_goals try (first | with_reducible refine splitI (fun h => ?_) (fun h => ?_) | with_reducible refine splitBI (fun h => ?_) (fun h => ?_) | simp (config := { maxSteps := 1000000 }) (disch := first | assumption | omega | (simp; done) | fail) [Tryd.results17, *]))
          all_goals
            have e := HRET.out
            refine ⟨_, ⟨?_, rfl⟩, ⟨by dsimp only; omega, fun b hb => ?_⟩⟩
            · rw [← e]
              try simp only [ByteArray.append_assoc]
            · have hb' : b < n := hb
              show gput _ _ _ _ = _
              simp (disch := omega) only [gput_lt]
              try rfl
        · have hgv : signB 3 ++ (⟨#[32]⟩ : ByteArray) = ⟨#[103, 105, 118, 101, 115, 32]⟩ := by decide +kernel
          have hgz : (⟨#[103, 105, 118, 101, 115, 32]⟩ : ByteArray).size = 6 := rfl
          have HRET : Hide (⟨#[103, 105, 118, 101, 115, 32]⟩ ++ decB ka ++ ⟨#[32]⟩ ++ decB kb = ret) := ⟨by rw [← hret, ← hgv]; rfl⟩
          clear hret
          have s2 : ((⟨#[103, 105, 118, 101, 115, 32]⟩ : ByteArray) ++ decB ka).size ≤ 400000000 := by simp only [ba_size_append]; omega
          have s3 : (((⟨#[103, 105, 118, 101, 115, 32]⟩ : ByteArray) ++ decB ka) ++ (⟨#[32]⟩ : ByteArray)).size ≤ 400000000 := by simp only [ba_size_append]; omega
          have s4 : ((((⟨#[103, 105, 118, 101, 115, 32]⟩ : ByteArray) ++ decB ka) ++ (⟨#[32]⟩ : ByteArray)) ++ decB kb).size ≤ 400000000 := by simp only [ba_size_append]; omega
          refine WC.enterP (noO_ok _ _) hG pl17 Tryd.func17 rfl (by decide +kernel) (Nat.le_of_ble_eq_true (by kernel_rfl)) ?_
          iterate 20 (all_goals try (first | with_reducible refine splitI (fun h => ?_) (fun h => ?_) | with_reducible refine splitBI (fun h => ?_) (fun h => ?_) | simp (config := { maxSteps := 1000000 }) (disch := first | assumption | omega | (simp; done) | fail) [Tryd.results17, *]))
          refine WC.mono (Number_w ka (by omega) _) ?_
          rintro _ rfl
          generalize decB ka = dka at *
          iterate 20 (all_goals try (first | with_reducible refine splitI (fun h => ?_) (fun h => ?_) | with_reducible refine splitBI (fun h => ?_) (fun h => ?_) | simp (config := { maxSteps := 1000000 }) (disch := first | assumption | omega | (simp; done) | fail) [Tryd.results17, *]))
          refine WC.mono (Number_w kb (by omega) _) ?_
          rintro _ rfl
          generalize decB kb = dkb at *
          iterate 20 (all_goals try (first | with_reducible refine splitI (fun h => ?_) (fun h => ?_) | with_reducible refine splitBI (fun h => ?_) (fun h => ?_) | simp (config := { maxSteps := 1000000 }) (disch := first | assumption | omega | (simp; done) | fail) [Tryd.results17, *]))
          all_goals
            have e := HRET.out
            refine ⟨_, ⟨?_, rfl⟩, ⟨by dsimp only; omega, fun b hb => ?_⟩⟩
            · rw [← e]
              try simp only [ByteArray.append_assoc]
            · have hb' : b < n := hb
              show gput _ _ _ _ = _
              simp (disch := omega) only [gput_lt]
              try rfl
      | [y], hx, v2, v7, hsv1, hret =>
        have hs1 : subsM op = 1 := v2.symm
        have m0 : ¬op = 0 := by intro e2; rw [e2] at hs1; exact absurd hs1 (by decide)
        have n0 : ¬(op : Int) = 0 := by intro e; have e2 : op = 0 := (by omega); rw [e2] at hs1; exact absurd hs1 (by decide)
        have n1 : ¬(op : Int) = 1 := by intro e; have e2 : op = 1 := (by omega); rw [e2] at hs1; exact absurd hs1 (by decide)
        have n2 : ¬(op : Int) = 2 := by intro e; have e2 : op = 2 := (by omega); rw [e2] at hs1; exact absurd hs1 (by decide)
        have n3 : ¬(op : Int) = 3 := by intro e; have e2 : op = 3 := (by omega); rw [e2] at hs1; exact absurd hs1 (by decide)
        have n5 : ¬(op : Int) = 5 := by intro e; have e2 : op = 5 := (by omega); rw [e2] at hs1; exact absurd hs1 (by decide)
        have n6 : ¬(op : Int) = 6 := by intro e; have e2 : op = 6 := (by omega); rw [e2] at hs1; exact absurd hs1 (by decide)
        have n10 : ¬(op : Int) = 10 := by intro e; have e2 : op = 10 := (by omega); rw [e2] at hs1; exact absurd hs1 (by decide)
        have n14 : ¬(op : Int) = 14 := by intro e; have e2 : op = 14 := (by omega); rw [e2] at hs1; exact absurd hs1 (by decide)
        rcases hsv1 with ⟨hsub, _⟩ | ⟨ad, off, r, han, hsl, hrow1, hrep⟩
        · cases hsub
        obtain ⟨c1, r1, rfl, hy1, hr1⟩ := hrep
        have hr1' : r1 = [] := hr1
        subst hr1'
        obtain ⟨k2, k3, sv2, hcy, h2c, hop2⟩ := repN_one hy1
        subst hcy
        have h2a : allOne [.lit (.int .u8 y.op), .lit (.int .i64 k2), .lit (.int .i64 k3), sv2] = true := by simp [h2c]
        have hrw := hrow1.agg (k := 0) (s := 4) (by simp)
        simp only [Nat.add_zero, List.append_nil, List.drop_zero, List.take] at hrw
        simp only [validL, Bool.and_eq_true] at v7
        have hvy := v7.1
        have hsy : sizeN y ≤ m := by unfold sizeN sizeL sizeL at hx; omega
        have hty := text_size y hvy
        have HY := Hide.mk hy1
        have IHY : Hide (∀ (g' : Nat → Option Blk) (n' : Nat), 0 < n' → repN g' n' y [.lit (.int .u8 y.op), .lit (.int .i64 k2), .lit (.int .i64 k3), sv2] → WC 6 Tryd.prog 46 [.agg [.lit (.int .u8 y.op), .lit (.int .i64 k2), .lit (.int .i64 k3), sv2], .lit (.int .i64 3)] ⟨.fn g', n'⟩ fun r => r = .ret (.lit (.string (parM (textM y) (rankM y.op) 3))) ⟨.fn g', n'⟩) :=
          ⟨fun g' n' q1 q2 => within_w IH.out (by omega) y hsy hvy g' n' _ 3 q1 q2⟩
        have hps := par_size (textM y) (rankM y.op) 3
        have HRET : Hide (signB op ++ ⟨#[32]⟩ ++ parM (textM y) (rankM y.op) 3 = ret) := ⟨by rw [← hret]; rfl⟩
        have hwl : (parM (textM y) (rankM y.op) 3).size ≤ 100000000 := by omega
        have HSI := Hide.mk (sign_w op v1)
        generalize parM (textM y) (rankM y.op) 3 = wy at HRET IHY hwl
        generalize signB op = sg at *
        have s1 : (sg ++ (⟨#[32]⟩ : ByteArray)).size ≤ 400000000 := by simp only [ba_size_append]; omega
        have s2 : ((sg ++ (⟨#[32]⟩ : ByteArray)) ++ wy).size ≤ 400000000 := by simp only [ba_size_append]; omega
        clear hret v2 v7 hrow1 hy1 hr1 hty hps hvy hsy hs1 hop
        rcases hsl with ⟨c, rfl⟩ | ⟨c, rfl⟩
        all_goals
          refine WC.enterP (noO_ok _ _) hG pl17 Tryd.func17 rfl (by decide +kernel) (Nat.le_of_ble_eq_true (by kernel_rfl)) ?_
          iterate 20 (all_goals try (first | with_reducible refine splitI (fun h => ?_) (fun h => ?_) | with_reducible refine splitBI (fun h => ?_) (fun h => ?_) | simp (config := { maxSteps := 1000000 }) (disch := first | assumption | omega | (simp; done) | fail) [Tryd.results17, *]))
          refine WC.mono (HSI.out _ _) ?_
          rintro _ rfl
          iterate 20 (all_goals try (first | with_reducible refine splitI (fun h => ?_) (fun h => ?_) | with_reducible refine splitBI (fun h => ?_) (fun h => ?_) | simp (config := { maxSteps := 1000000 }) (disch := first | assumption | omega | (simp; done) | fail) [Tryd.results17, *]))
          refine WC.mono (IHY.out _ _ (by omega) (repN_mono (by omega) (fun a ha => by simp (disch := omega) only [gput_lt]) HY.out)) ?_
          rintro _ rfl
          iterate 20 (all_goals try (first | with_reducible refine splitI (fun h => ?_) (fun h => ?_) | with_reducible refine splitBI (fun h => ?_) (fun h => ?_) | simp (config := { maxSteps := 1000000 }) (disch := first | assumption | omega | (simp; done) | fail) [Tryd.results17, *]))
          
        all_goals
          have e := HRET.out
          refine ⟨_, ⟨?_, rfl⟩, ⟨by dsimp only; omega, fun b hb => ?_⟩⟩
          · rw [← e]
            try simp only [ByteArray.append_assoc]
          · have hb' : b < n := hb
            show gput _ _ _ _ = _
            simp (disch := omega) only [gput_lt]
            try rfl
      | [y, z], hx, v2, v7, hsv1, hret =>
        have ho : op = 5 ∨ op = 6 ∨ op = 10 ∨ op = 14 := by
          rcases op_cases v1 with rfl | rfl | rfl | rfl | rfl | rfl | rfl | rfl | rfl | rfl | rfl | rfl | rfl | rfl | rfl <;> simp [subsM] at v2 ⊢
        rcases hsv1 with ⟨hsub, _⟩ | ⟨ad, off, r, han, hsl, hrow1, hrep⟩
        · cases hsub
        obtain ⟨c1, r1, rfl, hy1, c2, r2, rfl, hz1, hr2⟩ := hrep
        have hr2' : r2 = [] := hr2
        subst hr2'
        obtain ⟨k2, k3, sv2, hcy, h2c, hop2⟩ := repN_one hy1
        subst hcy
        obtain ⟨j2, j3, sv3, hcz, h3c, hop3⟩ := repN_one hz1
        subst hcz
        have h2a : allOne [.lit (.int .u8 y.op), .lit (.int .i64 k2), .lit (.int .i64 k3), sv2] = true := by simp [h2c]
        have h3a : allOne [.lit (.int .u8 z.op), .lit (.int .i64 j2), .lit (.int .i64 j3), sv3] = true := by simp [h3c]
        have hrw1 := hrow1.agg (k := 0) (s := 4) (by simp)
        have hrw2 := hrow1.agg (k := 4) (s := 4) (by simp)
        simp only [Nat.add_zero, List.append_nil, List.drop_zero, List.take, List.cons_append, List.nil_append, List.drop_succ_cons] at hrw1 hrw2
        simp only [validL, Bool.and_eq_true] at v7
        have hvy := v7.1
        have hvz := v7.2.1
        have hsy : sizeN y ≤ m := by unfold sizeN sizeL sizeL sizeL at hx; omega
        have hsz : sizeN z ≤ m := by unfold sizeN sizeL sizeL sizeL at hx; omega
        have hty := text_size y hvy
        have htz := text_size z hvz
        have HY := Hide.mk hy1
        have HZ := Hide.mk hz1
        clear hrow1 hy1 hz1 hr2 v7
        rcases ho with rfl | rfl | rfl | rfl
        · have IHY : Hide (∀ (g' : Nat → Option Blk) (n' : Nat), 0 < n' → repN g' n' y [.lit (.int .u8 y.op), .lit (.int .i64 k2), .lit (.int .i64 k3), sv2] → WC 6 Tryd.prog 46 [.agg [.lit (.int .u8 y.op), .lit (.int .i64 k2), .lit (.int .i64 k3), sv2], .lit (.int .i64 2)] ⟨.fn g', n'⟩ fun r => r = .ret (.lit (.string (parM (textM y) (rankM y.op) 2))) ⟨.fn g', n'⟩) :=
            ⟨fun g' n' q1 q2 => within_w IH.out (by omega) y hsy hvy g' n' _ 2 q1 q2⟩
          have IHZ : Hide (∀ (g' : Nat → Option Blk) (n' : Nat), 0 < n' → repN g' n' z [.lit (.int .u8 z.op), .lit (.int .i64 j2), .lit (.int .i64 j3), sv3] → WC 6 Tryd.prog 46 [.agg [.lit (.int .u8 z.op), .lit (.int .i64 j2), .lit (.int .i64 j3), sv3], .lit (.int .i64 3)] ⟨.fn g', n'⟩ fun r => r = .ret (.lit (.string (parM (textM z) (rankM z.op) 3))) ⟨.fn g', n'⟩) :=
            ⟨fun g' n' q1 q2 => within_w IH.out (by omega) z hsz hvz g' n' _ 3 q1 q2⟩
          have hmid : (⟨#[32]⟩ : ByteArray) ++ (signB 5 ++ ⟨#[32]⟩) = ⟨#[32, 97, 110, 100, 32]⟩ := by decide +kernel
          have HRET : Hide (parM (textM y) (rankM y.op) 2 ++ ⟨#[32, 97, 110, 100, 32]⟩ ++ parM (textM z) (rankM z.op) 3 = ret) := ⟨by
            rw [← hret, ← hmid]
            simp only [ByteArray.append_assoc]
            show _ = parM (textM y) (rankM y.op) 2 ++ ⟨#[32]⟩ ++ signB 5 ++ ⟨#[32]⟩ ++ parM (textM z) (rankM z.op) 3
            simp only [ByteArray.append_assoc]⟩
          have hps := par_size (textM y) (rankM y.op) 2
          have hpz := par_size (textM z) (rankM z.op) 3
          have hwl : (parM (textM y) (rankM y.op) 2).size ≤ 100000000 := by omega
          have hwz : (parM (textM z) (rankM z.op) 3).size ≤ 100000000 := by omega
          have hms : (⟨#[32, 97, 110, 100, 32]⟩ : ByteArray).size ≤ 5 := by decide
          generalize parM (textM y) (rankM y.op) 2 = wy at HRET IHY hwl
          generalize parM (textM z) (rankM z.op) 3 = wz at HRET IHZ hwz
          have s1 : (wy ++ (⟨#[32, 97, 110, 100, 32]⟩ : ByteArray)).size ≤ 400000000 := by simp only [ba_size_append]; omega
          have s2 : ((wy ++ (⟨#[32, 97, 110, 100, 32]⟩ : ByteArray)) ++ wz).size ≤ 400000000 := by simp only [ba_size_append]; omega
          clear hret v2 hps hpz hty htz hvy hvz hsy hsz hop IH hmid
          rcases hsl with ⟨c, rfl⟩ | ⟨c, rfl⟩
          all_goals
            refine WC.enterP (noO_ok _ _) hG pl17 Tryd.func17 rfl (by decide +kernel) (Nat.le_of_ble_eq_true (by kernel_rfl)) ?_
            iterate 20 (all_goals try (first | with_reducible refine splitI (fun h => ?_) (fun h => ?_) | with_reducible refine splitBI (fun h => ?_) (fun h => ?_) | simp (config := { maxSteps := 1000000 }) (disch := first | assumption | omega | (simp; done) | fail) [Tryd.results17, *]))
            refine WC.mono (IHY.out _ _ (by omega) (repN_mono (by omega) (fun a ha => by simp (disch := omega) only [gput_lt]) HY.out)) ?_
            rintro _ rfl
            iterate 20 (all_goals try (first | with_reducible refine splitI (fun h => ?_) (fun h => ?_) | with_reducible refine splitBI (fun h => ?_) (fun h => ?_) | simp (config := { maxSteps := 1000000 }) (disch := first | assumption | omega | (simp; done) | fail) [Tryd.results17, *]))
            refine WC.mono (IHZ.out _ _ (by omega) (repN_mono (by omega) (fun a ha => by simp (disch := omega) only [gput_lt]) HZ.out)) ?_
            rintro _ rfl
            iterate 20 (all_goals try (first | with_reducible refine splitI (fun h => ?_) (fun h => ?_) | with_reducible refine splitBI (fun h => ?_) (fun h => ?_) | simp (config := { maxSteps := 1000000 }) (disch := first | assumption | omega | (simp; done) | fail) [Tryd.results17, *]))
            
          all_goals
            have e := HRET.out
            refine ⟨_, ⟨?_, rfl⟩, ⟨by dsimp only; omega, fun b hb => ?_⟩⟩
            · rw [← e]
              try simp only [ByteArray.append_assoc]
            · have hb' : b < n := hb
              show gput _ _ _ _ = _
              simp (disch := omega) only [gput_lt]
              try rfl
        · have IHY : Hide (∀ (g' : Nat → Option Blk) (n' : Nat), 0 < n' → repN g' n' y [.lit (.int .u8 y.op), .lit (.int .i64 k2), .lit (.int .i64 k3), sv2] → WC 6 Tryd.prog 46 [.agg [.lit (.int .u8 y.op), .lit (.int .i64 k2), .lit (.int .i64 k3), sv2], .lit (.int .i64 1)] ⟨.fn g', n'⟩ fun r => r = .ret (.lit (.string (parM (textM y) (rankM y.op) 1))) ⟨.fn g', n'⟩) :=
            ⟨fun g' n' q1 q2 => within_w IH.out (by omega) y hsy hvy g' n' _ 1 q1 q2⟩
          have IHZ : Hide (∀ (g' : Nat → Option Blk) (n' : Nat), 0 < n' → repN g' n' z [.lit (.int .u8 z.op), .lit (.int .i64 j2), .lit (.int .i64 j3), sv3] → WC 6 Tryd.prog 46 [.agg [.lit (.int .u8 z.op), .lit (.int .i64 j2), .lit (.int .i64 j3), sv3], .lit (.int .i64 2)] ⟨.fn g', n'⟩ fun r => r = .ret (.lit (.string (parM (textM z) (rankM z.op) 2))) ⟨.fn g', n'⟩) :=
            ⟨fun g' n' q1 q2 => within_w IH.out (by omega) z hsz hvz g' n' _ 2 q1 q2⟩
          have hmid : (⟨#[32]⟩ : ByteArray) ++ (signB 6 ++ ⟨#[32]⟩) = ⟨#[32, 111, 114, 32]⟩ := by decide +kernel
          have HRET : Hide (parM (textM y) (rankM y.op) 1 ++ ⟨#[32, 111, 114, 32]⟩ ++ parM (textM z) (rankM z.op) 2 = ret) := ⟨by
            rw [← hret, ← hmid]
            simp only [ByteArray.append_assoc]
            show _ = parM (textM y) (rankM y.op) 1 ++ ⟨#[32]⟩ ++ signB 6 ++ ⟨#[32]⟩ ++ parM (textM z) (rankM z.op) 2
            simp only [ByteArray.append_assoc]⟩
          have hps := par_size (textM y) (rankM y.op) 1
          have hpz := par_size (textM z) (rankM z.op) 2
          have hwl : (parM (textM y) (rankM y.op) 1).size ≤ 100000000 := by omega
          have hwz : (parM (textM z) (rankM z.op) 2).size ≤ 100000000 := by omega
          have hms : (⟨#[32, 111, 114, 32]⟩ : ByteArray).size ≤ 5 := by decide
          generalize parM (textM y) (rankM y.op) 1 = wy at HRET IHY hwl
          generalize parM (textM z) (rankM z.op) 2 = wz at HRET IHZ hwz
          have s1 : (wy ++ (⟨#[32, 111, 114, 32]⟩ : ByteArray)).size ≤ 400000000 := by simp only [ba_size_append]; omega
          have s2 : ((wy ++ (⟨#[32, 111, 114, 32]⟩ : ByteArray)) ++ wz).size ≤ 400000000 := by simp only [ba_size_append]; omega
          clear hret v2 hps hpz hty htz hvy hvz hsy hsz hop IH hmid
          rcases hsl with ⟨c, rfl⟩ | ⟨c, rfl⟩
          all_goals
            refine WC.enterP (noO_ok _ _) hG pl17 Tryd.func17 rfl (by decide +kernel) (Nat.le_of_ble_eq_true (by kernel_rfl)) ?_
            iterate 20 (all_goals try (first | with_reducible refine splitI (fun h => ?_) (fun h => ?_) | with_reducible refine splitBI (fun h => ?_) (fun h => ?_) | simp (config := { maxSteps := 1000000 }) (disch := first | assumption | omega | (simp; done) | fail) [Tryd.results17, *]))
            refine WC.mono (IHY.out _ _ (by omega) (repN_mono (by omega) (fun a ha => by simp (disch := omega) only [gput_lt]) HY.out)) ?_
            rintro _ rfl
            iterate 20 (all_goals try (first | with_reducible refine splitI (fun h => ?_) (fun h => ?_) | with_reducible refine splitBI (fun h => ?_) (fun h => ?_) | simp (config := { maxSteps := 1000000 }) (disch := first | assumption | omega | (simp; done) | fail) [Tryd.results17, *]))
            refine WC.mono (IHZ.out _ _ (by omega) (repN_mono (by omega) (fun a ha => by simp (disch := omega) only [gput_lt]) HZ.out)) ?_
            rintro _ rfl
            iterate 20 (all_goals try (first | with_reducible refine splitI (fun h => ?_) (fun h => ?_) | with_reducible refine splitBI (fun h => ?_) (fun h => ?_) | simp (config := { maxSteps := 1000000 }) (disch := first | assumption | omega | (simp; done) | fail) [Tryd.results17, *]))
            
          all_goals
            have e := HRET.out
            refine ⟨_, ⟨?_, rfl⟩, ⟨by dsimp only; omega, fun b hb => ?_⟩⟩
            · rw [← e]
              try simp only [ByteArray.append_assoc]
            · have hb' : b < n := hb
              show gput _ _ _ _ = _
              simp (disch := omega) only [gput_lt]
              try rfl
        · have IHY : Hide (∀ (g' : Nat → Option Blk) (n' : Nat), 0 < n' → repN g' n' y [.lit (.int .u8 y.op), .lit (.int .i64 k2), .lit (.int .i64 k3), sv2] → WC 6 Tryd.prog 17 [.agg [.lit (.int .u8 y.op), .lit (.int .i64 k2), .lit (.int .i64 k3), sv2]] ⟨.fn g', n'⟩ fun r => r = .ret (.lit (.string (textM y))) ⟨.fn g', n'⟩) :=
            ⟨fun g' n' q1 q2 => IH.out y hsy hvy g' n' _ q1 q2⟩
          have IHZ : Hide (∀ (g' : Nat → Option Blk) (n' : Nat), 0 < n' → repN g' n' z [.lit (.int .u8 z.op), .lit (.int .i64 j2), .lit (.int .i64 j3), sv3] → WC 6 Tryd.prog 17 [.agg [.lit (.int .u8 z.op), .lit (.int .i64 j2), .lit (.int .i64 j3), sv3]] ⟨.fn g', n'⟩ fun r => r = .ret (.lit (.string (textM z))) ⟨.fn g', n'⟩) :=
            ⟨fun g' n' q1 q2 => IH.out z hsz hvz g' n' _ q1 q2⟩
          have HRET : Hide (signB 10 ++ ⟨#[91]⟩ ++ textM y ++ ⟨#[32, 85, 32]⟩ ++ textM z ++ ⟨#[93]⟩ = ret) := ⟨by rw [← hret]; rfl⟩
          have HSI := Hide.mk (sign_w 10 v1)
          have hwl : (textM y).size ≤ 100000000 := by omega
          have hwz : (textM z).size ≤ 100000000 := by omega
          generalize textM y = wy at HRET IHY hwl
          generalize textM z = wz at HRET IHZ hwz
          generalize signB 10 = sg at *
          have s0 : (sg ++ (⟨#[91]⟩ : ByteArray)).size ≤ 400000000 := by simp only [ba_size_append]; omega
          have s1 : ((sg ++ (⟨#[91]⟩ : ByteArray)) ++ wy).size ≤ 400000000 := by simp only [ba_size_append]; omega
          have s2 : (((sg ++ (⟨#[91]⟩ : ByteArray)) ++ wy) ++ (⟨#[32, 85, 32]⟩ : ByteArray)).size ≤ 400000000 := by simp only [ba_size_append]; omega
          have s3 : ((((sg ++ (⟨#[91]⟩ : ByteArray)) ++ wy) ++ (⟨#[32, 85, 32]⟩ : ByteArray)) ++ wz).size ≤ 400000000 := by simp only [ba_size_append]; omega
          have s4 : (((((sg ++ (⟨#[91]⟩ : ByteArray)) ++ wy) ++ (⟨#[32, 85, 32]⟩ : ByteArray)) ++ wz) ++ (⟨#[93]⟩ : ByteArray)).size ≤ 400000000 := by simp only [ba_size_append]; omega
          clear hret v2 hty htz hvy hvz hsy hsz hop IH
          rcases hsl with ⟨c, rfl⟩ | ⟨c, rfl⟩
          all_goals
            refine WC.enterP (noO_ok _ _) hG pl17 Tryd.func17 rfl (by decide +kernel) (Nat.le_of_ble_eq_true (by kernel_rfl)) ?_
            iterate 20 (all_goals try (first | with_reducible refine splitI (fun h => ?_) (fun h => ?_) | with_reducible refine splitBI (fun h => ?_) (fun h => ?_) | simp (config := { maxSteps := 1000000 }) (disch := first | assumption | omega | (simp; done) | fail) [Tryd.results17, *]))
            refine WC.mono (HSI.out _ _) ?_
            rintro _ rfl
            iterate 20 (all_goals try (first | with_reducible refine splitI (fun h => ?_) (fun h => ?_) | with_reducible refine splitBI (fun h => ?_) (fun h => ?_) | simp (config := { maxSteps := 1000000 }) (disch := first | assumption | omega | (simp; done) | fail) [Tryd.results17, *]))
            refine WC.mono (IHY.out _ _ (by omega) (repN_mono (by omega) (fun a ha => by simp (disch := omega) only [gput_lt]) HY.out)) ?_
            rintro _ rfl
            iterate 20 (all_goals try (first | with_reducible refine splitI (fun h => ?_) (fun h => ?_) | with_reducible refine splitBI (fun h => ?_) (fun h => ?_) | simp (config := { maxSteps := 1000000 }) (disch := first | assumption | omega | (simp; done) | fail) [Tryd.results17, *]))
            refine WC.mono (IHZ.out _ _ (by omega) (repN_mono (by omega) (fun a ha => by simp (disch := omega) only [gput_lt]) HZ.out)) ?_
            rintro _ rfl
            iterate 20 (all_goals try (first | with_reducible refine splitI (fun h => ?_) (fun h => ?_) | with_reducible refine splitBI (fun h => ?_) (fun h => ?_) | simp (config := { maxSteps := 1000000 }) (disch := first | assumption | omega | (simp; done) | fail) [Tryd.results17, *]))
            
          all_goals
            have e := HRET.out
            refine ⟨_, ⟨?_, rfl⟩, ⟨by dsimp only; omega, fun b hb => ?_⟩⟩
            · rw [← e]
              try simp only [ByteArray.append_assoc]
            · have hb' : b < n := hb
              show gput _ _ _ _ = _
              simp (disch := omega) only [gput_lt]
              try rfl
        · have IHY : Hide (∀ (g' : Nat → Option Blk) (n' : Nat), 0 < n' → repN g' n' y [.lit (.int .u8 y.op), .lit (.int .i64 k2), .lit (.int .i64 k3), sv2] → WC 6 Tryd.prog 17 [.agg [.lit (.int .u8 y.op), .lit (.int .i64 k2), .lit (.int .i64 k3), sv2]] ⟨.fn g', n'⟩ fun r => r = .ret (.lit (.string (textM y))) ⟨.fn g', n'⟩) :=
            ⟨fun g' n' q1 q2 => IH.out y hsy hvy g' n' _ q1 q2⟩
          have IHZ : Hide (∀ (g' : Nat → Option Blk) (n' : Nat), 0 < n' → repN g' n' z [.lit (.int .u8 z.op), .lit (.int .i64 j2), .lit (.int .i64 j3), sv3] → WC 6 Tryd.prog 17 [.agg [.lit (.int .u8 z.op), .lit (.int .i64 j2), .lit (.int .i64 j3), sv3]] ⟨.fn g', n'⟩ fun r => r = .ret (.lit (.string (textM z))) ⟨.fn g', n'⟩) :=
            ⟨fun g' n' q1 q2 => IH.out z hsz hvz g' n' _ q1 q2⟩
          have HRET : Hide (signB 14 ++ ⟨#[91]⟩ ++ textM y ++ ⟨#[32, 85, 32]⟩ ++ textM z ++ ⟨#[93]⟩ = ret) := ⟨by rw [← hret]; rfl⟩
          have HSI := Hide.mk (sign_w 14 v1)
          have hwl : (textM y).size ≤ 100000000 := by omega
          have hwz : (textM z).size ≤ 100000000 := by omega
          generalize textM y = wy at HRET IHY hwl
          generalize textM z = wz at HRET IHZ hwz
          generalize signB 14 = sg at *
          have s0 : (sg ++ (⟨#[91]⟩ : ByteArray)).size ≤ 400000000 := by simp only [ba_size_append]; omega
          have s1 : ((sg ++ (⟨#[91]⟩ : ByteArray)) ++ wy).size ≤ 400000000 := by simp only [ba_size_append]; omega
          have s2 : (((sg ++ (⟨#[91]⟩ : ByteArray)) ++ wy) ++ (⟨#[32, 85, 32]⟩ : ByteArray)).size ≤ 400000000 := by simp only [ba_size_append]; omega
          have s3 : ((((sg ++ (⟨#[91]⟩ : ByteArray)) ++ wy) ++ (⟨#[32, 85, 32]⟩ : ByteArray)) ++ wz).size ≤ 400000000 := by simp only [ba_size_append]; omega
          have s4 : (((((sg ++ (⟨#[91]⟩ : ByteArray)) ++ wy) ++ (⟨#[32, 85, 32]⟩ : ByteArray)) ++ wz) ++ (⟨#[93]⟩ : ByteArray)).size ≤ 400000000 := by simp only [ba_size_append]; omega
          clear hret v2 hty htz hvy hvz hsy hsz hop IH
          rcases hsl with ⟨c, rfl⟩ | ⟨c, rfl⟩
          all_goals
            refine WC.enterP (noO_ok _ _) hG pl17 Tryd.func17 rfl (by decide +kernel) (Nat.le_of_ble_eq_true (by kernel_rfl)) ?_
            iterate 20 (all_goals try (first | with_reducible refine splitI (fun h => ?_) (fun h => ?_) | with_reducible refine splitBI (fun h => ?_) (fun h => ?_) | simp (config := { maxSteps := 1000000 }) (disch := first | assumption | omega | (simp; done) | fail) [Tryd.results17, *]))
            refine WC.mono (HSI.out _ _) ?_
            rintro _ rfl
            iterate 20 (all_goals try (first | with_reducible refine splitI (fun h => ?_) (fun h => ?_) | with_reducible refine splitBI (fun h => ?_) (fun h => ?_) | simp (config := { maxSteps := 1000000 }) (disch := first | assumption | omega | (simp; done) | fail) [Tryd.results17, *]))
            refine WC.mono (IHY.out _ _ (by omega) (repN_mono (by omega) (fun a ha => by simp (disch := omega) only [gput_lt]) HY.out)) ?_
            rintro _ rfl
            iterate 20 (all_goals try (first | with_reducible refine splitI (fun h => ?_) (fun h => ?_) | with_reducible refine splitBI (fun h => ?_) (fun h => ?_) | simp (config := { maxSteps := 1000000 }) (disch := first | assumption | omega | (simp; done) | fail) [Tryd.results17, *]))
            refine WC.mono (IHZ.out _ _ (by omega) (repN_mono (by omega) (fun a ha => by simp (disch := omega) only [gput_lt]) HZ.out)) ?_
            rintro _ rfl
            iterate 20 (all_goals try (first | with_reducible refine splitI (fun h => ?_) (fun h => ?_) | with_reducible refine splitBI (fun h => ?_) (fun h => ?_) | simp (config := { maxSteps := 1000000 }) (disch := first | assumption | omega | (simp; done) | fail) [Tryd.results17, *]))
            
          all_goals
            have e := HRET.out
            refine ⟨_, ⟨?_, rfl⟩, ⟨by dsimp only; omega, fun b hb => ?_⟩⟩
            · rw [← e]
              try simp only [ByteArray.append_assoc]
            · have hb' : b < n := hb
              show gput _ _ _ _ = _
              simp (disch := omega) only [gput_lt]
              try rfl
      | x1 :: x2 :: x3 :: l, hx, v2, v7, hsv1, hret =>
        exfalso
        have : subsM op ≤ 2 := by rcases op_cases v1 with rfl | rfl | rfl | rfl | rfl | rfl | rfl | rfl | rfl | rfl | rfl | rfl | rfl | rfl | rfl <;> decide
        simp only [List.length_cons] at v2
        omega
end Go.Ai
end

section
namespace Go.Ai
open Go.Proofs
set_option maxRecDepth 10000
set_option maxHeartbeats 40000000
theorem zero_good : validM 10000 10000 10000 (.mk 0 0 0 []) = true ∧ (smallM (.mk 0 0 0 []) 64).1 = true := by decide
theorem parse_good (s : ByteArray) : validM 10000 10000 10000 (parseM s).1 = true ∧ (smallM (parseM s).1 64).1 = true := by
  rw [parseM]
  split
  · exact zero_good
  split
  · exact zero_good
  · rename_i x k e
    split
    · exact zero_good
    split
    · exact zero_good
    · rename_i h
      exact ⟨((read_good _).1 _ _ _ _ (advM_le (Nat.zero_le _)).2 e).2.2.2, by simpa using h⟩
  · exact zero_good
theorem parse_sz (s : ByteArray) : sizeN (parseM s).1 ≤ 64 := by
  have := (small_inv _ _ (parse_good s).2).1
  omega
theorem formulasParse_w (hl : retIs (.lit (.bool true)) (callF Tryd.prog noO 10000 14 [] H0) = true) (s : ByteArray) (g : Nat → Option Blk) (n : Nat) (h0 : ∀ i x, blks0[i]? = some x → g i = some x) (hn : 8 ≤ n) :
    WC 6 Tryd.prog 5 [.lit (.string s)] ⟨.fn g, n⟩ fun r => ∃ H', r = .ret (.lit (.bool true)) H' := by
  have H00 := Hide.mk h0
  have HL := Hide.mk hl
  have H8 : Hide (∀ i y, blks0[i]? = some y → i < 8) := ⟨fun i y hy => (List.getElem?_eq_some_iff.1 hy).1⟩
  clear h0 hl
  have hpz := parse_sz s
  have HG := Hide.mk (parse_good s)
  refine WC.enterP (noO_ok _ _) hG [] Tryd.func5 rfl (by decide +kernel) (Nat.le_of_ble_eq_true (by kernel_rfl)) ?_
  by_cases hbig : 65536 < s.size
  · have hbigI : (65536 : Int) < (s.size : Int) := by omega
    have e1 : parseM s = (.mk 0 0 0 [], 0, 3) := by rw [parseM, if_pos hbig]
    iterate 8 (all_goals try (first | with_reducible refine splitI (fun h => ?_) (fun h => ?_) | with_reducible refine splitBI (fun h => ?_) (fun h => ?_) | simp (config := { maxSteps := 1000000 }) (disch := first | assumption | omega | (simp; done) | fail) [Tryd.results5, *]))
    refine WC.mono (Parse_w s _ _ (H00.out 0 _ rfl) (H00.out 1 _ rfl) (H00.out 2 _ rfl) (H00.out 3 _ rfl) (by omega)) ?_
    rw [e1]
    rintro _ ⟨ds, g3, n3, rfl, hn3, hg3, hfr⟩
    have hrep3 := hfr.rep
    obtain ⟨k3, q3, sv3, hcz, h1c3, hop3⟩ := repN_one hrep3
    subst hcz
    have h1p : allOne [.lit (.int .u8 (NodeM.mk 0 0 0 []).op), .lit (.int .i64 k3), .lit (.int .i64 q3), sv3] = true := by simp [h1c3]
    have HB3 : Hide (∀ i y, blks0[i]? = some y → g3 i = some y) := ⟨fun i y hy => by
      have := H8.out i y hy
      rw [hg3 i (by omega)]
      try simp (disch := omega) only [gput_lt]
      exact H00.out i y hy⟩
    have HR3 := Hide.mk hrep3
    clear hfr hg3 hrep3
    iterate 8 (all_goals try (first | with_reducible refine splitI (fun h => ?_) (fun h => ?_) | with_reducible refine splitBI (fun h => ?_) (fun h => ?_) | simp (config := { maxSteps := 1000000 }) (disch := first | assumption | omega | (simp; done) | fail) [Tryd.results5, *]))
    refine WC.mono (rsame_w 1 (by omega) (.mk 0 0 0 []) (by decide) _ _ _ _ (repN_mono (by omega) (fun a ha => (by simp (disch := omega) only [gput_lt])) HR3.out) ⟨by omega, _, rfl, .inl ⟨rfl, .inl rfl⟩⟩) ?_
    rintro _ rfl
    iterate 8 (all_goals try (first | with_reducible refine splitI (fun h => ?_) (fun h => ?_) | with_reducible refine splitBI (fun h => ?_) (fun h => ?_) | simp (config := { maxSteps := 1000000 }) (disch := first | assumption | omega | (simp; done) | fail) [Tryd.results5, *]))
    refine WC.mono (own_w (callF_ok (noO_ok _ _) hG 10000) rfl rfl HL.out _ (holds_of fun i y hy => ?_)) ?_
    · have h8 := H8.out i y hy
      have hgi := HB3.out i y hy
      show gput _ _ _ _ = _
      simp (disch := omega) only [gput_lt]
      exact hgi
    rintro _ rfl
    iterate 8 (all_goals try (first | with_reducible refine splitI (fun h => ?_) (fun h => ?_) | with_reducible refine splitBI (fun h => ?_) (fun h => ?_) | simp (config := { maxSteps := 1000000 }) (disch := first | assumption | omega | (simp; done) | fail) [Tryd.results5, *]))
  have hbI : ¬(65536 : Int) < (s.size : Int) := by omega
  have hs : s.size ≤ 65536 := by omega
  generalize hpm : parseM s = ret at *
  iterate 8 (all_goals try (first | with_reducible refine splitI (fun h => ?_) (fun h => ?_) | with_reducible refine splitBI (fun h => ?_) (fun h => ?_) | simp (config := { maxSteps := 1000000 }) (disch := first | assumption | omega | (simp; done) | fail) [Tryd.results5, *]))
  refine WC.mono (Parse_w s _ _ (H00.out 0 _ rfl) (H00.out 1 _ rfl) (H00.out 2 _ rfl) (H00.out 3 _ rfl) (by omega)) ?_
  rw [hpm]
  rintro _ ⟨ds, g3, n3, rfl, hn3, hg3, hfr⟩
  have hrep3 := hfr.rep
  obtain ⟨k3, q3, sv3, hcz, h1c3, hop3⟩ := repN_one hrep3
  subst hcz
  have h1p : allOne [.lit (.int .u8 ret.1.op), .lit (.int .i64 k3), .lit (.int .i64 q3), sv3] = true := by simp [h1c3]
  have HB3 : Hide (∀ i y, blks0[i]? = some y → g3 i = some y) := ⟨fun i y hy => by
    have := H8.out i y hy
    rw [hg3 i (by omega)]
    try simp (disch := omega) only [gput_lt]
    exact H00.out i y hy⟩
  have HR3 := Hide.mk hrep3
  clear hfr hg3 hrep3
  by_cases h200 : 200 < s.size
  · have h200I : (200 : Int) < (s.size : Int) := by omega
    iterate 8 (all_goals try (first | with_reducible refine splitI (fun h => ?_) (fun h => ?_) | with_reducible refine splitBI (fun h => ?_) (fun h => ?_) | simp (config := { maxSteps := 1000000 }) (disch := first | assumption | omega | (simp; done) | fail) [Tryd.results5, *]))
    refine WC.mono (own_w (callF_ok (noO_ok _ _) hG 10000) rfl rfl HL.out _ (holds_of fun i y hy => ?_)) ?_
    · have h8 := H8.out i y hy
      have hgi := HB3.out i y hy
      show gput _ _ _ _ = _
      simp (disch := omega) only [gput_lt]
      exact hgi
    rintro _ rfl
    iterate 8 (all_goals try (first | with_reducible refine splitI (fun h => ?_) (fun h => ?_) | with_reducible refine splitBI (fun h => ?_) (fun h => ?_) | simp (config := { maxSteps := 1000000 }) (disch := first | assumption | omega | (simp; done) | fail) [Tryd.results5, *]))
  have h200I : ¬(200 : Int) < (s.size : Int) := by omega
  iterate 8 (all_goals try (first | with_reducible refine splitI (fun h => ?_) (fun h => ?_) | with_reducible refine splitBI (fun h => ?_) (fun h => ?_) | simp (config := { maxSteps := 1000000 }) (disch := first | assumption | omega | (simp; done) | fail) [Tryd.results5, *]))
  refine WC.mono (rParse_w s hs _ _) ?_
  rw [hpm]
  rintro _ ⟨es, g4, n4, rfl, hn4, hg4, hfr4⟩
  have hrep4 := hfr4.rep
  obtain ⟨k4, q4, sv4, hcy, h1c4, hop4⟩ := repN_one hrep4
  subst hcy
  have h1q : allOne [.lit (.int .u8 ret.1.op), .lit (.int .i64 k4), .lit (.int .i64 q4), sv4] = true := by simp [h1c4]
  have HB4 : Hide (∀ i y, blks0[i]? = some y → g4 i = some y) := ⟨fun i y hy => by
    have := H8.out i y hy
    rw [hg4 i (by omega)]
    try simp (disch := omega) only [gput_lt]
    exact HB3.out i y hy⟩
  have HR4 := Hide.mk hrep4
  have HR5 : Hide (repN g4 n4 ret.1 [.lit (.int .u8 ret.1.op), .lit (.int .i64 k3), .lit (.int .i64 q3), sv3]) := ⟨repN_mono (by omega) (fun a ha => by rw [hg4 a (by omega)]; try simp (disch := omega) only [gput_lt]) HR3.out⟩
  have e3 : g4 n3 = some (.cells [.lit (.int .u8 ret.1.op), .lit (.int .i64 k3), .lit (.int .i64 q3), sv3] true 0) := by rw [hg4 n3 (by omega)]; simp (disch := omega) only [gput_lt, gput_eq]
  have hn34 : ¬n3 = n4 := by omega
  clear hfr4 hg4 hrep4
  iterate 8 (all_goals try (first | with_reducible refine splitI (fun h => ?_) (fun h => ?_) | with_reducible refine splitBI (fun h => ?_) (fun h => ?_) | simp (config := { maxSteps := 1000000 }) (disch := first | assumption | omega | (simp; done) | fail) [Tryd.results5, *]))
  refine WC.mono (rsame_w 1000000 (Nat.le_refl _) ret.1 (by omega) _ _ _ _ (repN_mono (by omega) (fun a ha => (by simp (disch := omega) only [gput_lt])) HR5.out) (repN_mono (by omega) (fun a ha => (by simp (disch := omega) only [gput_lt])) HR4.out)) ?_
  rintro _ rfl
  by_cases h0 : ret.2.2 = 0
  · have HT : Hide (RTxt 1000000) := ⟨rText_w 1000000 (Nat.le_refl _)⟩
    iterate 8 (all_goals try (first | with_reducible refine splitI (fun h => ?_) (fun h => ?_) | with_reducible refine splitBI (fun h => ?_) (fun h => ?_) | simp (config := { maxSteps := 1000000 }) (disch := first | assumption | omega | (simp; done) | fail) [Tryd.results5, *]))
    refine WC.mono (Text_yes ret.1 (by omega) HG.out.1 HG.out.2 _ _ _ (by simp (disch := omega) only [gput_lt]; exact HB4.out 0 _ rfl) (by simp (disch := omega) only [gput_lt]; exact HB4.out 1 _ rfl) (by omega) (repN_mono (by omega) (fun a ha => (by simp (disch := omega) only [gput_lt])) HR5.out)) ?_
    rintro _ ⟨g5, n5, rfl, hn5, hg5⟩
    have HG5 := Hide.mk hg5
    have e5 : g5 n3 = some (.cells [.lit (.int .u8 ret.1.op), .lit (.int .i64 k3), .lit (.int .i64 q3), sv3] true 0) := by rw [hg5 n3 (by omega), gput_lt (by omega)]; exact e3
    clear hg5
    iterate 8 (all_goals try (first | with_reducible refine splitI (fun h => ?_) (fun h => ?_) | with_reducible refine splitBI (fun h => ?_) (fun h => ?_) | simp (config := { maxSteps := 1000000 }) (disch := first | assumption | omega | (simp; done) | fail) [Tryd.results5, *]))
    refine WC.mono (HT.out ret.1 (by omega) HG.out.1 _ _ _ (by omega) (repN_mono (b := n4) (by omega) (fun a ha => ?_) HR5.out)) ?_
    · first
      | rw [HG5.out a (by omega)]; simp (disch := omega) only [gput_lt]
      | simp (disch := omega) only [gput_lt]; rw [HG5.out a (by omega)]; try simp (disch := omega) only [gput_lt]
    rintro _ rfl
    generalize textM ret.1 = tx at *
    iterate 8 (all_goals try (first | with_reducible refine splitI (fun h => ?_) (fun h => ?_) | with_reducible refine splitBI (fun h => ?_) (fun h => ?_) | simp (config := { maxSteps := 1000000 }) (disch := first | assumption | omega | (simp; done) | fail) [Tryd.results5, *]))
    refine WC.mono (own_w (callF_ok (noO_ok _ _) hG 10000) rfl rfl HL.out _ (holds_of fun i y hy => ?_)) ?_
    · have h8 := H8.out i y hy
      have hgi := HB4.out i y hy
      show g5 i = _
      rw [HG5.out i (by omega)]
      simp (disch := omega) only [gput_lt]
      exact hgi
    rintro _ rfl
    iterate 8 (all_goals try (first | with_reducible refine splitI (fun h => ?_) (fun h => ?_) | with_reducible refine splitBI (fun h => ?_) (fun h => ?_) | simp (config := { maxSteps := 1000000 }) (disch := first | assumption | omega | (simp; done) | fail) [Tryd.results5, *]))
  · iterate 8 (all_goals try (first | with_reducible refine splitI (fun h => ?_) (fun h => ?_) | with_reducible refine splitBI (fun h => ?_) (fun h => ?_) | simp (config := { maxSteps := 1000000 }) (disch := first | assumption | omega | (simp; done) | fail) [Tryd.results5, *]))
    refine WC.mono (own_w (callF_ok (noO_ok _ _) hG 10000) rfl rfl HL.out _ (holds_of fun i y hy => ?_)) ?_
    · have h8 := H8.out i y hy
      have hgi := HB4.out i y hy
      show gput _ _ _ _ = _
      simp (disch := omega) only [gput_lt]
      exact hgi
    rintro _ rfl
    iterate 8 (all_goals try (first | with_reducible refine splitI (fun h => ?_) (fun h => ?_) | with_reducible refine splitBI (fun h => ?_) (fun h => ?_) | simp (config := { maxSteps := 1000000 }) (disch := first | assumption | omega | (simp; done) | fail) [Tryd.results5, *]))
end Go.Ai
end

section
namespace Go.Proofs.YtfllomlghjolpaaDoor
open Go Go.Ai Go.ChangeShapes Go.WideShapes Go.ChangeAt Go.RowKit
theorem own : ownKnob Tryd.prog.godebug = none := by kernel_rfl
theorem laidOut : laidOutB Tryd.prog = true := by kernel_rfl
theorem door_met (os : Os) (args : Array Value) : laidMetH Tryd.prog Rows.formulasKnownRow.laid ((World.doorLaid Tryd.prog 200 os).forCall (fun _ _ => 0) ⟨#[], args, []⟩).memory :=
  laidMetH_of_parts3 (fuel := 8) (laidMet_of_run' 8 (by kernel_rfl) (by kernel_rfl)) (by kernel_rfl) (by kernel_rfl)
theorem kinds : (Rows.formulasKnownRow.laid.all fun x => x.2.handleName?.isNone || x.2.funcsIn?.isSome) = true := by kernel_rfl
end Go.Proofs.YtfllomlghjolpaaDoor
end

section
namespace Go.Ai
open Go.Proofs Go.ChangeShapes Go.WideShapes Go.ChangeAt Go.RowKit
set_option maxRecDepth 10000
variable {H : Type} {enc : TypeId × Value → H} {w : World} {base : Nat}
theorem h0_get (i : Nat) (x : Blk) (hx : blks0[i]? = some x) : H0.get i = some x := by
  have h9 := holds_spec (H := H0) (l := blks0) (i := 0) (by kernel_rfl) i x hx
  rwa [Nat.zero_add] at h9
theorem calls_P (hl : retIs (.lit (.bool true)) (callF Tryd.prog noO 10000 14 [] H0) = true) {W : World} {v0 : Value} {d0 : DataW H} {p0 : List MemPlace} {base : Nat} (hL : laidMetH Tryd.prog YtfllomlghjolpaaDoor.Rows.formulasKnownRow.laid W)
    (h0 : DataW.Trod enc Tryd.prog W 0 (fun _ => true) true 9 v0 d0 p0) (k0 : Value.okWide Tryd.prog W .any base 9 v0) :
    Calls Tryd.prog 5 #[v0] W fun e W' => e = .returned (.bool true) ∧ Below W.heap.size W W' := by
  obtain ⟨fuel, h0⟩ := h0
  obtain ⟨t, e0, _, _⟩ := DataW.trod_string Tryd.underlying9 h0
  have c0 : v0.cells.toList = [v0] := okWide_cells k0 (by intro fs; rw [Tryd.underlying9]; simp) (by intro n e; rw [Tryd.underlying9]; simp)
  have hv : v0 = .string t := by
    rw [c0] at e0
    cases e0; rfl
  subst hv
  obtain ⟨ρ, s, hno⟩ := start_sound hL YtfllomlghjolpaaDoor.kinds lay0
  have s' : Sim W.heap.size 6 ρ ⟨.fn H0.get, 8⟩ W := by rw [← hG] at s; exact s.toFn
  have hw := formulasParse_w hl t H0.get 8 h0_get (by omega)
  refine (hw W.heap.size ρ #[.string t] W s' ?_).mono ?_
  · exact ⟨_, _, rfl, rfl, rfl⟩
  · rintro e W' ⟨r, ⟨H', rfl⟩, hcp⟩
    cases e with
    | returned u => obtain ⟨ρ', q1, q2, q3, q4⟩ := hcp; exact ⟨congrArg _ q3, q1.below⟩
    | _ => exact hcp.elim
end Go.Ai
end

section
namespace Go.Proofs.YtfllomlghjolpaaDoor
open Go Go.Ai Go.ChangeShapes Go.WideShapes Go.ChangeAt Go.RowKit
theorem readsP (os : Os) {H : Type} (enc : TypeId × Value → H) : ∃ places, DataW.whole enc Tryd.prog ((World.doorLaid Tryd.prog 200 os).forCall (fun _ _ => 0) ⟨#[], #[.string ⟨#[]⟩], []⟩).memory Tryd.f5.params.toList Rows.formulasParseSpec.vars false (#[.string ⟨#[]⟩] : Array Value).toList 8 = some ([.lit (.string [])], [], places) :=
  ⟨[], by kernel_rfl⟩
theorem door_metP (os : Os) (args : Array Value) : laidMetH Tryd.prog Rows.formulasParseRow.laid ((World.doorLaid Tryd.prog 200 os).forCall (fun _ _ => 0) ⟨#[], args, []⟩).memory := door_met os args
set_option maxRecDepth 100000 in
theorem liftedP (hl : retIs (.lit (.bool true)) (callF Tryd.prog noO 10000 14 [] H0) = true) (os : Os) (started : os.Started) (H : Type) (enc : TypeId × Value → H) (F : Stop.Interp) :
    ReturnsInHanded {} Tryd.checked os 5 .any ((OpenSpec.ofChange Rows.formulasParseSpec).preRow enc Tryd.prog Tryd.f5 Rows.formulasParseRow.domain false Rows.formulasParseRow.laid) (((OpenSpec.ofChange Rows.formulasParseSpec).at F).post enc Tryd.prog Tryd.f5 false true false false) := by
  obtain ⟨places, hx⟩ := readsP os enc
  refine returnsInHanded_of_row (C := Tryd.checked) (s := OpenSpec.ofChange Rows.formulasParseSpec) own started (by kernel_rfl) Tryd.func5
    (witness_row_at (enc := enc) (C := Tryd.checked) false (World.doorLaid Tryd.prog 200 os) #[.string ⟨#[]⟩] rfl (by kernel_rfl) (by kernel_rfl) (by kernel_rfl)
      (OpenSpec.preRow_of_cond 8 hx (by kernel_rfl) (fun k hk => by cases hk) (by kernel_rfl) (door_metP os _))) ?_
  intro W base args ds gs before hval0 hW _ _ _ hL _ _
  have hval : ∀ (j : Nat) t v, Tryd.f5.params[j]? = some t → args[j]? = some v → Value.okWide Tryd.prog W .any base t v := hval0
  have hW' := hW
  obtain ⟨p, q, hA0, hV, rfl, hfz, hnd⟩ := hW
  have hA : DataW.TrodAll enc Tryd.prog W 0 (fun _ => true) true Tryd.f5.params.toList args.toList ds p := hA0
  rw [Tryd.params5] at hA hval
  obtain ⟨v0, d0, rfl, rfl, h0⟩ := trodAll_one hA
  obtain ⟨rfl, rfl⟩ := trodVars_none hV
  clear hA0
  have hlt : ∀ x ∈ p, x.block < W.heap.size := fun x hx => by
    have := hW'.lt x (by simpa using hx)
    exact this
  refine (calls_P (enc := enc) hl hL h0 (hval 0 9 v0 rfl rfl)).mono fun e W' ⟨he, hB⟩ => ?_
  subst he
  simp only [List.append_nil] at hW'
  refine ⟨_, rfl, post_below (pa := p) (pv := []) hW' (fun _ _ _ => trodAll_cons_mk (shut_bool Tryd.underlying4 _) trodAll_mk0) (fun sp hsp => ?_) (fun _ _ => rfl) (by simp) hB (ok_one (by kernel_rfl) rfl (okWide_bool_mk Tryd.underlying4 _))⟩
  have g0 := WideElems.Trod_stays (sp' := sp) laidOut (by kernel_rfl) (of_decide_eq_true (by kernel_rfl)) h0 (fun x hx => hB.same (hlt x hx)) (fun x hx => hsp x hx)
  exact trodAll_mk1 g0
theorem saidP (hl : retIs (.lit (.bool true)) (callF Tryd.prog noO 10000 14 [] H0) = true) : Rows.FormulasParseSaid :=
  OpenClaim.holds_of_cond 5 Tryd.f5 rfl rfl rfl rfl rfl rfl rfl ⟨rfl, rfl, rfl, rfl, rfl⟩ rfl rfl rfl rfl rfl (by kernel_rfl) Tryd.func5 (by kernel_rfl)
    (of_decide_eq_true (by kernel_rfl)) (by unfold Func.isWrapper; first | (rw [if_pos (by decide +kernel)]; kernel_rfl) | (rw [if_neg (by decide +kernel)]; exact ⟨rfl, rfl⟩))
    (fun os started H enc _ F => by rw [OpenClaim.pre_eq_preRow]; exact liftedP hl os started H enc F)
theorem plainP (f : FuncId) (fn : Func) (hf : Tryd.pinned.checked.prog.funcNamed "gauntlet/gauntletlaw33.FormulasParse" = some f) (hfn : Tryd.pinned.checked.prog.funcs[f]? = some fn) :
    true = Tryd.pinned.checked.prog.looks [] ∧ ∀ (j : Nat) t, fn.params[j]? = some t → Tryd.pinned.checked.prog.wantsStandIn t = false := by
  obtain rfl : f = 5 := Option.some.inj ((show Tryd.prog.funcNamed "gauntlet/gauntletlaw33.FormulasParse" = some 5 by kernel_rfl).symm.trans hf) |>.symm
  obtain rfl : fn = Tryd.f5 := (Option.some.inj (Tryd.func5.symm.trans hfn)).symm
  refine ⟨by kernel_rfl, fun j t ht => ?_⟩
  rw [Tryd.params5] at ht
  have hm : t ∈ [9] := by simpa using Array.mem_of_getElem? ht
  have hall : ([9].all fun u => !Tryd.prog.wantsStandIn u) = true := by kernel_rfl
  exact (show Tryd.prog.wantsStandIn t = false by simpa using List.all_eq_true.1 hall t hm)
theorem cardP (hl : retIs (.lit (.bool true)) (callF Tryd.prog noO 10000 14 [] H0) = true) : Rows.FormulasParseCardSaid :=
  Claim7.holds_tied_plain_at .later [] _ _ _ _ (saidP hl) (fun _ h => by cases h) (by kernel_rfl) (fun _ h => by cases h) formulasParse_row_tie rfl ⟨rfl, rfl⟩ (by kernel_rfl) rfl plainP (by kernel_rfl)
end Go.Proofs.YtfllomlghjolpaaDoor
end
