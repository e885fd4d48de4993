/- A small verified interpreter over names, its proofs, and what was proved with it. No condition. -/
import Derived.Test.YtfhkfifjbgcpiaaDoorC2
set_option linter.all false
set_option linter.deprecated false
section
namespace Go.Ai
open Go.Proofs
set_option maxRecDepth 10000
set_option maxHeartbeats 4000000
def s45 : List AV → Mem → COut | [.lit (.bool b)], H => .ret (.lit (.int .i64 (truthM b))) H | _, _ => .bad
theorem s45_eq {b : Bool} {H : Mem} : s45 [.lit (.bool b)] H = .ret (.lit (.int .i64 (truthM b))) H := rfl
attribute [simp] s45_eq
theorem one_w (b : Bool) (H : Mem) : WC 6 Tryd.prog 45 [.lit (.bool b)] H fun r => r = .ret (.lit (.int .i64 (truthM b))) H := by
  refine WC.enter hG6 (noO_ok _ _) (orW_ok (noO_ok _ _)) Tryd.func45 rfl (by decide +kernel) (Nat.le_of_ble_eq_true (by kernel_rfl)) ?_
  cases b
  all_goals repeat' (first | with_reducible refine splitI (fun h => ?_) (fun h => ?_) | with_reducible refine splitBI (fun h => ?_) (fun h => ?_) | simp [Tryd.results45, truthM, *])
noncomputable def O17 : CallF := addO 45 s45 noO
theorem O17_ok : ∀ B, CallOK B 6 Tryd.prog O17 := by
  refine addO_ok ?_ (noO_ok _ _)
  intro a H h
  unfold s45 at h ⊢
  split at h
  · exact one_w _ _
  · exact absurd rfl h
theorem min_truth {a b : Bool} : (if truthM b < truthM a then truthM b else truthM a) = truthM (a && b) := by cases a <;> cases b <;> rfl
theorem min_truth1 {b : Bool} : (if truthM b < 1 then truthM b else 1) = truthM b := by cases b <;> rfl
theorem truth_zero {b : Bool} : (truthM b = 0) = (b = false) := by cases b <;> simp [truthM]
theorem truth_true : truthM true = 1 := rfl
theorem truth_false : truthM false = 0 := rfl
attribute [simp] min_truth min_truth1 truth_zero truth_true truth_false
def rdoM (op : Nat) (a b : Int) : Int := match op with
  | 2 => w64 (-a)
  | 3 => w64 (a + b)
  | 4 => w64 (a - b)
  | 5 => w64 (a * b)
  | 6 => truthM (decide (a = b))
  | 7 => truthM (decide (a < b))
  | 8 => truthM (decide (a ≤ b))
  | 9 => truthM (decide (a = 0))
  | 10 => truthM (decide (a = 1) && decide (b = 1))
  | _ => truthM (decide (a = 1) || decide (b = 1))
mutual
/-- The reference's value of an expression; whether it is defined. -/
def rEvalM (vals : List Int) : NodeM → Int × Bool
  | .mk op k subs => outM ((rEvalL vals subs).all (·.2)) (if op = 0 then k else if op = 1 then vals.getD k.toNat 0 else rdoM op (argM (rEvalL vals subs) 0) (argM (rEvalL vals subs) 1))
def rEvalL (vals : List Int) : List NodeM → List (Int × Bool)
  | [] => []
  | x :: l => rEvalM vals x :: rEvalL vals l
end
theorem subs0 (op : Nat) (h : op < 2) : (rowAt op).subs = 0 := by
  have hop : op = 0 ∨ op = 1 := by omega
  rcases hop with rfl | rfl <;> rfl
theorem subs1 (op : Nat) (h2 : 2 ≤ op) (h12 : op < 12) (h : (rowAt op).subs = 1) : op = 2 ∨ op = 9 := by
  have h' : ([2, 3, 4, 5, 6, 7, 8, 9, 10, 11].all fun op => !decide ((rowAt op).subs = 1) || (decide (op = 2) || decide (op = 9))) = true := by decide
  have := List.all_eq_true.1 h' op (by simp; omega)
  simpa [h] using this
theorem subs2 (op : Nat) (h2 : 2 ≤ op) (h12 : op < 12) (h : (rowAt op).subs = 2) : op = 3 ∨ op = 4 ∨ op = 5 ∨ op = 6 ∨ op = 7 ∨ op = 8 ∨ op = 10 ∨ op = 11 := by
  have hop : op = 2 ∨ op = 3 ∨ op = 4 ∨ op = 5 ∨ op = 6 ∨ op = 7 ∨ op = 8 ∨ op = 9 ∨ op = 10 ∨ op = 11 := by omega
  rcases hop with rfl | rfl | rfl | rfl | rfl | rfl | rfl | rfl | rfl | rfl <;> first | omega | (exact absurd h (by decide))
theorem rEval_w : ∀ (m : Nat), m ≤ 1000000 → ∀ (x : NodeM), sizeN x ≤ m → ∀ (g : Nat → Option Blk) (n : Nat) (cs : List AV) (tv : AV) (vals : List Int), 0 < n → repN g n x cs → SliceV g n tv vals.length (intCells vals) → vals.length ≤ 1000000 →
    shapedM vals.length x = true →
    WC 6 Tryd.prog 24 [.agg cs, tv] ⟨.fn g, n⟩ fun r => r = .ret (.tup [.lit (.int .i64 (rEvalM vals x).1), .lit (.int .i64 (truthM (rEvalM vals x).2))]) ⟨.fn g, n⟩ := by
  intro m
  induction m with
  | zero => intro _ x hx; cases x; unfold sizeN at hx; omega
  | succ m ihm =>
    intro hm x hx g n cs tv vals hn hr htv hl hsh
    have IH := Hide.mk ihm
    clear ihm
    refine WC.drop1 rfl ?_
    cases x with
    | mk op q subs =>
      generalize hret : rEvalM vals (.mk op q subs) = ret
      have HRET := Hide.mk hret
      clear hret
      simp only [shapedM, Bool.and_eq_true, decide_eq_true_eq] at hsh
      obtain ⟨h12, hsubs, hq0, hq1, hshl⟩ := hsh
      obtain ⟨kq, rfl⟩ := Int.eq_ofNat_of_zero_le hq0
      have h3 := most_iff.1 hq1
      obtain ⟨hop, sv, rfl, hsv⟩ := hr
      have h1c : oneC sv = true := by rcases hsv with ⟨_, rfl | rfl⟩ | ⟨a, off, r, _, ⟨c, rfl⟩ | ⟨c, rfl⟩, _⟩ <;> rfl
      have h1a : allOne [.lit (.int .u8 op), .lit (.int .i64 kq), sv] = true := by simp [h1c]
      have HTV := Hide.mk htv
      have hsz : sizeL subs ≤ m := by unfold sizeN at hx; omega
      by_cases h2 : op < 2
      · have hz : subs = [] := List.length_eq_zero_iff.1 (by have := subs0 op h2; omega)
        subst hz
        have hv : ret = outM true (if op = 0 then (kq : Int) else if op = 1 then vals.getD kq 0 else rdoM op 0 0) := by rw [← HRET.out]; simp [rEvalM, rEvalL, argM]
        have hop01 : op = 0 ∨ op = 1 := by omega
        rcases hop01 with rfl | rfl
        · have HV2 : Hide (ret = outM true (kq : Int)) := ⟨by rw [hv, if_pos rfl]⟩
          clear hv hsubs h3 hq1 hq0 hop htv hshl h2 h12
          rcases hsv with ⟨_, rfl | rfl⟩ | ⟨a, off, r, _, ⟨c, rfl⟩ | ⟨c, rfl⟩, _⟩
          all_goals
            refine WC.enterP O17_ok hG6 [] Tryd.func24 rfl (by decide +kernel) (Nat.le_of_ble_eq_true (by kernel_rfl)) ?_
            iterate 14 (all_goals try (first | with_reducible refine splitI (fun h => ?_) (fun h => ?_) | with_reducible refine splitBI (fun h => ?_) (fun h => ?_) | simp (disch := first | assumption | omega | (simp; done) | fail) [Tryd.results24, O17, *]))
          all_goals
            have e := HV2.out
            try (rename (!b2) = true => hq; simp only [Bool.not_eq_true'] at hq)
            try (rename (!b2) = false => hq; simp only [Bool.not_eq_false'] at hq)
            try simp [rdoM, w64, *] at e
            first
            | (exfalso; omega)
            | (refine ⟨_, ⟨⟨?_, ?_⟩, rfl⟩, ⟨by dsimp only; omega, fun b hb => ?_⟩⟩
               · rw [e]; unfold outM; split
                 · rename_i hh; first | rfl | (exfalso; omega) | (exfalso; simp [*] at hh <;> omega)
                 · rename_i hh; first | rfl | (exfalso; omega) | (exfalso; apply hh; simp [*] <;> omega)
               · rw [e]; unfold outM; split
                 · rename_i hh; first | rfl | (exfalso; omega) | (exfalso; simp [*] at hh <;> omega)
                 · rename_i hh; first | rfl | (exfalso; omega) | (exfalso; apply hh; simp [*] <;> omega)
               · have hb' : b < n := hb
                 show gput _ _ _ _ = _
                 simp (disch := omega) only [gput_lt]
                 try rfl)
        · have hkl : kq < vals.length := by omega
          have HV2 : Hide (ret = outM true vals[kq]) := ⟨by rw [hv, if_neg (by omega), if_pos rfl]; simp [hkl]⟩
          rcases htv with ⟨kl0, _⟩ | ⟨b, off2, hb, htv, hr2⟩
          · omega
          have hint := hr2.one (k := kq) (s := 1) (by simp only [intCells, List.length_map]; exact hkl)
          have hintv : (intCells vals)[kq]'(by simp only [intCells, List.length_map]; exact hkl) = .lit (.int .i64 vals[kq]) := by simp [intCells]
          rw [hintv] at hint
          generalize vals[kq] = w at hint HV2
          clear hv hsubs h3 hq1 hq0 hop hshl h2 h12 hr2 hintv
          rcases htv with ⟨c2, rfl⟩ | ⟨c2, rfl⟩
          all_goals rcases hsv with ⟨_, rfl | rfl⟩ | ⟨a, off, r, _, ⟨c, rfl⟩ | ⟨c, rfl⟩, _⟩
          all_goals
            refine WC.enterP O17_ok hG6 [] Tryd.func24 rfl (by decide +kernel) (Nat.le_of_ble_eq_true (by kernel_rfl)) ?_
            iterate 14 (all_goals try (first | with_reducible refine splitI (fun h => ?_) (fun h => ?_) | with_reducible refine splitBI (fun h => ?_) (fun h => ?_) | simp (disch := first | assumption | omega | (simp; done) | fail) [Tryd.results24, O17, *]))
          all_goals
            have e := HV2.out
            try (rename (!b2) = true => hq; simp only [Bool.not_eq_true'] at hq)
            try (rename (!b2) = false => hq; simp only [Bool.not_eq_false'] at hq)
            try simp [rdoM, w64, *] at e
            first
            | (exfalso; omega)
            | (refine ⟨_, ⟨⟨?_, ?_⟩, rfl⟩, ⟨by dsimp only; omega, fun b hb => ?_⟩⟩
               · rw [e]; unfold outM; split
                 · rename_i hh; first | rfl | (exfalso; omega) | (exfalso; simp [*] at hh <;> omega)
                 · rename_i hh; first | rfl | (exfalso; omega) | (exfalso; apply hh; simp [*] <;> omega)
               · rw [e]; unfold outM; split
                 · rename_i hh; first | rfl | (exfalso; omega) | (exfalso; simp [*] at hh <;> omega)
                 · rename_i hh; first | rfl | (exfalso; omega) | (exfalso; apply hh; simp [*] <;> omega)
               · have hb' : b < n := hb
                 show gput _ _ _ _ = _
                 simp (disch := omega) only [gput_lt]
                 try rfl)
      have h2' : 2 ≤ op := by omega
      have hv : ret = outM ((rEvalL vals subs).all (·.2)) (rdoM op (argM (rEvalL vals subs) 0) (argM (rEvalL vals subs) 1)) := by rw [← HRET.out, rEvalM, if_neg (by omega), if_neg (by omega)]
      have HV := Hide.mk hv
      clear hv
      rcases hsv with ⟨hsub, _⟩ | ⟨a, off, r, han, hsl, hrow, hrep⟩
      · exfalso
        rcases subs12 op h2' h12 with hs1 | hs1 <;> (rw [hsub, hs1] at hsubs; simp at hsubs)
      rcases subs12 op h2' h12 with hs1 | hs1
      · have hone : subs.length = 1 := by omega
        have hops := subs1 op h2' h12 hs1
        obtain ⟨y, rfl⟩ := List.length_eq_one_iff.1 hone
        obtain ⟨c1, r1, rfl, hy1, hr1⟩ := hrep
        have hr1' : r1 = [] := hr1
        subst hr1'
        obtain ⟨op2, k2, sv2, hcy, h2c⟩ := repN_one hy1
        subst hcy
        have h2a : allOne [.lit (.int .u8 op2), .lit (.int .i64 k2), sv2] = true := by simp [h2c]
        have hrow1 := hrow.agg (k := 0) (s := 3) (by simp)
        simp only [Nat.add_zero, List.append_nil, List.drop_zero, List.take] at hrow1
        have hsy : shapedM vals.length y = true := by simp only [shapedL, Bool.and_eq_true] at hshl; exact hshl.1
        have HY := Hide.mk hy1
        have HSY := Hide.mk hsy
        clear hsubs h3 hq1 hq0 hop hshl hrow hy1 hsy hs1 htv h2 h2' hr1 h12
        have IHY : Hide (∀ (g' : Nat → Option Blk) (n' : Nat), 0 < n' → repN g' n' y [.lit (.int .u8 op2), .lit (.int .i64 k2), sv2] → SliceV g' n' tv vals.length (intCells vals) →
          WC 6 Tryd.prog 24 [.agg [.lit (.int .u8 op2), .lit (.int .i64 k2), sv2], tv] ⟨.fn g', n'⟩ fun r => r = .ret (.tup [.lit (.int .i64 (rEvalM vals y).1), .lit (.int .i64 (truthM (rEvalM vals y).2))]) ⟨.fn g', n'⟩) :=
          ⟨fun g' n' q2 q3 q4 => IH.out (by omega) y (by unfold sizeL at hsz; omega) g' n' _ tv vals q2 q3 q4 hl HSY.out⟩
        have HV2 : Hide (ret = outM ((rEvalM vals y).2 && true) (rdoM op (rEvalM vals y).1 0)) := ⟨by rw [HV.out]; simp [rEvalL, argM]⟩
        generalize rEvalM vals y = e1 at IHY HV2
        obtain ⟨v1, b1⟩ := e1
        rcases hsl with ⟨c, rfl⟩ | ⟨c, rfl⟩
        all_goals rcases hops with rfl | rfl
        all_goals
          refine WC.enterP O17_ok hG6 [] Tryd.func24 rfl (by decide +kernel) (Nat.le_of_ble_eq_true (by kernel_rfl)) ?_
          iterate 12 (all_goals try (first | with_reducible refine splitI (fun h => ?_) (fun h => ?_) | with_reducible refine splitBI (fun h => ?_) (fun h => ?_) | simp (disch := first | assumption | omega | (simp; done) | fail) [Tryd.results24, O17, *]))
          refine WC.mono (IHY.out _ _ (by omega) (repN_mono (by omega) (fun a ha => by simp (disch := omega) only [gput_lt]) HY.out) (HTV.out.mono (by omega) (fun a ha => by simp (disch := omega) only [gput_lt]))) ?_
          rintro _ rfl
          iterate 12 (all_goals try (first | with_reducible refine splitI (fun h => ?_) (fun h => ?_) | with_reducible refine splitBI (fun h => ?_) (fun h => ?_) | simp (disch := first | assumption | omega | (simp; done) | fail) [Tryd.results24, O17, *]))

          all_goals
            have e := HV2.out
            try (rename (!b2) = true => hq; simp only [Bool.not_eq_true'] at hq)
            try (rename (!b2) = false => hq; simp only [Bool.not_eq_false'] at hq)
            try simp [rdoM, w64, *] at e
            first
            | (exfalso; omega)
            | (refine ⟨_, ⟨⟨?_, ?_⟩, rfl⟩, ⟨by dsimp only; omega, fun b hb => ?_⟩⟩
               · rw [e]; unfold outM; split
                 · rename_i hh; first | rfl | (exfalso; omega) | (exfalso; simp [*] at hh <;> omega)
                 · rename_i hh; first | rfl | (exfalso; omega) | (exfalso; apply hh; simp [*] <;> omega)
               · rw [e]; unfold outM; split
                 · rename_i hh; first | rfl | (exfalso; omega) | (exfalso; simp [*] at hh <;> omega)
                 · rename_i hh; first | rfl | (exfalso; omega) | (exfalso; apply hh; simp [*] <;> omega)
               · have hb' : b < n := hb
                 show gput _ _ _ _ = _
                 simp (disch := omega) only [gput_lt]
                 try rfl)
      · have htwo : subs.length = 2 := by omega
        have hops := subs2 op h2' h12 hs1
        obtain ⟨y, z, rfl⟩ : ∃ y z, subs = [y, z] := by
          match subs, htwo with
          | [y, z], _ => exact ⟨y, z, rfl⟩
        obtain ⟨c1, r1, rfl, hy1, c2, r2, rfl, hz1, hr2⟩ := hrep
        have hr2' : r2 = [] := hr2
        subst hr2'
        obtain ⟨op2, k2, sv2, hcy, h2c⟩ := repN_one hy1
        subst hcy
        obtain ⟨op3, k3, sv3, hcz, h3c⟩ := repN_one hz1
        subst hcz
        have h2a : allOne [.lit (.int .u8 op2), .lit (.int .i64 k2), sv2] = true := by simp [h2c]
        have h3a : allOne [.lit (.int .u8 op3), .lit (.int .i64 k3), sv3] = true := by simp [h3c]
        have hrow1 := hrow.agg (k := 0) (s := 3) (by simp)
        have hrow2 := hrow.agg (k := 3) (s := 3) (by simp)
        simp only [Nat.add_zero, List.append_nil, List.drop_zero, List.take, List.cons_append, List.nil_append, List.drop_succ_cons] at hrow1 hrow2
        simp only [shapedL, Bool.and_eq_true] at hshl
        have hsy : shapedM vals.length y = true := hshl.1
        have hsz' : shapedM vals.length z = true := hshl.2.1
        have HY := Hide.mk hy1
        have HZ := Hide.mk hz1
        have HSY := Hide.mk hsy
        have HSZ := Hide.mk hsz'
        clear hsubs h3 hq1 hq0 hop hshl hrow hy1 hz1 hsy hsz' hs1 htv h2 h2' hr2 h12
        have IHY : Hide (∀ (g' : Nat → Option Blk) (n' : Nat), 0 < n' → repN g' n' y [.lit (.int .u8 op2), .lit (.int .i64 k2), sv2] → SliceV g' n' tv vals.length (intCells vals) →
          WC 6 Tryd.prog 24 [.agg [.lit (.int .u8 op2), .lit (.int .i64 k2), sv2], tv] ⟨.fn g', n'⟩ fun r => r = .ret (.tup [.lit (.int .i64 (rEvalM vals y).1), .lit (.int .i64 (truthM (rEvalM vals y).2))]) ⟨.fn g', n'⟩) :=
          ⟨fun g' n' q2 q3 q4 => IH.out (by omega) y (by unfold sizeL at hsz; omega) g' n' _ tv vals q2 q3 q4 hl HSY.out⟩
        have IHZ : Hide (∀ (g' : Nat → Option Blk) (n' : Nat), 0 < n' → repN g' n' z [.lit (.int .u8 op3), .lit (.int .i64 k3), sv3] → SliceV g' n' tv vals.length (intCells vals) →
          WC 6 Tryd.prog 24 [.agg [.lit (.int .u8 op3), .lit (.int .i64 k3), sv3], tv] ⟨.fn g', n'⟩ fun r => r = .ret (.tup [.lit (.int .i64 (rEvalM vals z).1), .lit (.int .i64 (truthM (rEvalM vals z).2))]) ⟨.fn g', n'⟩) :=
          ⟨fun g' n' q2 q3 q4 => IH.out (by omega) z (by unfold sizeL sizeL at hsz; omega) g' n' _ tv vals q2 q3 q4 hl HSZ.out⟩
        have HV2 : Hide (ret = outM ((rEvalM vals y).2 && (rEvalM vals z).2) (rdoM op (rEvalM vals y).1 (rEvalM vals z).1)) := ⟨by rw [HV.out]; simp [rEvalL, argM]⟩
        generalize rEvalM vals y = e1 at IHY HV2
        generalize rEvalM vals z = e2 at IHZ HV2
        obtain ⟨v1, b1⟩ := e1
        obtain ⟨v2, b2⟩ := e2
        rcases hsl with ⟨c, rfl⟩ | ⟨c, rfl⟩
        all_goals rcases hops with rfl | rfl | rfl | rfl | rfl | rfl | rfl | rfl
        all_goals
          refine WC.enterP O17_ok hG6 [] Tryd.func24 rfl (by decide +kernel) (Nat.le_of_ble_eq_true (by kernel_rfl)) ?_
          iterate 12 (all_goals try (first | with_reducible refine splitI (fun h => ?_) (fun h => ?_) | with_reducible refine splitBI (fun h => ?_) (fun h => ?_) | simp (disch := first | assumption | omega | (simp; done) | fail) [Tryd.results24, O17, *]))
          refine WC.mono (IHY.out _ _ (by omega) (repN_mono (by omega) (fun a ha => by simp (disch := omega) only [gput_lt]) HY.out) (HTV.out.mono (by omega) (fun a ha => by simp (disch := omega) only [gput_lt]))) ?_
          rintro _ rfl
          iterate 12 (all_goals try (first | with_reducible refine splitI (fun h => ?_) (fun h => ?_) | with_reducible refine splitBI (fun h => ?_) (fun h => ?_) | simp (disch := first | assumption | omega | (simp; done) | fail) [Tryd.results24, O17, *]))
          refine WC.mono (IHZ.out _ _ (by omega) (repN_mono (by omega) (fun a ha => by simp (disch := omega) only [gput_lt]) HZ.out) (HTV.out.mono (by omega) (fun a ha => by simp (disch := omega) only [gput_lt]))) ?_
          rintro _ rfl
          iterate 24 (all_goals try (first | with_reducible refine splitI (fun h => ?_) (fun h => ?_) | with_reducible refine splitBI (fun h => ?_) (fun h => ?_) | simp (disch := first | assumption | omega | (simp; done) | fail) [Tryd.results24, O17, *]))

          all_goals
            have e := HV2.out
            try (rename (!b2) = true => hq; simp only [Bool.not_eq_true'] at hq)
            try (rename (!b2) = false => hq; simp only [Bool.not_eq_false'] at hq)
            try simp [rdoM, w64, *] at e
            first
            | (exfalso; omega)
            | (refine ⟨_, ⟨⟨?_, ?_⟩, rfl⟩, ⟨by dsimp only; omega, fun b hb => ?_⟩⟩
               · rw [e]; unfold outM; split
                 · rename_i hh; first | rfl | (exfalso; omega) | (exfalso; simp [*] at hh <;> omega)
                 · rename_i hh; first | rfl | (exfalso; omega) | (exfalso; apply hh; simp [*] <;> omega)
               · rw [e]; unfold outM; split
                 · rename_i hh; first | rfl | (exfalso; omega) | (exfalso; simp [*] at hh <;> omega)
                 · rename_i hh; first | rfl | (exfalso; omega) | (exfalso; apply hh; simp [*] <;> omega)
               · have hb' : b < n := hb
                 show gput _ _ _ _ = _
                 simp (disch := omega) only [gput_lt]
                 try rfl)

end Go.Ai
end
