/- A small verified interpreter over names, its proofs, and what was proved with it. No condition. -/
import Derived.Test.YtfhkfifjbgcpiaaDoorC2
import Derived.Test.YtfhkfifjbgcpiaaDoorC6
import Derived.Test.YtfhkfifjbgcpiaaDoorD1
set_option linter.all false
set_option linter.deprecated false
section
namespace Go.Ai
open Go.Proofs
set_option maxRecDepth 10000
set_option maxHeartbeats 4000000
mutual
/-- How many nodes, up to some more than most. -/
def countM : NodeM → Int → Int
  | .mk _ _ subs, most => countL subs most 1
def countL : List NodeM → Int → Int → Int
  | [], _, n => n
  | x :: l, most, n => if n ≤ most then countL l most (n + countM x (most - n)) else n
end
mutual
theorem count_le : ∀ (x : NodeM) (most : Int), 1 ≤ countM x most ∧ countM x most ≤ sizeN x
  | .mk _ _ subs, most => by
    have := countL_le subs most 1
    unfold countM sizeN
    omega
theorem countL_le : ∀ (l : List NodeM) (most n : Int), n ≤ countL l most n ∧ countL l most n ≤ n + sizeL l
  | [], most, n => by simp [countL, sizeL]
  | x :: l, most, n => by
    have h1 := count_le x (most - n)
    have h2 := countL_le l most (n + countM x (most - n))
    unfold countL sizeL
    split <;> omega
end
mutual
theorem count_eq : ∀ (x : NodeM) (most : Int), countM x most ≤ most → countM x most = sizeN x
  | .mk _ _ subs, most, h => by
    unfold countM at h ⊢
    rw [countL_eq subs most 1 h]
    unfold sizeN
    omega
theorem countL_eq : ∀ (l : List NodeM) (most n : Int), countL l most n ≤ most → countL l most n = n + sizeL l
  | [], most, n, _ => by simp [countL, sizeL]
  | x :: l, most, n, h => by
    unfold countL at h ⊢
    split at h
    · rename_i hn
      rw [if_pos hn]
      have h1 := countL_le l most (n + countM x (most - n))
      have h2 := count_eq x (most - n) (by omega)
      have h3 := countL_eq l most (n + countM x (most - n)) h
      rw [h3, h2]
      show _ = n + ((sizeN x + sizeL l : Nat) : Int)
      omega
    · omega
end
theorem count_w : ∀ (m : Nat), m ≤ 1000000 → ∀ (x : NodeM), sizeN x ≤ m → ∀ (g : Nat → Option Blk) (n : Nat) (cs : List AV) (most : Int), 0 ≤ most → most ≤ 1000000 → repN g n x cs →
    WC 6 Tryd.prog 20 [.agg cs, .lit (.int .i64 most)] ⟨.fn g, n⟩ fun r => r = .ret (.lit (.int .i64 (countM x most))) ⟨.fn g, n⟩ := by
  intro m
  induction m with
  | zero => intro _ x hx; cases x; unfold sizeN at hx; omega
  | succ m ihm =>
    intro hm x hx g n cs most hm0 hm1 hr
    have IH := Hide.mk ihm
    clear ihm
    refine WC.drop1 rfl ?_
    cases x with
    | mk op q subs =>
      obtain ⟨hop, sv, rfl, hsv⟩ := hr
      generalize hret : countM (.mk op q subs) most = ret
      have HRET := Hide.mk hret
      clear hret
      have hsz : sizeL subs ≤ m := by unfold sizeN at hx; omega
      have hlen : subs.length ≤ 1000000 := Nat.le_trans (len_size subs) (by omega)
      obtain ⟨sv', hq⟩ : ∃ sv', Hide (sv' = sv) := ⟨_, ⟨rfl⟩⟩
      have HMO : Hide (ret = countL subs most 1) := ⟨by rw [← HRET.out, countM]⟩
      rcases hsv with ⟨hsub, rfl | rfl⟩ | ⟨a, off, r, han, ⟨c, rfl⟩ | ⟨c, rfl⟩, hrow, hrep⟩
      all_goals refine WC.enterP O9_ok hG6 [] Tryd.func20 rfl (by decide +kernel) (Nat.le_of_ble_eq_true (by kernel_rfl)) ?_
      all_goals
        iterate 12 (all_goals try (first | with_reducible refine splitI (fun h => ?_) (fun h => ?_) | with_reducible refine splitBI (fun h => ?_) (fun h => ?_) | simp (disch := first | assumption | omega | (simp; done) | fail) [Tryd.results20, O9, *]))
        refine LX.ind (fun m gf H' => ∃ (k n' : Nat) (g' : Nat → Option Blk) (cnt : Int), k ≤ subs.length ∧ m = subs.length - k ∧ H' = ⟨.fn g', n'⟩ ∧ n < n' ∧ (∀ b, b < n → g' b = g b) ∧ g' n = some (.cells [.lit (.int .u8 op), .lit (.int .i64 q), sv'] true 0) ∧
          gf 2 = some (.ptr n 0) ∧ gf 1 = some (.lit (.int .i64 most)) ∧ gf 5 = some (.lit (.int .i64 cnt)) ∧ gf 6 = some (.lit (.int .i64 k)) ∧ 1 ≤ cnt ∧ cnt + sizeL (subs.drop k) ≤ 1000001 ∧ ret = countL (subs.drop k) most cnt) (m0 := subs.length) ?_ ?_
        · exact ⟨0, n + 1, _, 1, Nat.zero_le _, rfl, rfl, by omega, fun b hb => gput_lt hb, by simp [hq.out], by simp, by simp, by simp, by simp, by omega, by rw [List.drop_zero]; omega, HMO.out⟩
        rintro m' gf H' ⟨k, n', g', cnt, hk, rfl, rfl, hn', hg', hgn, g2, g1, g5, g6, hc1, hc2, hc⟩ ih
        refine LX.roundP O9_ok hG6 [] (by decide +kernel) ?_
        rw [hq.out] at hgn
        have HG := Hide.mk hg'
        have HC := Hide.mk hc
        clear hg' hc
        by_cases hlt : k < subs.length
        · first
          | (exfalso; rw [hsub] at hlt; simp at hlt; done)
          | (have hy0 := repL_at hrep k hlt
             have hrl := repL_len hrep
             have hrow' := (hrow.mono (HG.out a han)).agg (k := k * 3) (s := 3) (by omega)
             have hdrop : subs.drop k = subs[k] :: subs.drop (k + 1) := List.drop_eq_getElem_cons hlt
             have hszy : sizeN subs[k] ≤ m := Nat.le_trans (size_mem (List.getElem_mem hlt)) hsz
             rw [hdrop] at hc2
             unfold sizeL at hc2
             generalize subs[k] = y at hy0 hdrop hszy hc2
             obtain ⟨k2, sv2, hcy, h1c, hop2⟩ := repN_op hy0
             rw [hcy] at hrow' hy0
             generalize hop3 : y.op = op2 at hcy hrow' hy0 hop2
             have h1a : allOne [.lit (.int .u8 op2), .lit (.int .i64 k2), sv2] = true := by simp [h1c]
             have HY := Hide.mk hy0
             have HD := Hide.mk hdrop
             have HR := Hide.mk hrep
             have HR2 := Hide.mk hrow
             have HO := Hide.mk hop3
             have HC2 := Hide.mk hc2
             have hcb : cnt ≤ 1000001 := by omega
             have hlt' : (k : Int) < (subs.length : Int) := by omega
             clear hy0 hdrop hrep hrow hcy hrl hop3 hc2
             by_cases hcm : cnt ≤ most
             · iterate 40 (all_goals try (first | with_reducible refine splitI (fun h => ?_) (fun h => ?_) | with_reducible refine splitBI (fun h => ?_) (fun h => ?_) | simp (disch := first | assumption | omega | (simp; done) | fail) [Tryd.results20, O9, *]))
               refine WC.mono (IH.out (by omega) y hszy _ _ _ (most - cnt) (by omega) (by omega) (repN_mono (b' := n') (by omega) (fun a ha => HG.out a ha) HY.out)) ?_
               rintro _ rfl
               have hcy := count_le y (most - cnt)
               have hcc := HC2.out
               generalize hcy2 : countM y (most - cnt) = cy at hcy
               have HCY := Hide.mk hcy2
               clear hcy2
               iterate 10 (all_goals try (first | with_reducible refine splitI (fun h => ?_) (fun h => ?_) | with_reducible refine splitBI (fun h => ?_) (fun h => ?_) | simp (disch := first | assumption | omega | (simp; done) | fail) [Tryd.results20, O9, *]))
               refine ih.out (subs.length - (k + 1)) _ _ (by omega) ⟨k + 1, n', _, cnt + cy, hlt, rfl, rfl, by omega, HG.out, by simp [*, hq.out], by simp [*], by simp [*], by simp [*], by simp [*], by omega, by omega, ?_⟩
               rw [HC.out, HD.out, countL, if_pos hcm, HCY.out]
             · iterate 40 (all_goals try (first | with_reducible refine splitI (fun h => ?_) (fun h => ?_) | with_reducible refine splitBI (fun h => ?_) (fun h => ?_) | simp (disch := first | assumption | omega | (simp; done) | fail) [Tryd.results20, O9, *]))
               exact ⟨_, ⟨by rw [HC.out, HD.out, countL, if_neg hcm], rfl⟩, ⟨Nat.le_of_lt hn', fun b hb => HG.out b hb⟩⟩)
        · have HDN := Hide.mk (List.drop_eq_nil_of_le (by omega) : subs.drop k = [])
          have hkn : k = subs.length := by omega
          subst hkn
          have hc3 : cnt ≤ 1000001 := by omega
          clear hc2
          first | clear hsub | clear hrep hrow
          iterate 10 (all_goals try (first | with_reducible refine splitI (fun h => ?_) (fun h => ?_) | with_reducible refine splitBI (fun h => ?_) (fun h => ?_) | simp (disch := first | assumption | omega | (simp; done) | fail) [Tryd.results20, O9, *]))
          all_goals first
            | (exfalso; omega)
            | exact ⟨_, ⟨by rw [HC.out, HDN.out, countL], rfl⟩, ⟨Nat.le_of_lt hn', fun b hb => HG.out b hb⟩⟩
end Go.Ai
end

section
namespace Go.Ai
open Go.Proofs
set_option maxRecDepth 10000
theorem eval_two {vals : List Int} {op : Nat} {a b : NodeM} (h : 2 ≤ op) : evalM vals (.mk op 0 [a, b]) = outM ((evalM vals a).2 && (evalM vals b).2) (doM op (evalM vals a).1 (evalM vals b).1) := by
  rw [evalM, if_neg (by omega), if_neg (by omega)]
  simp [evalL, argM]
theorem eval_one {vals : List Int} {op : Nat} {a : NodeM} (h : 2 ≤ op) : evalM vals (.mk op 0 [a]) = outM (evalM vals a).2 (doM op (evalM vals a).1 0) := by
  rw [evalM, if_neg (by omega), if_neg (by omega)]
  simp [evalL, argM]
theorem out_true {n : Int} (h : bitI n) : outM true n = (n, true) := by
  unfold outM; rw [if_pos]; rcases h with rfl | rfl <;> simp
theorem out_false {n : Int} : outM false n = (0, false) := by simp [outM]
def tsC (a b : NodeM) : List NodeM := [.mk 9 0 [.mk 10 0 [a, b]], .mk 11 0 [.mk 9 0 [a], .mk 9 0 [b]]]
def tsN (a b : NodeM) : List NodeM := [.mk 8 0 [a, b], .mk 11 0 [.mk 7 0 [a, b], .mk 6 0 [a, b]], .mk 7 0 [a, b], .mk 6 0 [a, b], .mk 7 0 [b, a]]
theorem law_cond {vals : List Int} {a b : NodeM} (ha : bitI (evalM vals a).1) (hb : bitI (evalM vals b).1) :
    (∃ v, bitI v ∧ (tsC a b).map (evalM vals) = [(v, true), (v, true)]) ∨ (tsC a b).map (evalM vals) = [(0, false), (0, false)] := by
  simp only [tsC, List.map, eval_one (vals := vals) (op := 9) (by omega), eval_two (vals := vals) (op := 10) (by omega), eval_two (vals := vals) (op := 11) (by omega)]
  generalize evalM vals a = p at ha
  generalize evalM vals b = q at hb
  obtain ⟨va, da⟩ := p
  obtain ⟨vb, db⟩ := q
  have ha' : va = 0 ∨ va = 1 := ha
  have hb' : vb = 0 ∨ vb = 1 := hb
  rcases ha' with rfl | rfl <;> rcases hb' with rfl | rfl <;> cases da <;> cases db
  all_goals first
    | (right; rfl)
    | (left; refine ⟨0, .inl rfl, ?_⟩; rfl)
    | (left; refine ⟨1, .inr rfl, ?_⟩; rfl)
theorem law_num {vals : List Int} {a b : NodeM} :
    (∃ v q r s, bitI v ∧ bitI q ∧ bitI r ∧ bitI s ∧ q + r + s = 1 ∧ (tsN a b).map (evalM vals) = [(v, true), (v, true), (q, true), (r, true), (s, true)]) ∨ (tsN a b).map (evalM vals) = [(0, false), (0, false), (0, false), (0, false), (0, false)] := by
  simp only [tsN, List.map, eval_two (vals := vals) (op := 6) (by omega), eval_two (vals := vals) (op := 7) (by omega), eval_two (vals := vals) (op := 8) (by omega), eval_two (vals := vals) (op := 11) (by omega)]
  generalize evalM vals a = p
  generalize evalM vals b = q
  obtain ⟨va, da⟩ := p
  obtain ⟨vb, db⟩ := q
  cases da <;> cases db
  · right; rfl
  · right; rfl
  · right; rfl
  · left
    refine ⟨truthM (decide (va ≤ vb)), truthM (decide (va < vb)), truthM (decide (va = vb)), truthM (decide (vb < va)), truth_bit _, truth_bit _, truth_bit _, truth_bit _, ?_, ?_⟩
    · by_cases h1 : va < vb
      · simp [h1, show ¬va = vb by omega, show ¬vb < va by omega, truthM]
      · by_cases h2 : va = vb
        · simp [h1, h2, truthM]
        · simp [h1, h2, show vb < va by omega, truthM]
    · have e8 : doM 8 va vb = truthM (decide (va ≤ vb)) := rfl
      have e7 : doM 7 va vb = truthM (decide (va < vb)) := rfl
      have e7' : doM 7 vb va = truthM (decide (vb < va)) := rfl
      have e6 : doM 6 va vb = truthM (decide (va = vb)) := rfl
      rw [e8, e7, e7', e6]
      simp only [Bool.and_self, out_true (truth_bit _)]
      have e11 : doM 11 (truthM (decide (va < vb))) (truthM (decide (va = vb))) = truthM (decide (va ≤ vb)) := by
        by_cases h1 : va < vb
        · simp [h1, show ¬va = vb by omega, show va ≤ vb by omega, truthM, doM]
        · by_cases h2 : va = vb
          · simp [h1, h2, truthM, doM]
          · simp [h1, h2, show ¬va ≤ vb by omega, truthM, doM]
      rw [e11, out_true (truth_bit _)]
theorem ok_law {a b : NodeM} {c : Bool} (ha : OkN c a) (hb : OkN c b) (hza : sizeN a ≤ 14) (hzb : sizeN b ≤ 14) : ∀ t ∈ (if c = true then tsC a b else tsN a b), shapedM 3 t = true ∧ typedM t = true ∧ sizeN t ≤ 64 := by
  intro t ht
  cases c
  · have t8 := ok_two (op := 8) (.inl ⟨by omega, by omega⟩) rfl ha hb
    have t7 := ok_two (op := 7) (.inl ⟨by omega, by omega⟩) rfl ha hb
    have t7' := ok_two (op := 7) (.inl ⟨by omega, by omega⟩) rfl hb ha
    have t6 := ok_two (op := 6) (.inl ⟨by omega, by omega⟩) rfl ha hb
    have t11 := ok_two (op := 11) (.inr (.inr rfl)) rfl t7 t6
    simp only [Bool.false_eq_true, if_false, tsN, List.mem_cons, List.not_mem_nil, or_false] at ht
    rcases ht with rfl | rfl | rfl | rfl | rfl
    · exact ⟨t8.sh, t8.ty, by simp only [sizeN, sizeL]; omega⟩
    · exact ⟨t11.sh, t11.ty, by simp only [sizeN, sizeL]; omega⟩
    · exact ⟨t7.sh, t7.ty, by simp only [sizeN, sizeL]; omega⟩
    · exact ⟨t6.sh, t6.ty, by simp only [sizeN, sizeL]; omega⟩
    · exact ⟨t7'.sh, t7'.ty, by simp only [sizeN, sizeL]; omega⟩
  · have t10 := ok_two (op := 10) (.inr (.inl rfl)) rfl ha hb
    have t9 := ok_one (op := 9) (.inr rfl) rfl t10
    have n1 := ok_one (op := 9) (.inr rfl) rfl ha
    have n2 := ok_one (op := 9) (.inr rfl) rfl hb
    have t11 := ok_two (op := 11) (.inr (.inr rfl)) rfl n1 n2
    simp only [if_true, tsC, List.mem_cons, List.not_mem_nil, or_false] at ht
    rcases ht with rfl | rfl
    · exact ⟨t9.sh, t9.ty, by simp only [sizeN, sizeL]; omega⟩
    · exact ⟨t11.sh, t11.ty, by simp only [sizeN, sizeL]; omega⟩
end Go.Ai
end

section
namespace Go.Ai
open Go.Proofs
set_option maxRecDepth 10000
set_option maxHeartbeats 40000000
theorem ofM_okN (codes : List Nat) (nums : List Int) (hn : ∀ k ∈ nums, -2147483648 ≤ k ∧ k ≤ 2147483647) : OkN (decide (6 ≤ (ofM codes nums).op)) (ofM codes nums) ∧ sizeN (ofM codes nums) ≤ 14 := by
  obtain ⟨h1, h2, h3⟩ := ofM_ok codes nums hn
  exact ⟨⟨h1, h2, rfl⟩, h3⟩
theorem LX.gen {G n : Nat} {P : Program} {b : Code} {ds : List Dfr} {Q : Out → Prop} {g0 : Nat → Option AV} {H0 : Mem} (I : (Nat → Option AV) → Mem → Prop) (h0 : I g0 H0) (h : ∀ g H, I g H → LX G P n b (.f g ds) H Q) : LX G P n b (.f g0 ds) H0 Q := h _ _ h0
theorem repL_cons3 {g : Nat → Option Blk} {b : Nat} {x : NodeM} {l : List NodeM} {u v w : AV} {rest : List AV} (h : repN g b x [u, v, w]) (h' : repL g b l rest) : repL g b (x :: l) (u :: v :: w :: rest) := ⟨[u, v, w], rest, rfl, h, h'⟩
theorem repL_nil {g : Nat → Option Blk} {b : Nat} : repL g b [] [] := rfl
theorem mkNode {g : Nat → Option Blk} {b S op k : Nat} {subs : List NodeM} {cs : List AV} {own : Bool} {z : Nat} (hS : g S = some (.cells cs own z)) (hlt : S < b) (hop : op < 256) (hl : subs.length = k) (h : repL g b subs cs) : repN g b (.mk op 0 subs) [.lit (.int .u8 op), .lit (.int .i64 0), .sl S 0 k k] := by
  subst hl
  exact ⟨hop, _, rfl, .inr ⟨S, 0, cs, hlt, .inl ⟨_, rfl⟩, row_of hS rfl, h⟩⟩
def cntD (l : List (Int × Bool)) : Int := ((l.filter (·.2)).length : Nat)
theorem cntD_succ {l : List (Int × Bool)} {i : Nat} (h : i < l.length) : cntD (l.take (i + 1)) = cntD (l.take i) + (if l[i].2 = true then 1 else 0) := by
  unfold cntD
  rw [List.take_succ_eq_append_getElem h, List.filter_append, List.length_append]
  cases hb : l[i].2 <;> simp [hb]
theorem cntD_le (l : List (Int × Bool)) : 0 ≤ cntD l ∧ cntD l ≤ l.length := by
  have := List.length_filter_le (·.2) l
  unfold cntD
  omega
theorem guardsLaws_w (hl : retIs (.lit (.bool true)) (callF Tryd.prog O5 10000 16 [] H0) = true) (codes1 : List Nat) (nums1 : List Int) (codes2 : List Nat) (nums2 : List Int) (a b c : Int) (g : Nat → Option Blk) (n : Nat) (cv1 nv1 cv2 nv2 : AV) (h0 : ∀ i x, blks0[i]? = some x → g i = some x) (hn : 8 ≤ n)
    (hc1 : SliceA g n cv1 codes1.length (u8Cells codes1)) (hcb1 : ∀ c ∈ codes1, c < 256) (hnv1 : SliceA g n nv1 nums1.length (i32Cells nums1)) (hnb1 : ∀ c ∈ nums1, -2147483648 ≤ c ∧ c ≤ 2147483647) (hl1 : oneC cv1 = true) (hl2 : oneC nv1 = true)
    (hc2 : SliceA g n cv2 codes2.length (u8Cells codes2)) (hcb2 : ∀ c ∈ codes2, c < 256) (hnv2 : SliceA g n nv2 nums2.length (i32Cells nums2)) (hnb2 : ∀ c ∈ nums2, -2147483648 ≤ c ∧ c ≤ 2147483647) (hl3 : oneC cv2 = true) (hl4 : oneC nv2 = true)
    (ha : -2147483648 ≤ a ∧ a ≤ 2147483647) (hb : -2147483648 ≤ b ∧ b ≤ 2147483647) (hcc : -2147483648 ≤ c ∧ c ≤ 2147483647) :
    WC 6 Tryd.prog 5 [.agg [cv1, nv1], .agg [cv2, nv2], .agg [.lit (.int .i32 a), .lit (.int .i32 b), .lit (.int .i32 c)]] ⟨.fn g, n⟩ fun r => ∃ H', r = .ret (.lit (.bool true)) H' := by
  have h1a : allOne [cv1, nv1] = true := by simp [hl1, hl2]
  have h1b : allOne [cv2, nv2] = true := by simp [hl3, hl4]
  have HC1 := Hide.mk hc1
  have HNV1 := Hide.mk hnv1
  have HCB1 := Hide.mk hcb1
  have HNB1 := Hide.mk hnb1
  have HC2 := Hide.mk hc2
  have HNV2 := Hide.mk hnv2
  have HCB2 := Hide.mk hcb2
  have HNB2 := Hide.mk hnb2
  have H00 := Hide.mk h0
  have HL := Hide.mk hl
  clear hc1 hnv1 hcb1 hnb1 hc2 hnv2 hcb2 hnb2 h0 hl
  refine WC.enterP (noO_ok _ _) hG6 pl5 Tryd.func5 rfl (by decide +kernel) (Nat.le_of_ble_eq_true (by kernel_rfl)) ?_
  iterate 6 (all_goals try (first | with_reducible refine splitI (fun h => ?_) (fun h => ?_) | with_reducible refine splitBI (fun h => ?_) (fun h => ?_) | simp (disch := first | assumption | omega | (simp; done) | fail) [Tryd.results5, *]))
  refine WC.mono (of_w2 codes1 nums1 _ _ cv1 nv1 (HC1.out.mono (by omega) (fun a ha => by simp (disch := omega) only [gput_lt])) HCB1.out (HNV1.out.mono (by omega) (fun a ha => by simp (disch := omega) only [gput_lt])) HNB1.out hl1 hl2) ?_
  rintro _ ⟨cs1, g1, n1, rfl, hn1, hg1, gk1, hgk1, hrep1⟩
  obtain ⟨hok1, hsz1⟩ := ofM_okN codes1 nums1 HNB1.out
  generalize ofM codes1 nums1 = x at hrep1 hok1 hsz1
  obtain ⟨k1, sv1, hcy1, h1c1, hop1⟩ := repN_op hrep1
  subst hcy1
  have h1x : allOne [.lit (.int .u8 x.op), .lit (.int .i64 k1), sv1] = true := by simp [h1c1]
  have HG1 : Hide (∀ i y, blks0[i]? = some y → g1 i = some y) := ⟨fun i y hy => by
    have h8 : i < 8 := (List.getElem?_eq_some_iff.1 hy).1
    rw [hg1 i (by omega)]
    simp (disch := omega) only [gput_lt]
    exact H00.out i y hy⟩
  have hp0 : g1 n = some (.cells [cv1, nv1] true 0) := by rw [hg1 n (by omega)]; simp (disch := omega) only [gput_lt, gput_eq, gput_ne]
  have hp1 : g1 (n + 1) = some (.cells [cv2, nv2] true 0) := by rw [hg1 (n + 1) (by omega)]; simp (disch := omega) only [gput_lt, gput_eq, gput_ne]
  have hp2 : g1 (n + 1 + 1) = some (.cells [.lit (.int .i32 a), .lit (.int .i32 b), .lit (.int .i32 c)] true 0) := by rw [hg1 (n + 1 + 1) (by omega)]; simp (disch := omega) only [gput_lt, gput_eq, gput_ne]
  have hp3 : g1 (n + 1 + 1 + 1) = some (.cells [.lit (.int .u8 0), .lit (.int .i64 0), .lit (.slice none 0 0)] true 0) := by rw [hg1 (n + 1 + 1 + 1) (by omega)]; simp (disch := omega) only [gput_lt, gput_eq, gput_ne]
  have hp4 : g1 (n + 1 + 1 + 1 + 1) = some (.cells [.lit (.int .u8 0), .lit (.int .i64 0), .lit (.slice none 0 0)] true 0) := by rw [hg1 (n + 1 + 1 + 1 + 1) (by omega)]; simp (disch := omega) only [gput_lt, gput_eq, gput_ne]
  have HC2b : Hide (SliceA g1 n1 cv2 codes2.length (u8Cells codes2)) := ⟨HC2.out.mono (by omega) (fun a ha => by rw [hg1 a (by omega)]; simp (disch := omega) only [gput_lt])⟩
  have HNV2b : Hide (SliceA g1 n1 nv2 nums2.length (i32Cells nums2)) := ⟨HNV2.out.mono (by omega) (fun a ha => by rw [hg1 a (by omega)]; simp (disch := omega) only [gput_lt])⟩
  have HREP1 := Hide.mk hrep1
  have HOK1 := Hide.mk hok1
  have HGK1 := Hide.mk hgk1
  clear hrep1 hg1 h1a hok1 hgk1
  iterate 10 (all_goals try (first | with_reducible refine splitI (fun h => ?_) (fun h => ?_) | with_reducible refine splitBI (fun h => ?_) (fun h => ?_) | simp (disch := first | assumption | omega | (simp; done) | fail) [Tryd.results5, *]))
  refine WC.mono (of_w2 codes2 nums2 _ _ cv2 nv2 HC2b.out HCB2.out HNV2b.out HNB2.out hl3 hl4) ?_
  rintro _ ⟨cs2, g2, n2, rfl, hn2, hg2, gk2, hgk2, hrep2⟩
  obtain ⟨hok2, hsz2⟩ := ofM_okN codes2 nums2 HNB2.out
  generalize ofM codes2 nums2 = y at hrep2 hok2 hsz2
  obtain ⟨k2, sv2, hcy2, h1c2, hop2⟩ := repN_op hrep2
  subst hcy2
  have h1y : allOne [.lit (.int .u8 y.op), .lit (.int .i64 k2), sv2] = true := by simp [h1c2]
  have HG2 : Hide (∀ i z, blks0[i]? = some z → g2 i = some z) := ⟨fun i z hz => by
    have h8 : i < 8 := (List.getElem?_eq_some_iff.1 hz).1
    rw [hg2 i (by omega)]
    exact HG1.out i z hz⟩
  have hq0 : g2 n = some (.cells [cv1, nv1] true 0) := by rw [hg2 n (by omega)]; exact hp0
  have hq1 : g2 (n + 1) = some (.cells [cv2, nv2] true 0) := by rw [hg2 (n + 1) (by omega)]; exact hp1
  have hq2 : g2 (n + 1 + 1) = some (.cells [.lit (.int .i32 a), .lit (.int .i32 b), .lit (.int .i32 c)] true 0) := by rw [hg2 (n + 1 + 1) (by omega)]; exact hp2
  have hq3 : g2 (n + 1 + 1 + 1) = some (.cells [.lit (.int .u8 0), .lit (.int .i64 0), .lit (.slice none 0 0)] true 0) := by rw [hg2 (n + 1 + 1 + 1) (by omega)]; exact hp3
  have hq4 : g2 (n + 1 + 1 + 1 + 1) = some (.cells [.lit (.int .u8 0), .lit (.int .i64 0), .lit (.slice none 0 0)] true 0) := by rw [hg2 (n + 1 + 1 + 1 + 1) (by omega)]; exact hp4
  have REPX : Hide (∀ (g3 : Nat → Option Blk) (n3 : Nat), n2 ≤ n3 → (∀ a, n + 1 + 1 + 1 + 1 + 1 ≤ a → a < n2 → g3 a = g2 a) → repN g3 n3 x [.lit (.int .u8 x.op), .lit (.int .i64 k1), sv1]) := ⟨fun g3 n3 hn3 hg3 => repN_ext (by omega) (fun q z hq hz => by
    obtain ⟨e1, e2, e3⟩ := HGK1.out q z hz
    rw [hg3 q e2 (by omega), hg2 q e3]; exact e1) HREP1.out⟩
  have REPY : Hide (∀ (g3 : Nat → Option Blk) (n3 : Nat), n2 ≤ n3 → (∀ a, n + 1 + 1 + 1 + 1 + 1 ≤ a → a < n2 → g3 a = g2 a) → repN g3 n3 y [.lit (.int .u8 y.op), .lit (.int .i64 k2), sv2]) := ⟨fun g3 n3 hn3 hg3 => repN_ext (by omega) (fun q z hq hz => by
    obtain ⟨e1, e2, e3⟩ := hgk2 q z hz
    rw [hg3 q (by omega) e3]; exact e1) hrep2⟩
  have HOK2 := Hide.mk hok2
  clear hrep2 hg2 h1b hok2 hp0 hp1 hp2 hp3 hp4 HREP1 HC2b HNV2b HGK1 hgk2
  iterate 10 (all_goals try (first | with_reducible refine splitI (fun h => ?_) (fun h => ?_) | with_reducible refine splitBI (fun h => ?_) (fun h => ?_) | simp (disch := first | assumption | omega | (simp; done) | fail) [Tryd.results5, *]))
  refine WC.mono (Values_w _ _ a b c ha hb hcc) ?_
  rintro _ rfl
  iterate 10 (all_goals try (first | with_reducible refine splitI (fun h => ?_) (fun h => ?_) | with_reducible refine splitBI (fun h => ?_) (fun h => ?_) | simp (disch := first | assumption | omega | (simp; done) | fail) [Tryd.results5, *]))
  refine WC.mono (refCond_w x _ _ _ (REPX.out _ _ (by omega) (fun a h1 h2 => by simp (disch := omega) only [gput_lt, gput_ne]))) ?_
  rintro _ rfl
  iterate 10 (all_goals try (first | with_reducible refine splitI (fun h => ?_) (fun h => ?_) | with_reducible refine splitBI (fun h => ?_) (fun h => ?_) | simp (disch := first | assumption | omega | (simp; done) | fail) [Tryd.results5, *]))
  refine WC.mono (refCond_w y _ _ _ (REPY.out _ _ (by omega) (fun a h1 h2 => by simp (disch := omega) only [gput_lt, gput_ne]))) ?_
  rintro _ rfl
  cases hcx : decide (6 ≤ x.op) <;> cases hcy : decide (6 ≤ y.op)
  · have ok1 := HOK1.out
    rw [hcx] at ok1
    have ok2 := HOK2.out
    rw [hcy] at ok2
    have HCX := Hide.mk hcx
    have OK1 := Hide.mk ok1
    have OK2 := Hide.mk ok2
    clear hcx hcy ok1 ok2
    iterate 10 (all_goals try (first | with_reducible refine splitI (fun h => ?_) (fun h => ?_) | with_reducible refine splitBI (fun h => ?_) (fun h => ?_) | simp (disch := first | assumption | omega | (simp; done) | fail) [Tryd.results5, *]))
    refine WC.mono (count_w 1000000 (Nat.le_refl _) x (by omega) _ _ _ 13 (by omega) (by omega) (REPX.out _ _ (by omega) (fun a h1 h2 => by simp (disch := omega) only [gput_lt, gput_ne]))) ?_
    rintro _ rfl
    have hb1 := count_le x 13
    generalize countM x 13 = n1' at hb1
    iterate 10 (all_goals try (first | with_reducible refine splitI (fun h => ?_) (fun h => ?_) | with_reducible refine splitBI (fun h => ?_) (fun h => ?_) | simp (disch := first | assumption | omega | (simp; done) | fail) [Tryd.results5, *]))
    refine WC.mono (count_w 1000000 (Nat.le_refl _) y (by omega) _ _ _ 13 (by omega) (by omega) (REPY.out _ _ (by omega) (fun a h1 h2 => by simp (disch := omega) only [gput_lt, gput_ne]))) ?_
    rintro _ rfl
    have hb2 := count_le y 13
    generalize countM y 13 = n2' at hb2
    iterate 10 (all_goals try (first | with_reducible refine splitI (fun h => ?_) (fun h => ?_) | with_reducible refine splitBI (fun h => ?_) (fun h => ?_) | simp (disch := first | assumption | omega | (simp; done) | fail) [Tryd.results5, *]))
    · refine WC.mono (own_w (callF_ok O5_ok hG6 10000) rfl rfl HL.out _ (holds_of fun i z hz => ?_)) ?_
      · have h8 : i < 8 := (List.getElem?_eq_some_iff.1 hz).1
        have hgi := HG2.out i z hz
        first | (show gput _ _ _ _ = _) | skip
        try simp (disch := omega) only [gput_lt]
        exact hgi
      rintro _ rfl
      iterate 10 (all_goals try (first | with_reducible refine splitI (fun h => ?_) (fun h => ?_) | with_reducible refine splitBI (fun h => ?_) (fun h => ?_) | simp (disch := first | assumption | omega | (simp; done) | fail) [Tryd.results5, *]))
    refine WC.mono (refCond_w x _ _ _ (REPX.out _ _ (by omega) (fun a h1 h2 => by simp (disch := omega) only [gput_lt, gput_ne]))) ?_
    rintro _ rfl
    rw [HCX.out]
    iterate 10 (all_goals try (first | with_reducible refine splitI (fun h => ?_) (fun h => ?_) | with_reducible refine splitBI (fun h => ?_) (fun h => ?_) | simp (disch := first | assumption | omega | (simp; done) | fail) [Tryd.results5, *]))
    refine WC.mono (node_w _ _ 8 _ _ _ _) ?_
    rintro _ rfl
    iterate 10 (all_goals try (first | with_reducible refine splitI (fun h => ?_) (fun h => ?_) | with_reducible refine splitBI (fun h => ?_) (fun h => ?_) | simp (disch := first | assumption | omega | (simp; done) | fail) [Tryd.results5, *]))
    refine WC.mono (node_w _ _ 7 _ _ _ _) ?_
    rintro _ rfl
    iterate 10 (all_goals try (first | with_reducible refine splitI (fun h => ?_) (fun h => ?_) | with_reducible refine splitBI (fun h => ?_) (fun h => ?_) | simp (disch := first | assumption | omega | (simp; done) | fail) [Tryd.results5, *]))
    refine WC.mono (node_w _ _ 6 _ _ _ _) ?_
    rintro _ rfl
    iterate 10 (all_goals try (first | with_reducible refine splitI (fun h => ?_) (fun h => ?_) | with_reducible refine splitBI (fun h => ?_) (fun h => ?_) | simp (disch := first | assumption | omega | (simp; done) | fail) [Tryd.results5, *]))
    refine WC.mono (node_w _ _ 11 _ _ _ _) ?_
    rintro _ rfl
    iterate 10 (all_goals try (first | with_reducible refine splitI (fun h => ?_) (fun h => ?_) | with_reducible refine splitBI (fun h => ?_) (fun h => ?_) | simp (disch := first | assumption | omega | (simp; done) | fail) [Tryd.results5, *]))
    refine WC.mono (node_w _ _ 7 _ _ _ _) ?_
    rintro _ rfl
    iterate 10 (all_goals try (first | with_reducible refine splitI (fun h => ?_) (fun h => ?_) | with_reducible refine splitBI (fun h => ?_) (fun h => ?_) | simp (disch := first | assumption | omega | (simp; done) | fail) [Tryd.results5, *]))
    refine WC.mono (node_w _ _ 6 _ _ _ _) ?_
    rintro _ rfl
    iterate 10 (all_goals try (first | with_reducible refine splitI (fun h => ?_) (fun h => ?_) | with_reducible refine splitBI (fun h => ?_) (fun h => ?_) | simp (disch := first | assumption | omega | (simp; done) | fail) [Tryd.results5, *]))
    refine WC.mono (node_w _ _ 7 _ _ _ _) ?_
    rintro _ rfl
    iterate 10 (all_goals try (first | with_reducible refine splitI (fun h => ?_) (fun h => ?_) | with_reducible refine splitBI (fun h => ?_) (fun h => ?_) | simp (disch := first | assumption | omega | (simp; done) | fail) [Tryd.results5, *]))
    refine LX.gen (fun gf H' => ∃ (gm : Nat → Option Blk) (nm S : Nat) (r : List AV), H' = ⟨.fn gm, nm⟩ ∧ n2 + 1 < nm ∧ S < nm ∧ (∀ i z, blks0[i]? = some z → gm i = some z) ∧ gm (n2 + 1) = some (.cells (intCells (valsE a b c)) true 0) ∧ gm S = some (.cells r true 0) ∧ repL gm nm (tsN x y) r ∧
      gf 9 = some (.sl (n2 + 1) 0 3 3) ∧ gf 10 = some (.sl S 0 5 5) ∧ gf 11 = some (.lit (.slice none 0 0)) ∧ gf 12 = some (.lit (.int .i64 0)) ∧ gf 13 = some (.lit (.int .i64 0))) ?_ ?_
    · apply Exists.intro
      apply Exists.intro
      apply Exists.intro
      apply Exists.intro
      refine ⟨rfl, ?_, ?_, ?_, ?_, ?_, ?_, ?_, ?_, ?_, ?_, ?_⟩
      rotate_left 7
      · simp; rfl
      · simp
      · simp
      · simp
      rotate_left 1
      · omega
      · omega
      · intro i z hz
        have h8 : i < 8 := (List.getElem?_eq_some_iff.1 hz).1
        simp (disch := omega) only [gput_lt]
        exact HG2.out i z hz
      · simp (disch := omega) only [gput_lt, gput_eq, gput_ne]
      · simp (disch := omega) only [gput_lt, gput_eq, gput_ne]
        rfl
      · exact (repL_cons3 (mkNode (op := 8) (by (try simp (disch := omega) only [gput_lt, gput_eq, gput_ne]); first | done | rfl) (by omega) (by omega) rfl (repL_cons3 (REPX.out _ _ (by omega) (fun a h1 h2 => by simp (disch := omega) only [gput_lt, gput_ne])) (repL_cons3 (REPY.out _ _ (by omega) (fun a h1 h2 => by simp (disch := omega) only [gput_lt, gput_ne])) repL_nil))) (repL_cons3 (mkNode (op := 11) (by (try simp (disch := omega) only [gput_lt, gput_eq, gput_ne]); first | done | rfl) (by omega) (by omega) rfl (repL_cons3 (mkNode (op := 7) (by (try simp (disch := omega) only [gput_lt, gput_eq, gput_ne]); first | done | rfl) (by omega) (by omega) rfl (repL_cons3 (REPX.out _ _ (by omega) (fun a h1 h2 => by simp (disch := omega) only [gput_lt, gput_ne])) (repL_cons3 (REPY.out _ _ (by omega) (fun a h1 h2 => by simp (disch := omega) only [gput_lt, gput_ne])) repL_nil))) (repL_cons3 (mkNode (op := 6) (by (try simp (disch := omega) only [gput_lt, gput_eq, gput_ne]); first | done | rfl) (by omega) (by omega) rfl (repL_cons3 (REPX.out _ _ (by omega) (fun a h1 h2 => by simp (disch := omega) only [gput_lt, gput_ne])) (repL_cons3 (REPY.out _ _ (by omega) (fun a h1 h2 => by simp (disch := omega) only [gput_lt, gput_ne])) repL_nil))) repL_nil))) (repL_cons3 (mkNode (op := 7) (by (try simp (disch := omega) only [gput_lt, gput_eq, gput_ne]); first | done | rfl) (by omega) (by omega) rfl (repL_cons3 (REPX.out _ _ (by omega) (fun a h1 h2 => by simp (disch := omega) only [gput_lt, gput_ne])) (repL_cons3 (REPY.out _ _ (by omega) (fun a h1 h2 => by simp (disch := omega) only [gput_lt, gput_ne])) repL_nil))) (repL_cons3 (mkNode (op := 6) (by (try simp (disch := omega) only [gput_lt, gput_eq, gput_ne]); first | done | rfl) (by omega) (by omega) rfl (repL_cons3 (REPX.out _ _ (by omega) (fun a h1 h2 => by simp (disch := omega) only [gput_lt, gput_ne])) (repL_cons3 (REPY.out _ _ (by omega) (fun a h1 h2 => by simp (disch := omega) only [gput_lt, gput_ne])) repL_nil))) (repL_cons3 (mkNode (op := 7) (by (try simp (disch := omega) only [gput_lt, gput_eq, gput_ne]); first | done | rfl) (by omega) (by omega) rfl (repL_cons3 (REPY.out _ _ (by omega) (fun a h1 h2 => by simp (disch := omega) only [gput_lt, gput_ne])) (repL_cons3 (REPX.out _ _ (by omega) (fun a h1 h2 => by simp (disch := omega) only [gput_lt, gput_ne])) repL_nil))) repL_nil)))))
      · simp
    rintro gf H' ⟨gm, nm, S, r, rfl, hS1, hS2, hbase, hvals, hSr, hrep, p9, p10, p11, p12, p13⟩
    have hOK : ∀ t ∈ (tsN x y), shapedM 3 t = true ∧ typedM t = true ∧ sizeN t ≤ 64 := ok_law (c := false) OK1.out OK2.out hsz1 hsz2
    have hlaw := law_num (vals := valsE a b c) (a := x) (b := y)
    have hlen : (tsN x y).length = 5 := rfl
    generalize tsN x y = tl at hrep hOK hlaw hlen
    obtain ⟨evs, hevs⟩ : ∃ evs, evs = tl.map (evalM (valsE a b c)) := ⟨_, rfl⟩
    rw [← hevs] at hlaw
    have helen : evs.length = 5 := by rw [hevs, List.length_map, hlen]
    have HEVS := Hide.mk hevs
    have HLAW := Hide.mk hlaw
    have HBASE := Hide.mk hbase
    have HOK := Hide.mk hOK
    clear hevs hlaw hbase hOK hq0 hq1 hq2 hq3 hq4 h1x h1y h1c1 h1c2
    refine LX.ind (fun m gf H' => ∃ (i n' : Nat) (g' : Nat → Option Blk) (kv : AV), i ≤ 5 ∧ m = 5 - i ∧ H' = ⟨.fn g', n'⟩ ∧ nm ≤ n' ∧ (∀ a, a < nm → g' a = gm a) ∧ gf 9 = some (.sl (n2 + 1) 0 3 3) ∧ gf 10 = some (.sl S 0 5 5) ∧ gf 11 = some kv ∧
      gf 12 = some (.lit (.int .i64 (cntD (evs.take i)))) ∧ gf 13 = some (.lit (.int .i64 i)) ∧ ((i = 0 ∧ kv = .lit (.slice none 0 0)) ∨ ∃ A, nm ≤ A ∧ A < n' ∧ 0 < i ∧ kv = .slq A 0 i 0 ∧ g' A = some (.cells (intCells ((evs.take i).map (·.1))) true 1))) (m0 := 5) ?_ ?_
    · exact ⟨0, nm, gm, _, by omega, rfl, rfl, Nat.le_refl _, fun _ _ => rfl, p9, p10, p11, by simpa [cntD] using p12, p13, .inl ⟨rfl, rfl⟩⟩
    rintro m' gf' H2 ⟨i, n', g', kv, hi, rfl, rfl, hn', hg', q9, q10, q11, q12, q13, hk⟩ ih
    refine LX.roundP (noO_ok _ _) hG6 pl5 (by decide +kernel) ?_
    have HG := Hide.mk hg'
    clear hg' p9 p10 p11 p12 p13
    have hcb := cntD_le (evs.take i)
    have hcl : (evs.take i).length ≤ 5 := by rw [List.length_take]; omega
    by_cases hlt : i < 5
    · have hti : i < tl.length := by omega
      have hei : i < evs.length := by omega
      have hlI : (i : Int) < 5 := by omega
      have hy0 := repL_at hrep i hti
      have hrl := repL_len hrep
      have hrow := ((row_of hSr rfl : Row gm S 0 r).mono (HG.out S hS2)).agg (k := i * 3) (s := 3) (by omega)
      obtain ⟨hsht, htyt, hszt⟩ := HOK.out tl[i] (List.getElem_mem hti)
      have hev1 : evs[i] = evalM (valsE a b c) tl[i] := by simp only [HEVS.out, List.getElem_map]
      have htk : evs.take (i + 1) = evs.take i ++ [evs[i]] := List.take_succ_eq_append_getElem hei
      have hcs := cntD_succ hei
      rw [hev1] at htk hcs
      generalize tl[i] = t at hy0 hsht htyt hszt htk hcs
      have HTOP := Hide.mk (top_law a b c hcc hsht htyt hszt)
      obtain ⟨k3, sv3, hcy, h1c3, hop3⟩ := repN_op hy0
      rw [hcy] at hrow hy0
      rw [Nat.zero_add] at hrow
      have h1t : allOne [.lit (.int .u8 t.op), .lit (.int .i64 k3), sv3] = true := by simp [h1c3]
      have HY := Hide.mk hy0
      have HTK := Hide.mk htk
      have HCS := Hide.mk hcs
      generalize hcn : cntD (evs.take i) = cnt at q12 hcb HCS
      generalize hpre : (evs.take i).map (·.1) = pre at hk
      have hprel : pre.length = i := by rw [← hpre, List.length_map, List.length_take]; omega
      have HPRE := Hide.mk hpre
      have hicl : (intCells pre).length = i := by unfold intCells; rw [List.length_map]; exact hprel
      clear hy0 htk hcs hcn hev1 hpre hsht htyt hrl hcy h1c3
      have hcb2 : 0 ≤ cnt ∧ cnt ≤ 5 := by omega
      rcases hk with ⟨rfl, rfl⟩ | ⟨A, hA1, hA2, hA3, rfl, hA4⟩
      all_goals
        iterate 10 (all_goals try (first | with_reducible refine splitI (fun h => ?_) (fun h => ?_) | with_reducible refine splitBI (fun h => ?_) (fun h => ?_) | simp (disch := first | assumption | omega | (simp; done) | fail) [Tryd.results5, *]))
        refine WC.mono (Vars_w _ _) ?_
        rintro _ rfl
        iterate 10 (all_goals try (first | with_reducible refine splitI (fun h => ?_) (fun h => ?_) | with_reducible refine splitBI (fun h => ?_) (fun h => ?_) | simp (disch := first | assumption | omega | (simp; done) | fail) [Tryd.results5, *]))
        refine WC.mono (Eval_w varsE t (valsE a b c) _ _ _ _ _ (by simp (disch := omega) only [gput_lt]; rw [HG.out _ (by omega)]; exact HBASE.out 0 _ rfl) (by omega) (sliceV_all (own := true) (z := 0) (by simp (disch := omega) only [gput_lt, gput_eq, gput_ne]) (by omega)) (sliceV_all (own := true) (z := 0) (by simp (disch := omega) only [gput_lt, gput_ne]; rw [HG.out _ (by omega)]; exact hvals) (by omega)) (by simp [varsE]) (by simp [valsE]) (by omega)
          (repN_mono (b := nm) (by omega) (fun a ha => by simp (disch := omega) only [gput_lt]; exact HG.out a ha) HY.out)) ?_
        rw [HTOP.out]
        rintro _ rfl
        generalize evalM (valsE a b c) t = e1 at HTK HCS
        obtain ⟨v1, b1⟩ := e1
        cases b1
        all_goals
          iterate 10 (all_goals try (first | with_reducible refine splitI (fun h => ?_) (fun h => ?_) | with_reducible refine splitBI (fun h => ?_) (fun h => ?_) | simp (disch := first | assumption | omega | (simp; done) | fail) [Tryd.results5, *]))
      all_goals first
        | (refine ih.out (5 - (0 + 1)) _ _ (by omega) ⟨0 + 1, n' + 1 + 1 + 1, _, .slq (n' + 1 + 1) 0 (0 + 1) 0, by omega, rfl, rfl, by omega, fun a ha => ?_, by simp [*], by simp [*], by simp, by rw [HCS.out]; simp [*], by simp [*], .inr ⟨n' + 1 + 1, by omega, by omega, by omega, rfl, ?_⟩⟩
           · simp (disch := omega) only [gput_lt, gput_ne]; exact HG.out a ha
           · rw [HTK.out, List.map_append, HPRE.out]
             rw [List.length_eq_zero_iff.1 hprel]
             simp (disch := omega) only [gput_lt, gput_eq, gput_ne]
             simp [intCells])
        | (refine ih.out (5 - (i + 1)) _ _ (by omega) ⟨i + 1, n' + 1 + 1 + 1, _, .slq (n' + 1 + 1) 0 (i + 1) 0, by omega, rfl, rfl, by omega, fun a ha => ?_, by simp [*], by simp [*], by simp, by rw [HCS.out]; simp [*], by simp [*], .inr ⟨n' + 1 + 1, by omega, by omega, by omega, rfl, ?_⟩⟩
           · simp (disch := omega) only [gput_lt, gput_ne]; exact HG.out a ha
           · rw [HTK.out, List.map_append, HPRE.out]
             skip
             simp (disch := omega) only [gput_lt, gput_eq, gput_ne]
             simp [intCells])
    · have hiL : i = 5 := by omega
      subst hiL
      have htake : evs.take 5 = evs := List.take_of_length_le (by omega)
      rcases hk with ⟨h0, _⟩ | ⟨A, hA1, hA2, _, rfl, hA4⟩
      · omega
      rw [htake] at hA4 q12
      have hlw := HLAW.out
      have HB2 : Hide (∀ i z, blks0[i]? = some z → g' i = some z) := ⟨fun i z hz => by
        have h8 : i < 8 := (List.getElem?_eq_some_iff.1 hz).1
        rw [HG.out i (by omega)]; exact HBASE.out i z hz⟩
      clear ih hrep hcb htake
      rcases hlw with ⟨v, q, r0, s0, hv1, hq1, hr1, hs1, hsum, he⟩ | he
      · have bq : 0 ≤ q ∧ q ≤ 1 := by rcases hq1 with h | h <;> omega
        have br : 0 ≤ r0 ∧ r0 ≤ 1 := by rcases hr1 with h | h <;> omega
        have bs : 0 ≤ s0 ∧ s0 ≤ 1 := by rcases hs1 with h | h <;> omega
        clear hv1 hq1 hr1 hs1
        rw [he] at hA4 q12
        simp only [List.map, intCells] at hA4
        have q12' : gf' 12 = some (.lit (.int .i64 5)) := q12
        clear q12 he
        iterate 10 (all_goals try (first | with_reducible refine splitI (fun h => ?_) (fun h => ?_) | with_reducible refine splitBI (fun h => ?_) (fun h => ?_) | simp (disch := first | assumption | omega | (simp; done) | fail) [Tryd.results5, *]))
        refine WC.mono (own_w (callF_ok O5_ok hG6 10000) rfl rfl HL.out _ (holds_of fun i z hz => ?_)) ?_
        · have h8 : i < 8 := (List.getElem?_eq_some_iff.1 hz).1
          have hgi := HB2.out i z hz
          first | (show gput _ _ _ _ = _) | skip
          try simp (disch := omega) only [gput_lt]
          exact hgi
        rintro _ rfl
        iterate 10 (all_goals try (first | with_reducible refine splitI (fun h => ?_) (fun h => ?_) | with_reducible refine splitBI (fun h => ?_) (fun h => ?_) | simp (disch := first | assumption | omega | (simp; done) | fail) [Tryd.results5, *]))
      · rw [he] at hA4 q12
        simp only [List.map, intCells] at hA4
        have q12' : gf' 12 = some (.lit (.int .i64 0)) := q12
        clear q12 he
        iterate 10 (all_goals try (first | with_reducible refine splitI (fun h => ?_) (fun h => ?_) | with_reducible refine splitBI (fun h => ?_) (fun h => ?_) | simp (disch := first | assumption | omega | (simp; done) | fail) [Tryd.results5, *]))
        refine WC.mono (own_w (callF_ok O5_ok hG6 10000) rfl rfl HL.out _ (holds_of fun i z hz => ?_)) ?_
        · have h8 : i < 8 := (List.getElem?_eq_some_iff.1 hz).1
          have hgi := HB2.out i z hz
          first | (show gput _ _ _ _ = _) | skip
          try simp (disch := omega) only [gput_lt]
          exact hgi
        rintro _ rfl
        iterate 10 (all_goals try (first | with_reducible refine splitI (fun h => ?_) (fun h => ?_) | with_reducible refine splitBI (fun h => ?_) (fun h => ?_) | simp (disch := first | assumption | omega | (simp; done) | fail) [Tryd.results5, *]))
  · clear hcx hcy
    iterate 10 (all_goals try (first | with_reducible refine splitI (fun h => ?_) (fun h => ?_) | with_reducible refine splitBI (fun h => ?_) (fun h => ?_) | simp (disch := first | assumption | omega | (simp; done) | fail) [Tryd.results5, *]))
    refine WC.mono (own_w (callF_ok O5_ok hG6 10000) rfl rfl HL.out _ (holds_of fun i z hz => ?_)) ?_
    · have h8 : i < 8 := (List.getElem?_eq_some_iff.1 hz).1
      have hgi := HG2.out i z hz
      first | (show gput _ _ _ _ = _) | skip
      try simp (disch := omega) only [gput_lt]
      exact hgi
    rintro _ rfl
    iterate 10 (all_goals try (first | with_reducible refine splitI (fun h => ?_) (fun h => ?_) | with_reducible refine splitBI (fun h => ?_) (fun h => ?_) | simp (disch := first | assumption | omega | (simp; done) | fail) [Tryd.results5, *]))
  · clear hcx hcy
    iterate 10 (all_goals try (first | with_reducible refine splitI (fun h => ?_) (fun h => ?_) | with_reducible refine splitBI (fun h => ?_) (fun h => ?_) | simp (disch := first | assumption | omega | (simp; done) | fail) [Tryd.results5, *]))
    refine WC.mono (own_w (callF_ok O5_ok hG6 10000) rfl rfl HL.out _ (holds_of fun i z hz => ?_)) ?_
    · have h8 : i < 8 := (List.getElem?_eq_some_iff.1 hz).1
      have hgi := HG2.out i z hz
      first | (show gput _ _ _ _ = _) | skip
      try simp (disch := omega) only [gput_lt]
      exact hgi
    rintro _ rfl
    iterate 10 (all_goals try (first | with_reducible refine splitI (fun h => ?_) (fun h => ?_) | with_reducible refine splitBI (fun h => ?_) (fun h => ?_) | simp (disch := first | assumption | omega | (simp; done) | fail) [Tryd.results5, *]))
  · have ok1 := HOK1.out
    rw [hcx] at ok1
    have ok2 := HOK2.out
    rw [hcy] at ok2
    have HCX := Hide.mk hcx
    have OK1 := Hide.mk ok1
    have OK2 := Hide.mk ok2
    clear hcx hcy ok1 ok2
    iterate 10 (all_goals try (first | with_reducible refine splitI (fun h => ?_) (fun h => ?_) | with_reducible refine splitBI (fun h => ?_) (fun h => ?_) | simp (disch := first | assumption | omega | (simp; done) | fail) [Tryd.results5, *]))
    refine WC.mono (count_w 1000000 (Nat.le_refl _) x (by omega) _ _ _ 13 (by omega) (by omega) (REPX.out _ _ (by omega) (fun a h1 h2 => by simp (disch := omega) only [gput_lt, gput_ne]))) ?_
    rintro _ rfl
    have hb1 := count_le x 13
    generalize countM x 13 = n1' at hb1
    iterate 10 (all_goals try (first | with_reducible refine splitI (fun h => ?_) (fun h => ?_) | with_reducible refine splitBI (fun h => ?_) (fun h => ?_) | simp (disch := first | assumption | omega | (simp; done) | fail) [Tryd.results5, *]))
    refine WC.mono (count_w 1000000 (Nat.le_refl _) y (by omega) _ _ _ 13 (by omega) (by omega) (REPY.out _ _ (by omega) (fun a h1 h2 => by simp (disch := omega) only [gput_lt, gput_ne]))) ?_
    rintro _ rfl
    have hb2 := count_le y 13
    generalize countM y 13 = n2' at hb2
    iterate 10 (all_goals try (first | with_reducible refine splitI (fun h => ?_) (fun h => ?_) | with_reducible refine splitBI (fun h => ?_) (fun h => ?_) | simp (disch := first | assumption | omega | (simp; done) | fail) [Tryd.results5, *]))
    · refine WC.mono (own_w (callF_ok O5_ok hG6 10000) rfl rfl HL.out _ (holds_of fun i z hz => ?_)) ?_
      · have h8 : i < 8 := (List.getElem?_eq_some_iff.1 hz).1
        have hgi := HG2.out i z hz
        first | (show gput _ _ _ _ = _) | skip
        try simp (disch := omega) only [gput_lt]
        exact hgi
      rintro _ rfl
      iterate 10 (all_goals try (first | with_reducible refine splitI (fun h => ?_) (fun h => ?_) | with_reducible refine splitBI (fun h => ?_) (fun h => ?_) | simp (disch := first | assumption | omega | (simp; done) | fail) [Tryd.results5, *]))
    refine WC.mono (refCond_w x _ _ _ (REPX.out _ _ (by omega) (fun a h1 h2 => by simp (disch := omega) only [gput_lt, gput_ne]))) ?_
    rintro _ rfl
    rw [HCX.out]
    iterate 10 (all_goals try (first | with_reducible refine splitI (fun h => ?_) (fun h => ?_) | with_reducible refine splitBI (fun h => ?_) (fun h => ?_) | simp (disch := first | assumption | omega | (simp; done) | fail) [Tryd.results5, *]))
    refine WC.mono (node_w _ _ 10 _ _ _ _) ?_
    rintro _ rfl
    iterate 10 (all_goals try (first | with_reducible refine splitI (fun h => ?_) (fun h => ?_) | with_reducible refine splitBI (fun h => ?_) (fun h => ?_) | simp (disch := first | assumption | omega | (simp; done) | fail) [Tryd.results5, *]))
    refine WC.mono (node_w _ _ 9 _ _ _ _) ?_
    rintro _ rfl
    iterate 10 (all_goals try (first | with_reducible refine splitI (fun h => ?_) (fun h => ?_) | with_reducible refine splitBI (fun h => ?_) (fun h => ?_) | simp (disch := first | assumption | omega | (simp; done) | fail) [Tryd.results5, *]))
    refine WC.mono (node_w _ _ 9 _ _ _ _) ?_
    rintro _ rfl
    iterate 10 (all_goals try (first | with_reducible refine splitI (fun h => ?_) (fun h => ?_) | with_reducible refine splitBI (fun h => ?_) (fun h => ?_) | simp (disch := first | assumption | omega | (simp; done) | fail) [Tryd.results5, *]))
    refine WC.mono (node_w _ _ 9 _ _ _ _) ?_
    rintro _ rfl
    iterate 10 (all_goals try (first | with_reducible refine splitI (fun h => ?_) (fun h => ?_) | with_reducible refine splitBI (fun h => ?_) (fun h => ?_) | simp (disch := first | assumption | omega | (simp; done) | fail) [Tryd.results5, *]))
    refine WC.mono (node_w _ _ 11 _ _ _ _) ?_
    rintro _ rfl
    iterate 10 (all_goals try (first | with_reducible refine splitI (fun h => ?_) (fun h => ?_) | with_reducible refine splitBI (fun h => ?_) (fun h => ?_) | simp (disch := first | assumption | omega | (simp; done) | fail) [Tryd.results5, *]))
    refine LX.gen (fun gf H' => ∃ (gm : Nat → Option Blk) (nm S : Nat) (r : List AV), H' = ⟨.fn gm, nm⟩ ∧ n2 + 1 < nm ∧ S < nm ∧ (∀ i z, blks0[i]? = some z → gm i = some z) ∧ gm (n2 + 1) = some (.cells (intCells (valsE a b c)) true 0) ∧ gm S = some (.cells r true 0) ∧ repL gm nm (tsC x y) r ∧
      gf 9 = some (.sl (n2 + 1) 0 3 3) ∧ gf 10 = some (.sl S 0 2 2) ∧ gf 11 = some (.lit (.slice none 0 0)) ∧ gf 12 = some (.lit (.int .i64 0)) ∧ gf 13 = some (.lit (.int .i64 0))) ?_ ?_
    · apply Exists.intro
      apply Exists.intro
      apply Exists.intro
      apply Exists.intro
      refine ⟨rfl, ?_, ?_, ?_, ?_, ?_, ?_, ?_, ?_, ?_, ?_, ?_⟩
      rotate_left 7
      · simp; rfl
      · simp
      · simp
      · simp
      rotate_left 1
      · omega
      · omega
      · intro i z hz
        have h8 : i < 8 := (List.getElem?_eq_some_iff.1 hz).1
        simp (disch := omega) only [gput_lt]
        exact HG2.out i z hz
      · simp (disch := omega) only [gput_lt, gput_eq, gput_ne]
      · simp (disch := omega) only [gput_lt, gput_eq, gput_ne]
        rfl
      · exact (repL_cons3 (mkNode (op := 9) (by (try simp (disch := omega) only [gput_lt, gput_eq, gput_ne]); first | done | rfl) (by omega) (by omega) rfl (repL_cons3 (mkNode (op := 10) (by (try simp (disch := omega) only [gput_lt, gput_eq, gput_ne]); first | done | rfl) (by omega) (by omega) rfl (repL_cons3 (REPX.out _ _ (by omega) (fun a h1 h2 => by simp (disch := omega) only [gput_lt, gput_ne])) (repL_cons3 (REPY.out _ _ (by omega) (fun a h1 h2 => by simp (disch := omega) only [gput_lt, gput_ne])) repL_nil))) repL_nil)) (repL_cons3 (mkNode (op := 11) (by (try simp (disch := omega) only [gput_lt, gput_eq, gput_ne]); first | done | rfl) (by omega) (by omega) rfl (repL_cons3 (mkNode (op := 9) (by (try simp (disch := omega) only [gput_lt, gput_eq, gput_ne]); first | done | rfl) (by omega) (by omega) rfl (repL_cons3 (REPX.out _ _ (by omega) (fun a h1 h2 => by simp (disch := omega) only [gput_lt, gput_ne])) repL_nil)) (repL_cons3 (mkNode (op := 9) (by (try simp (disch := omega) only [gput_lt, gput_eq, gput_ne]); first | done | rfl) (by omega) (by omega) rfl (repL_cons3 (REPY.out _ _ (by omega) (fun a h1 h2 => by simp (disch := omega) only [gput_lt, gput_ne])) repL_nil)) repL_nil))) repL_nil))
      · simp
    rintro gf H' ⟨gm, nm, S, r, rfl, hS1, hS2, hbase, hvals, hSr, hrep, p9, p10, p11, p12, p13⟩
    have hOK : ∀ t ∈ (tsC x y), shapedM 3 t = true ∧ typedM t = true ∧ sizeN t ≤ 64 := ok_law (c := true) OK1.out OK2.out hsz1 hsz2
    have hlaw := law_cond (vals := valsE a b c) (a := x) (b := y) ((ref_eval (vals_in a b c hcc).2 1000 x (by omega) OK1.out.sh OK1.out.ty).2 (of_decide_eq_true OK1.out.co)) ((ref_eval (vals_in a b c hcc).2 1000 y (by omega) OK2.out.sh OK2.out.ty).2 (of_decide_eq_true OK2.out.co))
    have hlen : (tsC x y).length = 2 := rfl
    generalize tsC x y = tl at hrep hOK hlaw hlen
    obtain ⟨evs, hevs⟩ : ∃ evs, evs = tl.map (evalM (valsE a b c)) := ⟨_, rfl⟩
    rw [← hevs] at hlaw
    have helen : evs.length = 2 := by rw [hevs, List.length_map, hlen]
    have HEVS := Hide.mk hevs
    have HLAW := Hide.mk hlaw
    have HBASE := Hide.mk hbase
    have HOK := Hide.mk hOK
    clear hevs hlaw hbase hOK hq0 hq1 hq2 hq3 hq4 h1x h1y h1c1 h1c2
    refine LX.ind (fun m gf H' => ∃ (i n' : Nat) (g' : Nat → Option Blk) (kv : AV), i ≤ 2 ∧ m = 2 - i ∧ H' = ⟨.fn g', n'⟩ ∧ nm ≤ n' ∧ (∀ a, a < nm → g' a = gm a) ∧ gf 9 = some (.sl (n2 + 1) 0 3 3) ∧ gf 10 = some (.sl S 0 2 2) ∧ gf 11 = some kv ∧
      gf 12 = some (.lit (.int .i64 (cntD (evs.take i)))) ∧ gf 13 = some (.lit (.int .i64 i)) ∧ ((i = 0 ∧ kv = .lit (.slice none 0 0)) ∨ ∃ A, nm ≤ A ∧ A < n' ∧ 0 < i ∧ kv = .slq A 0 i 0 ∧ g' A = some (.cells (intCells ((evs.take i).map (·.1))) true 1))) (m0 := 2) ?_ ?_
    · exact ⟨0, nm, gm, _, by omega, rfl, rfl, Nat.le_refl _, fun _ _ => rfl, p9, p10, p11, by simpa [cntD] using p12, p13, .inl ⟨rfl, rfl⟩⟩
    rintro m' gf' H2 ⟨i, n', g', kv, hi, rfl, rfl, hn', hg', q9, q10, q11, q12, q13, hk⟩ ih
    refine LX.roundP (noO_ok _ _) hG6 pl5 (by decide +kernel) ?_
    have HG := Hide.mk hg'
    clear hg' p9 p10 p11 p12 p13
    have hcb := cntD_le (evs.take i)
    have hcl : (evs.take i).length ≤ 2 := by rw [List.length_take]; omega
    by_cases hlt : i < 2
    · have hti : i < tl.length := by omega
      have hei : i < evs.length := by omega
      have hlI : (i : Int) < 2 := by omega
      have hy0 := repL_at hrep i hti
      have hrl := repL_len hrep
      have hrow := ((row_of hSr rfl : Row gm S 0 r).mono (HG.out S hS2)).agg (k := i * 3) (s := 3) (by omega)
      obtain ⟨hsht, htyt, hszt⟩ := HOK.out tl[i] (List.getElem_mem hti)
      have hev1 : evs[i] = evalM (valsE a b c) tl[i] := by simp only [HEVS.out, List.getElem_map]
      have htk : evs.take (i + 1) = evs.take i ++ [evs[i]] := List.take_succ_eq_append_getElem hei
      have hcs := cntD_succ hei
      rw [hev1] at htk hcs
      generalize tl[i] = t at hy0 hsht htyt hszt htk hcs
      have HTOP := Hide.mk (top_law a b c hcc hsht htyt hszt)
      obtain ⟨k3, sv3, hcy, h1c3, hop3⟩ := repN_op hy0
      rw [hcy] at hrow hy0
      rw [Nat.zero_add] at hrow
      have h1t : allOne [.lit (.int .u8 t.op), .lit (.int .i64 k3), sv3] = true := by simp [h1c3]
      have HY := Hide.mk hy0
      have HTK := Hide.mk htk
      have HCS := Hide.mk hcs
      generalize hcn : cntD (evs.take i) = cnt at q12 hcb HCS
      generalize hpre : (evs.take i).map (·.1) = pre at hk
      have hprel : pre.length = i := by rw [← hpre, List.length_map, List.length_take]; omega
      have HPRE := Hide.mk hpre
      have hicl : (intCells pre).length = i := by unfold intCells; rw [List.length_map]; exact hprel
      clear hy0 htk hcs hcn hev1 hpre hsht htyt hrl hcy h1c3
      have hcb2 : 0 ≤ cnt ∧ cnt ≤ 2 := by omega
      rcases hk with ⟨rfl, rfl⟩ | ⟨A, hA1, hA2, hA3, rfl, hA4⟩
      all_goals
        iterate 10 (all_goals try (first | with_reducible refine splitI (fun h => ?_) (fun h => ?_) | with_reducible refine splitBI (fun h => ?_) (fun h => ?_) | simp (disch := first | assumption | omega | (simp; done) | fail) [Tryd.results5, *]))
        refine WC.mono (Vars_w _ _) ?_
        rintro _ rfl
        iterate 10 (all_goals try (first | with_reducible refine splitI (fun h => ?_) (fun h => ?_) | with_reducible refine splitBI (fun h => ?_) (fun h => ?_) | simp (disch := first | assumption | omega | (simp; done) | fail) [Tryd.results5, *]))
        refine WC.mono (Eval_w varsE t (valsE a b c) _ _ _ _ _ (by simp (disch := omega) only [gput_lt]; rw [HG.out _ (by omega)]; exact HBASE.out 0 _ rfl) (by omega) (sliceV_all (own := true) (z := 0) (by simp (disch := omega) only [gput_lt, gput_eq, gput_ne]) (by omega)) (sliceV_all (own := true) (z := 0) (by simp (disch := omega) only [gput_lt, gput_ne]; rw [HG.out _ (by omega)]; exact hvals) (by omega)) (by simp [varsE]) (by simp [valsE]) (by omega)
          (repN_mono (b := nm) (by omega) (fun a ha => by simp (disch := omega) only [gput_lt]; exact HG.out a ha) HY.out)) ?_
        rw [HTOP.out]
        rintro _ rfl
        generalize evalM (valsE a b c) t = e1 at HTK HCS
        obtain ⟨v1, b1⟩ := e1
        cases b1
        all_goals
          iterate 10 (all_goals try (first | with_reducible refine splitI (fun h => ?_) (fun h => ?_) | with_reducible refine splitBI (fun h => ?_) (fun h => ?_) | simp (disch := first | assumption | omega | (simp; done) | fail) [Tryd.results5, *]))
      all_goals first
        | (refine ih.out (2 - (0 + 1)) _ _ (by omega) ⟨0 + 1, n' + 1 + 1 + 1, _, .slq (n' + 1 + 1) 0 (0 + 1) 0, by omega, rfl, rfl, by omega, fun a ha => ?_, by simp [*], by simp [*], by simp, by rw [HCS.out]; simp [*], by simp [*], .inr ⟨n' + 1 + 1, by omega, by omega, by omega, rfl, ?_⟩⟩
           · simp (disch := omega) only [gput_lt, gput_ne]; exact HG.out a ha
           · rw [HTK.out, List.map_append, HPRE.out]
             rw [List.length_eq_zero_iff.1 hprel]
             simp (disch := omega) only [gput_lt, gput_eq, gput_ne]
             simp [intCells])
        | (refine ih.out (2 - (i + 1)) _ _ (by omega) ⟨i + 1, n' + 1 + 1 + 1, _, .slq (n' + 1 + 1) 0 (i + 1) 0, by omega, rfl, rfl, by omega, fun a ha => ?_, by simp [*], by simp [*], by simp, by rw [HCS.out]; simp [*], by simp [*], .inr ⟨n' + 1 + 1, by omega, by omega, by omega, rfl, ?_⟩⟩
           · simp (disch := omega) only [gput_lt, gput_ne]; exact HG.out a ha
           · rw [HTK.out, List.map_append, HPRE.out]
             skip
             simp (disch := omega) only [gput_lt, gput_eq, gput_ne]
             simp [intCells])
    · have hiL : i = 2 := by omega
      subst hiL
      have htake : evs.take 2 = evs := List.take_of_length_le (by omega)
      rcases hk with ⟨h0, _⟩ | ⟨A, hA1, hA2, _, rfl, hA4⟩
      · omega
      rw [htake] at hA4 q12
      have hlw := HLAW.out
      have HB2 : Hide (∀ i z, blks0[i]? = some z → g' i = some z) := ⟨fun i z hz => by
        have h8 : i < 8 := (List.getElem?_eq_some_iff.1 hz).1
        rw [HG.out i (by omega)]; exact HBASE.out i z hz⟩
      clear ih hrep hcb htake
      rcases hlw with ⟨v, hv1, he⟩ | he
      · clear hv1
        rw [he] at hA4 q12
        simp only [List.map, intCells] at hA4
        have q12' : gf' 12 = some (.lit (.int .i64 2)) := q12
        clear q12 he
        iterate 10 (all_goals try (first | with_reducible refine splitI (fun h => ?_) (fun h => ?_) | with_reducible refine splitBI (fun h => ?_) (fun h => ?_) | simp (disch := first | assumption | omega | (simp; done) | fail) [Tryd.results5, *]))
        refine WC.mono (own_w (callF_ok O5_ok hG6 10000) rfl rfl HL.out _ (holds_of fun i z hz => ?_)) ?_
        · have h8 : i < 8 := (List.getElem?_eq_some_iff.1 hz).1
          have hgi := HB2.out i z hz
          first | (show gput _ _ _ _ = _) | skip
          try simp (disch := omega) only [gput_lt]
          exact hgi
        rintro _ rfl
        iterate 10 (all_goals try (first | with_reducible refine splitI (fun h => ?_) (fun h => ?_) | with_reducible refine splitBI (fun h => ?_) (fun h => ?_) | simp (disch := first | assumption | omega | (simp; done) | fail) [Tryd.results5, *]))
      · rw [he] at hA4 q12
        simp only [List.map, intCells] at hA4
        have q12' : gf' 12 = some (.lit (.int .i64 0)) := q12
        clear q12 he
        iterate 10 (all_goals try (first | with_reducible refine splitI (fun h => ?_) (fun h => ?_) | with_reducible refine splitBI (fun h => ?_) (fun h => ?_) | simp (disch := first | assumption | omega | (simp; done) | fail) [Tryd.results5, *]))
        refine WC.mono (own_w (callF_ok O5_ok hG6 10000) rfl rfl HL.out _ (holds_of fun i z hz => ?_)) ?_
        · have h8 : i < 8 := (List.getElem?_eq_some_iff.1 hz).1
          have hgi := HB2.out i z hz
          first | (show gput _ _ _ _ = _) | skip
          try simp (disch := omega) only [gput_lt]
          exact hgi
        rintro _ rfl
        iterate 10 (all_goals try (first | with_reducible refine splitI (fun h => ?_) (fun h => ?_) | with_reducible refine splitBI (fun h => ?_) (fun h => ?_) | simp (disch := first | assumption | omega | (simp; done) | fail) [Tryd.results5, *]))
end Go.Ai
end
