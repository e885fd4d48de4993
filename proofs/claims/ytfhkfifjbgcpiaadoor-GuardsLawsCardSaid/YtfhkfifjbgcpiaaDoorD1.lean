/- A small verified interpreter over names, its proofs, and what was proved with it. No condition. -/
import Derived.Test.YtfhkfifjbgcpiaaDoorA4
import Derived.Test.YtfhkfifjbgcpiaaDoorC6
set_option linter.all false
set_option linter.deprecated false
section
namespace Go.Ai
section
variable {P : Program} {H : Mem} {ev : Ev} {d : Option Tmp} {ty : TypeId} {p : String} {af : Array Edge} {g : Option (Nat × Bool)} {x y : Operand} {s t : TypeId} {size bytes : Nat}
noncomputable def apF (q : Option (Nat × Nat)) (k off : Nat) (ga gb : Option Blk) (H : Mem) (els : R) : R := match q, ga, gb with
  | some (size, bytes), some (.cells l0 _ _), some (.cells l _ _) => if 0 < size ∧ bytes ≤ 1048576 ∧ l.length = size ∧ off + (k + 1) * size ≤ l0.length ∧ k ≤ 1000000 then .val (.slq H.next 0 (k + 1 + 1) 0) (H.add (.cells ((l0.drop off).take ((k + 1) * size) ++ l) true size)) else els
  | _, _, _ => els
theorem ap_full' {a b c off k : Nat} {hx : ev x = some (.sl a off (k + 1) (k + 1))} {hy : ev y = some (.sl b 0 1 c)} :
    ex2 P H ev ⟨d, .call ⟨.builtin .append, #[x, y], #[s, t]⟩, ty, p, af, g⟩ x y (some (.sl a off (k + 1) (k + 1))) (some (.sl b 0 1 c)) hx hy = apF (apI P s t) k off (H.get a) (H.get b) H (opV P H ev ⟨d, .call ⟨.builtin .append, #[x, y], #[s, t]⟩, ty, p, af, g⟩) := by
  unfold apF
  split
  · rename_i size bytes l0 o0 z0 l own z h1 h2 h3
    split
    · rename_i h
      obtain ⟨e1, e2, e3, e4, e5⟩ := h
      show opV P H ev _ = _
      rw [append_of hx hy h1, appendN_full (n := 0) rfl e1 (firstL_row h3 (by omega)) (by omega) h2 e4 (by omega) (by omega) e2]
    · rfl
  · rfl
theorem apF_congr {tk : Nat} (_h0 : tick = tk) {q q' : Option (Nat × Nat)} {k off : Nat} {ga ga' gb gb' : Option Blk} {H : Mem} {els : R} (h1 : q = q') (h2 : ga = ga') (h3 : gb = gb') : apF q k off ga gb H els = apF q' k off ga' gb' H els := by rw [h1, h2, h3]
attribute [congr] apF_congr
variable {els : R} {z w : Nat} {l l0 : List AV} {own own0 : Bool} {k n off : Nat} {G : Nat → Option Blk}
theorem apF_ok (h1 : 0 < size) (h2 : bytes ≤ 1048576) (h3 : l.length = size) (h4 : off + (k + 1) * size ≤ l0.length) (h5 : k ≤ 1000000) :
    apF (some (size, bytes)) k off (some (.cells l0 own0 w)) (some (.cells l own z)) ⟨.fn G, n⟩ els = .val (.slq n 0 (k + 1 + 1) 0) ⟨.fn (gput G n (some (.cells ((l0.drop off).take ((k + 1) * size) ++ l) true size))), n + 1⟩ := if_pos ⟨h1, h2, h3, h4, h5⟩
attribute [simp] ap_full' apF_ok
end
end Go.Ai
end

section
namespace Go.Ai
open Go.Proofs
set_option maxRecDepth 10000
set_option maxHeartbeats 4000000
/-! ### The plain law: one more variable makes no difference. -/
mutual
theorem shaped_more {k k' : Int} (h : k ≤ k') : ∀ (x : NodeM), shapedM k x = true → shapedM k' x = true
  | .mk op q subs, hs => by
    simp only [shapedM, Bool.and_eq_true, decide_eq_true_eq] at hs ⊢
    obtain ⟨h1, h2, h3, h4, h5⟩ := hs
    refine ⟨h1, h2, h3, ?_, shapedL_more h subs h5⟩
    rw [most_iff] at h4 ⊢
    omega
theorem shapedL_more {k k' : Int} (h : k ≤ k') : ∀ (l : List NodeM), shapedL k l = true → shapedL k' l = true
  | [], _ => rfl
  | x :: l, hs => by
    simp only [shapedL, Bool.and_eq_true] at hs ⊢
    exact ⟨shaped_more h x hs.1, shapedL_more h l hs.2⟩
end
mutual
theorem eval_more {vals : List Int} {v : Int} : ∀ (x : NodeM), shapedM vals.length x = true → evalM (vals ++ [v]) x = evalM vals x
  | .mk op q subs, hs => by
    simp only [shapedM, Bool.and_eq_true, decide_eq_true_eq] at hs
    obtain ⟨h1, h2, h3, h4, h5⟩ := hs
    rw [most_iff] at h4
    unfold evalM
    rw [evalL_more subs h5]
    by_cases h0 : op = 0
    · rw [if_pos h0, if_pos h0]
    rw [if_neg h0, if_neg h0]
    by_cases h1 : op = 1
    · rw [if_pos h1, if_pos h1, List.getD_eq_getElem?_getD, List.getD_eq_getElem?_getD, List.getElem?_append_left (by omega)]
    rw [if_neg h1, if_neg h1]
theorem evalL_more {vals : List Int} {v : Int} : ∀ (l : List NodeM), shapedL vals.length l = true → evalL (vals ++ [v]) l = evalL vals l
  | [], _ => rfl
  | x :: l, hs => by
    simp only [shapedL, Bool.and_eq_true] at hs
    unfold evalL
    rw [eval_more x hs.1, evalL_more l hs.2]
end
def nmM : ByteArray := ⟨#[109, 111, 114, 101]⟩
/-- The variables of the examples, and one more. -/
def varsS (m : Int) : List VarM := varsE ++ [⟨nmM, m, m⟩]
theorem varsS_ok {m : Int} (h : -2147483648 ≤ m ∧ m ≤ 2147483647) : checkVarsM (varsS m) = 0 := by
  have h1 : decide (-2147483648 ≤ m) = true := decide_eq_true h.1
  have h2 : decide (m ≤ 2147483648) = true := decide_eq_true (by omega)
  have h3 : decide (m ≤ m) = true := decide_eq_true (Int.le_refl m)
  have e : varsM [] (varsS m) = (varsM [] varsE && ((VarM.ok ⟨nmM, m, m⟩ && !(varsE.map (·.name)).contains nmM) && true)) := by
    simp only [varsS, varsE, List.cons_append, List.nil_append, varsM, List.map, Bool.and_assoc, Bool.and_true, Bool.true_and]
  unfold checkVarsM
  rw [if_neg (by simp [varsS, varsE]), if_pos]
  rw [e]
  have h4 : varsM [] varsE = true := by decide +kernel
  have h5 : (!(varsE.map (·.name)).contains nmM) = true := by decide +kernel
  have h6 : VarM.ok ⟨nmM, m, m⟩ = true := by
    have hn : namedM nmM = true := by decide +kernel
    simp only [VarM.ok, hn, h1, h2, h3, Bool.and_self]
  rw [h4, h5, h6]; rfl
theorem valsS_ok (a b c m : Int) (hc : -2147483648 ≤ c ∧ c ≤ 2147483647) (h : -2147483648 ≤ m ∧ m ≤ 2147483647) : checkValuesM (varsS m) (valsE a b c ++ [m]) = 0 := by
  have h1 := (vals_in a b c hc).1
  unfold checkValuesM
  rw [if_neg (by rw [varsS_ok h]; simp), if_neg (by simp [valsE, varsE, varsS]), if_pos]
  simp only [varsE, valsE, inM, Bool.and_true, Bool.and_eq_true, decide_eq_true_eq] at h1
  simp only [varsS, varsE, valsE, List.cons_append, List.nil_append, inM, Bool.and_true, Bool.and_eq_true, decide_eq_true_eq]
  omega
theorem short_law (a b c m : Int) (hc : -2147483648 ≤ c ∧ c ≤ 2147483647) (h : -2147483648 ≤ m ∧ m ≤ 2147483647) {x : NodeM} (hsh : shapedM 3 x = true) (hty : typedM x = true) (hz : sizeN x ≤ 64) :
    evalTop (varsS m) x (valsE a b c ++ [m]) = ((evalM (valsE a b c) x).1, (evalM (valsE a b c) x).2, 0) := by
  have hck : checkM (varsS m) x = 0 := check_ok (varsS_ok h) (shaped_more (by show (3 : Int) ≤ _; simp [varsS, varsE]) x hsh) hty hz
  unfold evalTop
  rw [if_neg (by rw [hck]; simp), if_neg (by rw [valsS_ok a b c m hc h]; simp), eval_more (vals := valsE a b c) (v := m) x hsh]
theorem top_law (a b c : Int) (hc : -2147483648 ≤ c ∧ c ≤ 2147483647) {x : NodeM} (hsh : shapedM 3 x = true) (hty : typedM x = true) (hz : sizeN x ≤ 64) :
    evalTop varsE x (valsE a b c) = ((evalM (valsE a b c) x).1, (evalM (valsE a b c) x).2, 0) := by
  have hck : checkM varsE x = 0 := check_ok varsE_ok hsh hty hz
  unfold evalTop
  rw [if_neg (by rw [hck]; simp), if_neg (by rw [vals_ok a b c hc]; simp)]
end Go.Ai
end

section
namespace Go.Ai
open Go.Proofs
set_option maxRecDepth 10000
set_option maxHeartbeats 4000000
theorem row_of {g : Nat → Option Blk} {a : Nat} {l cs : List AV} {own : Bool} {z : Nat} (h : g a = some (.cells l own z)) (e : l = cs) : Row g a 0 cs := ⟨l, own, z, h, by subst e; simp, by subst e; simp⟩
theorem guardsShort_w (hl : retIs (.lit (.bool true)) (callF Tryd.prog O5 10000 16 [] H0) = true) (codes : List Nat) (nums : List Int) (a b c m : Int) (g : Nat → Option Blk) (n : Nat) (cv nv : AV) (h0 : ∀ i x, blks0[i]? = some x → g i = some x) (hn : 8 ≤ n)
    (hc : SliceA g n cv codes.length (u8Cells codes)) (hcb : ∀ c ∈ codes, c < 256) (hnv : SliceA g n nv nums.length (i32Cells nums)) (hnb : ∀ c ∈ nums, -2147483648 ≤ c ∧ c ≤ 2147483647) (hl1 : oneC cv = true) (hl2 : oneC nv = true)
    (ha : -2147483648 ≤ a ∧ a ≤ 2147483647) (hb : -2147483648 ≤ b ∧ b ≤ 2147483647) (hcc : -2147483648 ≤ c ∧ c ≤ 2147483647) (hm : -2147483648 ≤ m ∧ m ≤ 2147483647) :
    WC 6 Tryd.prog 6 [.agg [cv, nv], .agg [.lit (.int .i32 a), .lit (.int .i32 b), .lit (.int .i32 c)], .lit (.int .i32 m)] ⟨.fn g, n⟩ fun r => ∃ H', r = .ret (.lit (.bool true)) H' := by
  have h1a : allOne [cv, nv] = true := by simp [hl1, hl2]
  have HC := Hide.mk hc
  have HNV := Hide.mk hnv
  have HCB := Hide.mk hcb
  have HNB := Hide.mk hnb
  have H00 := Hide.mk h0
  have HL := Hide.mk hl
  clear hc hnv hcb hnb h0 hl
  refine WC.enterP (noO_ok _ _) hG6 pl6 Tryd.func6 rfl (by decide +kernel) (Nat.le_of_ble_eq_true (by kernel_rfl)) ?_
  iterate 6 (all_goals try (first | with_reducible refine splitI (fun h => ?_) (fun h => ?_) | with_reducible refine splitBI (fun h => ?_) (fun h => ?_) | simp (disch := first | assumption | omega | (simp; done) | fail) [Tryd.results6, *]))
  refine WC.mono (of_w codes nums _ _ cv nv (HC.out.mono (by omega) (fun a ha => by simp (disch := omega) only [gput_lt])) HCB.out (HNV.out.mono (by omega) (fun a ha => by simp (disch := omega) only [gput_lt])) HNB.out hl1 hl2) ?_
  rintro _ ⟨cs, g1, n1, rfl, hn1, hg1, hrep⟩
  obtain ⟨hsh, hty, hsz⟩ := ofM_ok codes nums HNB.out
  generalize ofM codes nums = x at hrep hsh hty hsz
  obtain ⟨k2, sv2, hcy, h1c, hop2⟩ := repN_op hrep
  subst hcy
  have h1x : allOne [.lit (.int .u8 x.op), .lit (.int .i64 k2), sv2] = true := by simp [h1c]
  have hV : g1 (n + 1) = some (.cells [.lit (.int .i32 a), .lit (.int .i32 b), .lit (.int .i32 c)] true 0) := by rw [hg1 (n + 1) (by omega), gput_eq]
  have HG1 : Hide (∀ i y, blks0[i]? = some y → g1 i = some y) := ⟨fun i y hy => by
    have h8 : i < 8 := (List.getElem?_eq_some_iff.1 hy).1
    rw [hg1 i (by omega)]
    simp (disch := omega) only [gput_lt]
    exact H00.out i y hy⟩
  have HREP := Hide.mk hrep
  have HT1 := Hide.mk (top_law a b c hcc hsh hty (by omega))
  have HT2 := Hide.mk (short_law a b c m hcc hm hsh hty (by omega))
  clear hrep hg1 h1a hsh hty
  iterate 8 (all_goals try (first | with_reducible refine splitI (fun h => ?_) (fun h => ?_) | with_reducible refine splitBI (fun h => ?_) (fun h => ?_) | simp (disch := first | assumption | omega | (simp; done) | fail) [Tryd.results6, *]))
  refine WC.mono (Vars_w _ _) ?_
  rintro _ rfl
  iterate 8 (all_goals try (first | with_reducible refine splitI (fun h => ?_) (fun h => ?_) | with_reducible refine splitBI (fun h => ?_) (fun h => ?_) | simp (disch := first | assumption | omega | (simp; done) | fail) [Tryd.results6, *]))
  refine WC.mono (Values_w _ _ a b c ha hb hcc) ?_
  rintro _ rfl
  iterate 8 (all_goals try (first | with_reducible refine splitI (fun h => ?_) (fun h => ?_) | with_reducible refine splitBI (fun h => ?_) (fun h => ?_) | simp (disch := first | assumption | omega | (simp; done) | fail) [Tryd.results6, *]))
  refine WC.mono (Eval_w varsE x (valsE a b c) _ _ _ _ _ (by simp (disch := omega) only [gput_lt]; exact HG1.out 0 _ rfl) (by omega) (sliceV_all (own := true) (z := 0) (by simp (disch := omega) only [gput_lt, gput_eq, gput_ne]) (by omega)) (sliceV_all (own := true) (z := 0) (by simp (disch := omega) only [gput_lt, gput_eq, gput_ne]) (by omega)) (by simp [varsE]) (by simp [valsE]) (by omega)
    (repN_mono (by omega) (fun a ha => by simp (disch := omega) only [gput_lt]) HREP.out)) ?_
  rw [HT1.out]
  rintro _ rfl
  generalize evalM (valsE a b c) x = e1 at HT2
  obtain ⟨v1, b1⟩ := e1
  have hvl : (List.flatMap VarM.cells varsE).length = 9 := rfl
  have hil : (intCells (valsE a b c)).length = 3 := rfl
  cases b1
  all_goals
    iterate 8 (all_goals try (first | with_reducible refine splitI (fun h => ?_) (fun h => ?_) | with_reducible refine splitBI (fun h => ?_) (fun h => ?_) | simp (disch := first | assumption | omega | (simp; done) | fail) [Tryd.results6, *]))
    refine WC.mono (Vars_w _ _) ?_
    rintro _ rfl
    iterate 8 (all_goals try (first | with_reducible refine splitI (fun h => ?_) (fun h => ?_) | with_reducible refine splitBI (fun h => ?_) (fun h => ?_) | simp (disch := first | assumption | omega | (simp; done) | fail) [Tryd.results6, *]))
    refine WC.mono (Values_w _ _ a b c ha hb hcc) ?_
    rintro _ rfl
    iterate 8 (all_goals try (first | with_reducible refine splitI (fun h => ?_) (fun h => ?_) | with_reducible refine splitBI (fun h => ?_) (fun h => ?_) | simp (disch := first | assumption | omega | (simp; done) | fail) [Tryd.results6, *]))
    refine WC.mono (Eval_w (varsS m) x (valsE a b c ++ [m]) _ _ _ _ _ (by simp (disch := omega) only [gput_lt]; exact HG1.out 0 _ rfl) (by omega) (.inr ⟨_, 0, ?_, .inr ⟨0, rfl⟩, ?_⟩) (.inr ⟨_, 0, ?_, .inr ⟨0, rfl⟩, ?_⟩) (by simp [varsS, varsE]) (by simp [valsE]) (by omega)
      (repN_mono (by omega) (fun a ha => by simp (disch := omega) only [gput_lt]) HREP.out)) ?_
    · omega
    · exact row_of (own := true) (z := 3) (l := List.take 9 (List.flatMap VarM.cells varsE) ++ VarM.cells ⟨nmM, m, m⟩) (by simp (disch := omega) only [gput_lt, gput_eq, gput_ne]; rfl) rfl
    · omega
    · exact row_of (own := true) (z := 1) (l := List.take 3 (intCells (valsE a b c)) ++ [.lit (.int .i64 m)]) (by simp (disch := omega) only [gput_lt, gput_eq, gput_ne]) rfl
    rw [HT2.out]
    rintro _ rfl
    iterate 8 (all_goals try (first | with_reducible refine splitI (fun h => ?_) (fun h => ?_) | with_reducible refine splitBI (fun h => ?_) (fun h => ?_) | simp (disch := first | assumption | omega | (simp; done) | fail) [Tryd.results6, *]))
    refine WC.mono (own_w (callF_ok O5_ok hG6 10000) rfl rfl HL.out _ (holds_of fun i y hy => ?_)) ?_
    · have h8 : i < 8 := (List.getElem?_eq_some_iff.1 hy).1
      have hgi := HG1.out i y hy
      show gput _ _ _ _ = _
      simp (disch := omega) only [gput_lt]
      exact hgi
    rintro _ rfl
    iterate 8 (all_goals try (first | with_reducible refine splitI (fun h => ?_) (fun h => ?_) | with_reducible refine splitBI (fun h => ?_) (fun h => ?_) | simp (disch := first | assumption | omega | (simp; done) | fail) [Tryd.results6, *]))
end Go.Ai
end
