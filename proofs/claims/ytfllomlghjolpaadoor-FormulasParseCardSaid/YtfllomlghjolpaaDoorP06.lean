/- A small verified interpreter over names, its proofs, and what was proved with it. No condition. -/
import Derived.Lib.AtoiAll
import Derived.Lib.ItoaNum
import Derived.ProofKit
import Derived.Deep.DeepHandedRow
import Derived.Test.YtfllomlghjolpaaDoorP05
import Derived.Test.YtfllomlghjolpaaDoorP03
set_option linter.all false
set_option linter.deprecated false
section
namespace Go.Ai

set_option maxRecDepth 10000
theorem gput_ne {g : Nat → Option Blk} {a j : Nat} {x : Option Blk} (h : j ≠ a) : gput g a x j = g j := if_neg h
theorem gput_eq {g : Nat → Option Blk} {a : Nat} {x : Option Blk} : gput g a x a = x := if_pos rfl
theorem ba_size_append (a b : ByteArray) : (a ++ b).size = a.size + b.size := by simp
/-- A slice with these cells. -/
def SliceV (g : Nat → Option Blk) (b : Nat) (sv : AV) (len : Nat) (cs : List AV) : Prop :=
  (len = 0 ∧ cs = [] ∧ (sv = .lit (.slice none 0 0) ∨ sv = .es)) ∨ ∃ a off, a < b ∧ ((∃ c, sv = .sl a off len c) ∨ ∃ c, sv = .slq a off len c) ∧ Row g a off cs
theorem SliceV.mono {g g' : Nat → Option Blk} {b b' len : Nat} {sv : AV} {cs : List AV} (hb : b ≤ b') (h : ∀ a, a < b → g' a = g a) : SliceV g b sv len cs → SliceV g' b' sv len cs :=
  fun hs => hs.imp id fun ⟨a, off, h1, h2, h3⟩ => ⟨a, off, by omega, h2, h3.mono (h a h1)⟩
/-- A formula: its operation, its two numbers, its subs. -/
inductive NodeM where
  | mk (op : Nat) (a b : Int) (subs : List NodeM)
def NodeM.op : NodeM → Nat
  | .mk op _ _ _ => op
mutual
def sizeN : NodeM → Nat
  | .mk _ _ _ l => sizeL l + 1
def sizeL : List NodeM → Nat
  | [] => 0
  | x :: l => sizeN x + sizeL l
end
theorem size_mem : ∀ {l : List NodeM} {x : NodeM}, x ∈ l → sizeN x ≤ sizeL l
  | y :: l, x, h => by
    unfold sizeL
    rcases List.mem_cons.1 h with rfl | h
    · omega
    · have := size_mem h; omega
theorem size_pos : ∀ (x : NodeM), 1 ≤ sizeN x
  | .mk _ _ _ _ => by unfold sizeN; omega
theorem len_size : ∀ (l : List NodeM), l.length ≤ sizeL l
  | [] => Nat.le_refl _
  | x :: l => by
    have := len_size l
    have h1 := size_pos x
    unfold sizeL
    simp only [List.length_cons]
    omega
mutual
/-- Its cells, in a memory of blocks below b. -/
def repN (g : Nat → Option Blk) (b : Nat) : NodeM → List AV → Prop
  | .mk op k q subs, cs => op < 256 ∧ ∃ sv, cs = [.lit (.int .u8 op), .lit (.int .i64 k), .lit (.int .i64 q), sv] ∧
    ((subs = [] ∧ (sv = .lit (.slice none 0 0) ∨ sv = .es)) ∨
     ∃ a off r, a < b ∧ ((∃ c, sv = .sl a off subs.length c) ∨ (∃ c, sv = .slq a off subs.length c)) ∧ Row g a off r ∧ repL g b subs r)
def repL (g : Nat → Option Blk) (b : Nat) : List NodeM → List AV → Prop
  | [], cs => cs = []
  | x :: l, cs => ∃ c r, cs = c ++ r ∧ repN g b x c ∧ repL g b l r
end
mutual
theorem repN_ext {g g' : Nat → Option Blk} {b b' : Nat} (hb : b ≤ b') (h : ∀ a x, a < b → g a = some x → g' a = some x) : ∀ {x : NodeM} {cs : List AV}, repN g b x cs → repN g' b' x cs
  | .mk op k q subs, cs, ⟨h0, sv, h1, h2⟩ => ⟨h0, sv, h1, h2.imp id fun ⟨a, off, r, h3, h4, ⟨l, own, z, h5, h6⟩, h7⟩ => ⟨a, off, r, by omega, h4, ⟨l, own, z, h a _ h3 h5, h6⟩, repL_ext hb h h7⟩⟩
theorem repL_ext {g g' : Nat → Option Blk} {b b' : Nat} (hb : b ≤ b') (h : ∀ a x, a < b → g a = some x → g' a = some x) : ∀ {l : List NodeM} {cs : List AV}, repL g b l cs → repL g' b' l cs
  | [], _, h0 => h0
  | _ :: _, _, ⟨c, r, h1, h2, h3⟩ => ⟨c, r, h1, repN_ext hb h h2, repL_ext hb h h3⟩
end
theorem repN_mono {g g' : Nat → Option Blk} {b b' : Nat} (hb : b ≤ b') (h : ∀ a, a < b → g' a = g a) {x : NodeM} {cs : List AV} (hr : repN g b x cs) : repN g' b' x cs := repN_ext hb (fun a z ha hz => (h a ha).trans hz) hr
theorem repN_len {g : Nat → Option Blk} {b : Nat} {x : NodeM} {cs : List AV} (h : repN g b x cs) : cs.length = 4 := by
  cases x with
  | mk op k q subs => obtain ⟨_, sv, rfl, _⟩ := h; rfl
theorem repL_len {g : Nat → Option Blk} {b : Nat} : ∀ {l : List NodeM} {cs : List AV}, repL g b l cs → cs.length = l.length * 4
  | [], cs, h => by have h' : cs = [] := h; rw [h']; rfl
  | x :: l, cs, ⟨c, r, h1, h2, h3⟩ => by rw [h1, List.length_append, repN_len h2, repL_len h3, List.length_cons]; omega
theorem repL_at {g : Nat → Option Blk} {b : Nat} : ∀ {l : List NodeM} {cs : List AV}, repL g b l cs → ∀ (k : Nat) (h : k < l.length), repN g b l[k] ((cs.drop (k * 4)).take 4)
  | x :: l, cs, ⟨c, r, h1, h2, h3⟩, 0, h => by
    subst h1
    have := repN_len h2
    simp only [Nat.zero_mul, List.drop_zero, List.getElem_cons_zero]
    rw [List.take_append_of_le_length (by omega), List.take_of_length_le (by omega)]
    exact h2
  | x :: l, cs, ⟨c, r, h1, h2, h3⟩, k + 1, h => by
    subst h1
    have hl := repN_len h2
    have := repL_at h3 k (by simpa using h)
    simp only [List.getElem_cons_succ]
    rw [show (k + 1) * 4 = c.length + k * 4 by omega, ← List.drop_drop, List.drop_left' rfl]
    exact this
/-- Its four cells, told apart. -/
theorem repN_one {g : Nat → Option Blk} {b : Nat} {x : NodeM} {cs : List AV} (h : repN g b x cs) : ∃ k q sv, cs = [.lit (.int .u8 x.op), .lit (.int .i64 k), .lit (.int .i64 q), sv] ∧ oneC sv = true ∧ x.op < 256 := by
  cases x with
  | mk op k q subs =>
    obtain ⟨h0, sv, rfl, h⟩ := h
    refine ⟨_, _, sv, rfl, ?_, h0⟩
    rcases h with ⟨_, rfl | rfl⟩ | ⟨a, off, r, _, ⟨c, rfl⟩ | ⟨c, rfl⟩, _⟩ <;> rfl
theorem repN_c {g : Nat → Option Blk} {n op : Nat} {x : NodeM} {k q : Int} {sv : AV} (h : repN g n x [.lit (.int .u8 op), .lit (.int .i64 k), .lit (.int .i64 q), sv]) : oneC sv = true := by
  obtain ⟨_, _, _, hcc, h1c, _⟩ := repN_one h
  cases hcc; exact h1c
mutual
/-- A cell that is no part of it may be written. -/
theorem repN_put {g g' : Nat → Option Blk} {b b' p : Nat} {v v' : AV} {o o' : Bool} {z z' : Nat} (hb : b ≤ b') (h : ∀ a, a < b → a ≠ p → g' a = g a) (h1 : g p = some (.cells [v] o z)) (h2 : g' p = some (.cells [v'] o' z')) :
    ∀ {x : NodeM} {cs : List AV}, repN g b x cs → repN g' b' x cs
  | .mk op k q subs, cs, ⟨h0, sv, e1, e2⟩ => ⟨h0, sv, e1, e2.imp id fun ⟨a, off, r, h3, h4, h5, h6⟩ => by
      refine ⟨a, off, r, by omega, h4, ?_, repL_put hb h h1 h2 h6⟩
      by_cases e : a = p
      · subst e
        obtain ⟨l, ow, zz, k1, k2, k3⟩ := h5
        rw [h1] at k1
        cases k1
        have hl := repL_len h6
        simp at k2
        have hr : r = [] := List.length_eq_zero_iff.1 (by omega)
        subst hr
        exact ⟨[v'], o', z', h2, by simp at k2 ⊢; omega, rfl⟩
      · exact h5.mono (h a h3 e)⟩
theorem repL_put {g g' : Nat → Option Blk} {b b' p : Nat} {v v' : AV} {o o' : Bool} {z z' : Nat} (hb : b ≤ b') (h : ∀ a, a < b → a ≠ p → g' a = g a) (h1 : g p = some (.cells [v] o z)) (h2 : g' p = some (.cells [v'] o' z')) :
    ∀ {l : List NodeM} {cs : List AV}, repL g b l cs → repL g' b' l cs
  | [], _, h0 => h0
  | _ :: _, _, ⟨c, r, e1, e2, e3⟩ => ⟨c, r, e1, repN_put hb h h1 h2 e2, repL_put hb h h1 h2 e3⟩
end
/-- A block of one cell holds no nodes. -/
theorem row_ne {g : Nat → Option Blk} {a off p : Nat} {r : List AV} {v : AV} {o : Bool} {z : Nat} (h : Row g a off r) (hp : g p = some (.cells [v] o z)) (hr : 2 ≤ r.length) : a ≠ p := by
  rintro rfl
  obtain ⟨l, ow, zz, k1, k2, k3⟩ := h
  rw [hp] at k1
  cases k1
  simp at k2
  omega
theorem repL_one {g : Nat → Option Blk} {b : Nat} {x : NodeM} {cs : List AV} (h : repN g b x cs) : repL g b [x] cs := ⟨cs, [], by simp, h, rfl⟩
/-- A new node in the memory of nodes. -/
theorem node_rep {gk : Nat → Option Blk} {n' n2 S op k : Nat} {subs : List NodeM} {cs : List AV} (hs : repL gk n' subs cs) (hk : subs.length = k) (hop : op < 256) (h1 : n' ≤ S) (h2 : S < n2) :
    repN (gput gk S (some (.cells cs true 0))) n2 (.mk op 0 0 subs) [.lit (.int .u8 op), .lit (.int .i64 0), .lit (.int .i64 0), .sl S 0 k k] := by
  subst hk
  refine ⟨hop, _, rfl, .inr ⟨S, 0, cs, h2, .inl ⟨_, rfl⟩, ⟨cs, true, 0, gput_eq, by simp, by simp⟩, ?_⟩⟩
  exact repL_ext (by omega) (fun a z ha hz => by rw [gput_lt (by omega)]; exact hz) hs
/-- A node in blocks from n on. -/
def FreshN (g : Nat → Option Blk) (n n' : Nat) (x : NodeM) (cs : List AV) : Prop := ∃ gk : Nat → Option Blk, (∀ a z, gk a = some z → g a = some z ∧ n ≤ a ∧ a < n') ∧ repN gk n' x cs
theorem FreshN.leaf {g : Nat → Option Blk} {n n' op : Nat} {k q : Int} (h : op < 256) : FreshN g n n' (.mk op k q []) [.lit (.int .u8 op), .lit (.int .i64 k), .lit (.int .i64 q), .lit (.slice none 0 0)] := by
  refine ⟨fun _ => none, ⟨fun a z h => ?_, ?_⟩⟩
  · cases h
  · exact ⟨h, _, rfl, .inl ⟨rfl, .inl rfl⟩⟩
theorem FreshN.keep {g g' : Nat → Option Blk} {n0 n n' n2 : Nat} {x : NodeM} {cs : List AV} (h : FreshN g n n' x cs) (h0 : n0 ≤ n) (h2 : n' ≤ n2) (hg : ∀ a, n ≤ a → a < n' → g' a = g a) : FreshN g' n0 n2 x cs := by
  obtain ⟨gk, h1, h3⟩ := h
  refine ⟨gk, fun a z hz => ?_, repN_ext h2 (fun a z _ hz => hz) h3⟩
  obtain ⟨e1, e2, e3⟩ := h1 a z hz
  exact ⟨(hg a e2 e3).trans e1, by omega, by omega⟩
theorem FreshN.rep {g : Nat → Option Blk} {n n' : Nat} {x : NodeM} {cs : List AV} (h : FreshN g n n' x cs) : repN g n' x cs := by
  obtain ⟨gk, h1, h3⟩ := h
  exact repN_ext (Nat.le_refl _) (fun a z _ hz => (h1 a z hz).1) h3
def FreshL (g : Nat → Option Blk) (n n' : Nat) (l : List NodeM) (cs : List AV) : Prop := ∃ gk : Nat → Option Blk, (∀ a z, gk a = some z → g a = some z ∧ n ≤ a ∧ a < n') ∧ repL gk n' l cs
theorem FreshL.one {g : Nat → Option Blk} {n n' : Nat} {x : NodeM} {cs : List AV} (h : FreshN g n n' x cs) : FreshL g n n' [x] cs := by
  obtain ⟨gk, h1, h3⟩ := h
  exact ⟨gk, h1, repL_one h3⟩
theorem FreshL.two {g : Nat → Option Blk} {n n' : Nat} {x y : NodeM} {cs ds : List AV} (h : FreshN g n n' x cs) (h' : FreshN g n n' y ds) : FreshL g n n' [x, y] (cs ++ ds) := by
  obtain ⟨gk, h1, h3⟩ := h
  obtain ⟨gl, h4, h5⟩ := h'
  refine ⟨fun a => if n ≤ a ∧ a < n' then g a else none, fun a z hz => ?_, cs, ds, rfl, repN_ext (Nat.le_refl _) (fun a z _ hz => ?_) h3, repL_one (repN_ext (Nat.le_refl _) (fun a z _ hz => ?_) h5)⟩
  · dsimp only at hz
    split at hz
    · rename_i h; exact ⟨hz, h⟩
    · cases hz
  · obtain ⟨e1, e2⟩ := h1 a z hz
    rw [if_pos e2, e1]
  · obtain ⟨e1, e2⟩ := h4 a z hz
    rw [if_pos e2, e1]
theorem FreshN.node {g g' : Nat → Option Blk} {n n' n2 S op k : Nat} {subs : List NodeM} {cs : List AV} (h : FreshL g n n' subs cs) (hk : subs.length = k) (hop : op < 256) (hS : g' S = some (.cells cs true 0)) (h1 : n' ≤ S) (h2 : S < n2) (h0 : n ≤ n') (hg : ∀ a, n ≤ a → a < n' → g' a = g a) :
    FreshN g' n n2 (.mk op 0 0 subs) [.lit (.int .u8 op), .lit (.int .i64 0), .lit (.int .i64 0), .sl S 0 k k] := by
  obtain ⟨gk, h3, h4⟩ := h
  refine ⟨gput gk S (some (.cells cs true 0)), fun a z hz => ?_, node_rep h4 hk hop h1 h2⟩
  rcases gput_v hz with ⟨rfl, rfl⟩ | ⟨_, hz⟩
  · exact ⟨hS, by omega, h2⟩
  · obtain ⟨e1, e2, e3⟩ := h3 a z hz
    exact ⟨(hg a e2 e3).trans e1, e2, by omega⟩
/-- A node in blocks from n on, but not in q. -/
def FreshQ (g : Nat → Option Blk) (n q n' : Nat) (x : NodeM) (cs : List AV) : Prop := ∃ gk : Nat → Option Blk, (∀ a z, gk a = some z → g a = some z ∧ n ≤ a ∧ a < n' ∧ a ≠ q) ∧ repN gk n' x cs
theorem FreshQ.rep {g : Nat → Option Blk} {n q n' : Nat} {x : NodeM} {cs : List AV} (h : FreshQ g n q n' x cs) : repN g n' x cs := by
  obtain ⟨gk, h1, h3⟩ := h
  exact repN_ext (Nat.le_refl _) (fun a z _ hz => (h1 a z hz).1) h3
theorem FreshQ.of {g g' : Nat → Option Blk} {n q n' n2 : Nat} {x : NodeM} {cs : List AV} (h : FreshN g n n' x cs) (h1 : n' ≤ q) (h2 : n' ≤ n2) (hg : ∀ a, n ≤ a → a < n' → g' a = g a) : FreshQ g' n q n2 x cs := by
  obtain ⟨gk, h3, h4⟩ := h
  refine ⟨gk, fun a z hz => ?_, repN_ext h2 (fun a z _ hz => hz) h4⟩
  obtain ⟨e1, e2, e3⟩ := h3 a z hz
  exact ⟨(hg a e2 e3).trans e1, e2, by omega, by omega⟩
theorem FreshQ.fresh {g g' : Nat → Option Blk} {n0 n q n' n2 : Nat} {x : NodeM} {cs : List AV} (h : FreshQ g n q n' x cs) (h0 : n0 ≤ n) (h2 : n' ≤ n2) (hg : ∀ a, n ≤ a → a < n' → a ≠ q → g' a = g a) : FreshN g' n0 n2 x cs := by
  obtain ⟨gk, h1, h3⟩ := h
  refine ⟨gk, fun a z hz => ?_, repN_ext h2 (fun a z _ hz => hz) h3⟩
  obtain ⟨e1, e2, e3, e4⟩ := h1 a z hz
  exact ⟨(hg a e2 e3 e4).trans e1, by omega, by omega⟩
theorem FreshQ.keep {g g' : Nat → Option Blk} {n q n' n2 : Nat} {x : NodeM} {cs : List AV} (h : FreshQ g n q n' x cs) (h2 : n' ≤ n2) (hg : ∀ a, n ≤ a → a < n' → a ≠ q → g' a = g a) : FreshQ g' n q n2 x cs := by
  obtain ⟨gk, h1, h3⟩ := h
  refine ⟨gk, fun a z hz => ?_, repN_ext h2 (fun a z _ hz => hz) h3⟩
  obtain ⟨e1, e2, e3, e4⟩ := h1 a z hz
  exact ⟨(hg a e2 e3 e4).trans e1, by omega, by omega, e4⟩
theorem FreshQ.bin {g g' : Nat → Option Blk} {n q n1 n' n2 S op : Nat} {x y : NodeM} {cs ds : List AV} (hx : FreshQ g n q n' x cs) (hy : FreshN g n1 n' y ds) (hn : n ≤ n1) (hq : q < n1) (hop : op < 256) (hS : g' S = some (.cells (cs ++ ds) true 0)) (hS0 : n ≤ S) (hS1 : n' ≤ S) (hS2 : S < n2) (hSq : S ≠ q)
    (hg : ∀ a, n ≤ a → a < n' → a ≠ q → g' a = g a) : FreshQ g' n q n2 (.mk op 0 0 [x, y]) [.lit (.int .u8 op), .lit (.int .i64 0), .lit (.int .i64 0), .sl S 0 2 2] := by
  obtain ⟨gk, h1, h3⟩ := hx
  obtain ⟨gl, h4, h5⟩ := hy
  have key : repL (fun a => if n ≤ a ∧ a < n' ∧ a ≠ q then g a else none) n' [x, y] (cs ++ ds) := by
    refine ⟨cs, ds, rfl, repN_ext (Nat.le_refl _) (fun a z _ hz => ?_) h3, repL_one (repN_ext (Nat.le_refl _) (fun a z _ hz => ?_) h5)⟩
    · obtain ⟨e1, e2⟩ := h1 a z hz
      rw [if_pos e2, e1]
    · obtain ⟨e1, e2, e3⟩ := h4 a z hz
      rw [if_pos ⟨by omega, e3, by omega⟩, e1]
  refine ⟨gput (fun a => if n ≤ a ∧ a < n' ∧ a ≠ q then g a else none) S (some (.cells (cs ++ ds) true 0)), fun a z hz => ?_, node_rep key rfl hop hS1 hS2⟩
  rcases gput_v hz with ⟨rfl, rfl⟩ | ⟨_, hz⟩
  · exact ⟨hS, hS0, hS2, hSq⟩
  · split at hz
    · rename_i h; exact ⟨(hg a h.1 h.2.1 h.2.2).trans hz, h.1, by omega, h.2.2⟩
    · cases hz
mutual
/-- How many more nodes may be: whether they are few enough; what is left. -/
def smallM : NodeM → Int → Bool × Int
  | .mk _ _ _ subs, left => smallL subs (left - 1)
def smallL : List NodeM → Int → Bool × Int
  | [], left => (decide (0 ≤ left), left)
  | y :: l, left => if left < 0 then (false, left) else match smallM y left with
    | (true, left') => smallL l left'
    | (false, left') => (false, left')
end
mutual
theorem smallM_lo : ∀ (x : NodeM) (left : Int), 0 ≤ left → -1 ≤ (smallM x left).2 ∧ (smallM x left).2 ≤ left
  | .mk _ _ _ subs, left, h => by
    have := smallL_lo subs (left - 1) (by omega)
    unfold smallM
    omega
theorem smallL_lo : ∀ (l : List NodeM) (left : Int), -1 ≤ left → -1 ≤ (smallL l left).2 ∧ (smallL l left).2 ≤ left
  | [], left, h => ⟨h, Int.le_refl _⟩
  | y :: l, left, h => by
    unfold smallL
    by_cases h0 : left < 0
    · rw [if_pos h0]; exact ⟨h, Int.le_refl _⟩
    · rw [if_neg h0]
      have h1 := smallM_lo y left (by omega)
      cases hs : smallM y left with
      | mk b left' =>
        rw [hs] at h1
        cases b with
        | false => exact h1
        | true =>
          have h2 := smallL_lo l left' h1.1
          dsimp only at h1 ⊢
          omega
end
theorem smallL_true {y : NodeM} {l : List NodeM} {left : Int} (h : ¬left < 0) (h1 : (smallM y left).1 = true) : smallL (y :: l) left = smallL l (smallM y left).2 := by
  rw [smallL, if_neg h]
  cases hs : smallM y left with
  | mk b q => rw [hs] at h1; cases b <;> simp_all
theorem smallL_false {y : NodeM} {l : List NodeM} {left : Int} (h : ¬left < 0) (h1 : (smallM y left).1 = false) : smallL (y :: l) left = (false, (smallM y left).2) := by
  rw [smallL, if_neg h]
  cases hs : smallM y left with
  | mk b q => rw [hs] at h1; cases b <;> simp_all
end Go.Ai
end

section
namespace Go.Ai
set_option maxRecDepth 10000
def letterM (c : Int) : Bool := decide (97 ≤ c ∧ c ≤ 122) || decide (65 ≤ c ∧ c ≤ 90)
def digitM (c : Int) : Bool := decide (48 ≤ c ∧ c ≤ 57)
theorem digit_in {c : Int} (h : digitM c = true) : 48 ≤ c ∧ c ≤ 57 := by simpa [digitM] using h
def runF (F : Nat → Int → Bool) (s : ByteArray) (k : Nat) : Nat → Nat → Nat
  | 0, j => j
  | m + 1, j => if k + j < s.size then (if F j (bAt s (k + j)) = true then runF F s k m (j + 1) else j) else j
def fLetter : Nat → Int → Bool := fun _ c => letterM c
def fDigit : Nat → Int → Bool := fun _ c => digitM c
theorem runF_le {F : Nat → Int → Bool} {s : ByteArray} {k : Nat} : ∀ (m j : Nat), k + j ≤ s.size → j ≤ runF F s k m j ∧ k + runF F s k m j ≤ s.size
  | 0, j, h => ⟨Nat.le_refl _, h⟩
  | m + 1, j, h => by
    unfold runF
    split
    · split
      · have := runF_le (F := F) (s := s) (k := k) m (j + 1) (by omega); omega
      · exact ⟨Nat.le_refl _, h⟩
    · exact ⟨Nat.le_refl _, h⟩
theorem run_step {F : Nat → Int → Bool} {s : ByteArray} {i j : Nat} (h : i + j < s.size) : runF F s i (s.size - i - j) j = if F j (bAt s (i + j)) = true then runF F s i (s.size - i - (j + 1)) (j + 1) else j := by
  rw [show s.size - i - j = (s.size - i - (j + 1)) + 1 by omega, runF, if_pos h]
theorem run_end {F : Nat → Int → Bool} {s : ByteArray} {i j : Nat} (h : s.size ≤ i + j) : runF F s i (s.size - i - j) j = j := by
  rw [show s.size - i - j = 0 by omega]
  rfl
def skipM (s : ByteArray) : Nat → Nat → Nat
  | 0, k => k
  | m + 1, k => if k < s.size then (if bAt s k = 32 then skipM s m (k + 1) else k) else k
theorem skipM_le {s : ByteArray} : ∀ (m k : Nat), k ≤ s.size → k ≤ skipM s m k ∧ skipM s m k ≤ s.size
  | 0, k, h => ⟨Nat.le_refl _, h⟩
  | m + 1, k, h => by
    unfold skipM
    split
    · split
      · have := skipM_le (s := s) m (k + 1) (by omega); omega
      · omega
    · omega
/-- How long the token at k is. -/
def tokN (s : ByteArray) (k : Nat) : Nat :=
  if letterM (bAt s k) = true then runF fLetter s k (s.size - k - 1) 1 else if digitM (bAt s k) = true then runF fDigit s k (s.size - k - 1) 1 else 1
theorem tokN_le {s : ByteArray} {k : Nat} (h : k < s.size) : 1 ≤ tokN s k ∧ k + tokN s k ≤ s.size := by
  have h1 := runF_le (F := fLetter) (s := s) (k := k) (s.size - k - 1) 1 (by omega)
  have h2 := runF_le (F := fDigit) (s := s) (k := k) (s.size - k - 1) 1 (by omega)
  unfold tokN
  split
  · omega
  · split <;> omega
/-- The token at k. -/
def tokB (s : ByteArray) (k : Nat) : ByteArray := if k = s.size then ⟨#[]⟩ else s.extract k (k + tokN s k)
def advM (s : ByteArray) (j : Nat) : Nat := skipM s (s.size - j) j
/-- Where the token stands that follows the one at k. -/
def nxtM (s : ByteArray) (k : Nat) : Nat := advM s (k + (tokB s k).size)
theorem tok_size {s : ByteArray} {k : Nat} (h : k < s.size) : (tokB s k).size = tokN s k := by
  have := tokN_le h
  unfold tokB
  rw [if_neg (by omega), ByteArray.size_extract]
  omega
theorem tok_le {s : ByteArray} {k : Nat} (h : k ≤ s.size) : k + (tokB s k).size ≤ s.size := by
  by_cases h1 : k = s.size
  · have : (tokB s k).size = 0 := by unfold tokB; rw [if_pos h1]; rfl
    omega
  · rw [tok_size (by omega)]
    exact (tokN_le (by omega)).2
theorem advM_le {s : ByteArray} {j : Nat} (h : j ≤ s.size) : j ≤ advM s j ∧ advM s j ≤ s.size := skipM_le _ _ h
theorem nxtM_le {s : ByteArray} {k : Nat} (h : k ≤ s.size) : nxtM s k ≤ s.size := (advM_le (tok_le h)).2
theorem nxtM_ge {s : ByteArray} {k : Nat} (h : k ≤ s.size) : k ≤ nxtM s k := by
  have h1 := (advM_le (tok_le h)).1
  unfold nxtM
  omega
theorem nxtM_lt {s : ByteArray} {k : Nat} (h : k < s.size) : k < nxtM s k := by
  have h1 := (advM_le (tok_le (Nat.le_of_lt h))).1
  have h2 := tok_size h
  have h3 := tokN_le h
  unfold nxtM
  omega
theorem tok_empty {s : ByteArray} {k : Nat} (h : k ≤ s.size) : tokB s k = ⟨#[]⟩ ↔ k = s.size := by
  constructor
  · intro e
    apply Classical.byContradiction
    intro hne
    have h2 := tok_size (s := s) (k := k) (by omega)
    have h3 := tokN_le (s := s) (k := k) (by omega)
    rw [e] at h2
    have : (⟨#[]⟩ : ByteArray).size = 0 := rfl
    omega
  · intro e; unfold tokB; rw [if_pos e]
theorem tok_full {s : ByteArray} {k : Nat} {t : ByteArray} (h : k ≤ s.size) (ht : tokB s k = t) (h0 : 0 < t.size) : k < s.size := by
  have hne : k ≠ s.size := fun e => by
    have := (tok_empty h).2 e
    rw [ht] at this
    rw [this] at h0
    exact absurd h0 (by decide)
  omega
theorem adv_stay {s : ByteArray} {k : Nat} (h : k = s.size ∨ bAt s k ≠ 32) : advM s k = k := by
  unfold advM
  rcases h with h | h
  · rw [h, Nat.sub_self]; rfl
  · cases hm : s.size - k with
    | zero => rfl
    | succ m =>
      unfold skipM
      split
      · first | rfl | rw [if_neg h]
      · rfl
theorem adv_skip {s : ByteArray} {k : Nat} (hk : k < s.size) (h : bAt s k = 32) : advM s k = advM s (k + 1) := by
  unfold advM
  rw [show s.size - k = (s.size - (k + 1)) + 1 by omega, skipM, if_pos hk, if_pos h]
/-- The signs of the operations. -/
def signs : List ByteArray := [⟨#[116, 114, 117, 101]⟩, ⟨#[115, 116, 97, 116, 101]⟩, ⟨#[99, 97, 110]⟩, ⟨#[103, 105, 118, 101, 115]⟩, ⟨#[110, 111, 116]⟩, ⟨#[97, 110, 100]⟩, ⟨#[111, 114]⟩, ⟨#[69, 88]⟩, ⟨#[69, 70]⟩, ⟨#[69, 71]⟩, ⟨#[69]⟩, ⟨#[65, 88]⟩, ⟨#[65, 70]⟩, ⟨#[65, 71]⟩, ⟨#[65]⟩]
def signB (o : Nat) : ByteArray := signs.getD o ⟨#[]⟩
def openT : ByteArray := ⟨#[40]⟩
def closeT : ByteArray := ⟨#[41]⟩
def leftT : ByteArray := ⟨#[91]⟩
def rightT : ByteArray := ⟨#[93]⟩
def untilT : ByteArray := ⟨#[85]⟩
/-- How many subs an operation has. -/
def subsM (o : Nat) : Nat := if o < 4 then 0 else if o = 5 ∨ o = 6 ∨ o = 10 ∨ o = 14 then 2 else 1
/-- The operation that a token begins. -/
def opFrom (t : ByteArray) : List Nat → Option Nat
  | [] => none
  | o :: l => if o ≠ 5 ∧ o ≠ 6 ∧ signB o = t then some o else opFrom t l
def opOf (t : ByteArray) : Option Nat := opFrom t (List.range 15)
theorem opFrom_some {t : ByteArray} : ∀ {l : List Nat} {o : Nat}, opFrom t l = some o → o ∈ l ∧ o ≠ 5 ∧ o ≠ 6 ∧ signB o = t
  | [], o, h => by cases h
  | x :: l, o, h => by
    unfold opFrom at h
    split at h
    · rename_i e; cases h; exact ⟨by simp, e⟩
    · have := opFrom_some h; exact ⟨by simp [this.1], this.2⟩
theorem opOf_some {t : ByteArray} {o : Nat} (h : opOf t = some o) : o < 15 ∧ o ≠ 5 ∧ o ≠ 6 ∧ signB o = t := by
  have := opFrom_some h
  exact ⟨List.mem_range.1 this.1, this.2⟩
theorem signB_pos {o : Nat} (h : o < 15) : 0 < (signB o).size := by
  have : o = 0 ∨ o = 1 ∨ o = 2 ∨ o = 3 ∨ o = 4 ∨ o = 5 ∨ o = 6 ∨ o = 7 ∨ o = 8 ∨ o = 9 ∨ o = 10 ∨ o = 11 ∨ o = 12 ∨ o = 13 ∨ o = 14 := by omega
  rcases this with rfl | rfl | rfl | rfl | rfl | rfl | rfl | rfl | rfl | rfl | rfl | rfl | rfl | rfl | rfl <;> decide
def valN (s : ByteArray) : Nat → Nat → Nat → Nat
  | 0, _, a => a
  | m + 1, k, a => valN s m (k + 1) (a * 10 + (bAt s k - 48).toNat)
/-- The number that digits write. -/
def valB (s : ByteArray) : Nat := valN s s.size 0 0
def digitsB (s : ByteArray) : Prop := ∀ k, k < s.size → digitM (bAt s k) = true
theorem valN_snoc {s : ByteArray} : ∀ (m k a : Nat), valN s (m + 1) k a = valN s m k a * 10 + (bAt s (k + m) - 48).toNat
  | 0, k, a => by simp [valN]
  | m + 1, k, a => by
    rw [valN, valN_snoc m (k + 1), valN, show k + 1 + m = k + (m + 1) by omega]
theorem valN_lt {s : ByteArray} (hd : digitsB s) : ∀ (m : Nat), m ≤ s.size → valN s m 0 0 < 10 ^ m
  | 0, _ => by simp [valN]
  | m + 1, h => by
    have h1 := valN_lt hd m (by omega)
    have h2 := digit_in (hd m (by omega))
    rw [valN_snoc, Nat.zero_add, Nat.pow_succ]
    omega
open Classical in
/-- The number that a token is. -/
noncomputable def numM (t : ByteArray) : Option Nat := if 0 < t.size ∧ t.size ≤ 4 ∧ digitsB t ∧ ¬(bAt t 0 = 48 ∧ 1 < t.size) then some (valB t) else none
theorem numM_some {t : ByteArray} {v : Nat} (h : numM t = some v) : 0 < t.size ∧ v < 10000 := by
  unfold numM at h
  split at h
  · rename_i e
    cases h
    refine ⟨e.1, ?_⟩
    have := valN_lt e.2.2.1 t.size (Nat.le_refl _)
    have h4 : (10 : Nat) ^ t.size ≤ 10 ^ 4 := Nat.pow_le_pow_right (by omega) e.2.1
    unfold valB
    omega
  · cases h
/-- What joins formulas at a rank. -/
def bopM (rank : Nat) : Nat := if rank = 2 then 5 else 6
theorem bopM_or (rank : Nat) : bopM rank = 5 ∨ bopM rank = 6 := by unfold bopM; split <;> simp
/-- How reading ends. -/
inductive ParR where
  | ok (x : NodeM) (k : Nat)
  | err (k : Nat)
section
variable (s : ByteArray)
mutual
/-- Reading of at least a rank. -/
noncomputable def readF : Nat → Nat → Nat → Option ParR
  | 0, _, _ => none
  | m + 1, rank, k =>
    if 3 ≤ rank then singF m k
    else match readF m (rank + 1) k with
      | some (.ok x k') => loopF m rank x k'
      | r => r
noncomputable def loopF : Nat → Nat → NodeM → Nat → Option ParR
  | 0, _, _, _ => none
  | m + 1, rank, x, k =>
    if tokB s k = signB (bopM rank) then
      match readF m (rank + 1) (nxtM s k) with
      | some (.ok y k') => loopF m rank (.mk (bopM rank) 0 0 [x, y]) k'
      | r => r
    else some (.ok x k)
noncomputable def singF : Nat → Nat → Option ParR
  | 0, _ => none
  | m + 1, k =>
    if tokB s k = openT then
      match readF m 1 (nxtM s k) with
      | some (.ok x k') => if tokB s k' = closeT then some (.ok x (nxtM s k')) else some (.err k')
      | r => r
    else match opOf (tokB s k) with
      | none => some (.err k)
      | some o =>
        if subsM o = 2 then
          if tokB s (nxtM s k) = leftT then
            match readF m 1 (nxtM s (nxtM s k)) with
            | some (.ok a k1) =>
              if tokB s k1 = untilT then
                match readF m 1 (nxtM s k1) with
                | some (.ok b k2) => if tokB s k2 = rightT then some (.ok (.mk o 0 0 [a, b]) (nxtM s k2)) else some (.err k2)
                | r => r
              else some (.err k1)
            | r => r
          else some (.err (nxtM s k))
        else if subsM o = 1 then
          match singF m (nxtM s k) with
          | some (.ok x k') => some (.ok (.mk o 0 0 [x]) k')
          | r => r
        else if o = 0 then some (.ok (.mk 0 0 0 []) (nxtM s k))
        else match numM (tokB s (nxtM s k)) with
          | none => some (.err (nxtM s k))
          | some a =>
            if o = 3 then
              match numM (tokB s (nxtM s (nxtM s k))) with
              | none => some (.err (nxtM s (nxtM s k)))
              | some b => some (.ok (.mk 3 (a : Nat) (b : Nat) []) (nxtM s (nxtM s (nxtM s k))))
            else some (.ok (.mk o (a : Nat) 0 []) (nxtM s (nxtM s k)))
end
end
mutual
/-- Is a formula valid for so many states, inputs and outputs? -/
def validM (st inp out : Int) : NodeM → Bool
  | .mk op a b subs => decide (op < 15) && (decide (subs.length = subsM op) && (decide (0 ≤ a) && (decide (0 ≤ b) && (decide (a < if op = 1 then st else if op = 2 ∨ op = 3 then inp else 1) && (decide (b < if op = 3 then out else 1) && validL st inp out subs)))))
def validL (st inp out : Int) : List NodeM → Bool
  | [] => true
  | x :: l => validM st inp out x && validL st inp out l
end
/-- What was read is valid, and no longer than its text. -/
def ReadGood (s : ByteArray) (k : Nat) (x : NodeM) (k' : Nat) : Prop := k < k' ∧ k' ≤ s.size ∧ sizeN x + k ≤ k' ∧ validM 10000 10000 10000 x = true
theorem read_good {s : ByteArray} : ∀ (m : Nat), (∀ rank k x k', k ≤ s.size → readF s m rank k = some (.ok x k') → ReadGood s k x k') ∧ (∀ rank x0 k0 k x k', ReadGood s k0 x0 k → loopF s m rank x0 k = some (.ok x k') → ReadGood s k0 x k') ∧
    (∀ k x k', k ≤ s.size → singF s m k = some (.ok x k') → ReadGood s k x k')
  | 0 => ⟨fun _ _ _ _ _ h => (by rw [readF] at h; cases h), fun _ _ _ _ _ _ _ h => (by rw [loopF] at h; cases h), fun _ _ _ _ h => (by rw [singF] at h; cases h)⟩
  | m + 1 => by
    obtain ⟨i1, i2, i3⟩ := read_good (s := s) m
    refine ⟨fun rank k x k' hk h => ?_, fun rank x0 k0 k x k' hg h => ?_, fun k x k' hk h => ?_⟩
    · rw [readF] at h
      split at h
      · exact i3 _ _ _ hk h
      · split at h
        · rename_i x1 k1 e
          exact i2 _ _ _ _ _ _ (i1 _ _ _ _ hk e) h
        · rename_i hno; exact absurd h (hno x k')
    · obtain ⟨g1, g2, g3, g4⟩ := hg
      rw [loopF] at h
      split at h
      · rename_i e0
        have n0 := tok_full g2 e0 (signB_pos (by have := bopM_or rank; omega))
        have n1 := nxtM_lt n0
        have n2 := nxtM_le g2
        split at h
        · rename_i y k1 e
          obtain ⟨h1, h2, h3, h4⟩ := i1 _ _ _ _ n2 e
          refine i2 _ _ _ _ _ _ ⟨by omega, h2, by simp only [sizeN, sizeL]; omega, ?_⟩ h
          rcases bopM_or rank with e | e <;> simp [validM, validL, subsM, e, g4, h4]
        · rename_i hno; exact absurd h (hno x k')
      · cases h; exact ⟨g1, g2, g3, g4⟩
    · rw [singF] at h
      split at h
      · rename_i e0
        have n0 := tok_full hk e0 (by decide)
        have n1 := nxtM_lt n0
        have n2 := nxtM_le hk
        split at h
        · rename_i x1 k1 e
          obtain ⟨h1, h2, h3, h4⟩ := i1 _ _ _ _ n2 e
          split at h
          · rename_i e1
            have n3 := nxtM_lt (tok_full h2 e1 (by decide))
            have n4 := nxtM_le h2
            cases h
            exact ⟨by omega, n4, by omega, h4⟩
          · cases h
        · rename_i hno; exact absurd h (hno x k')
      · split at h
        · cases h
        · rename_i o e0
          obtain ⟨ho, ho5, ho6, hsg⟩ := opOf_some e0
          have n0 := tok_full hk hsg.symm (signB_pos ho)
          have n1 := nxtM_lt n0
          have n2 := nxtM_le hk
          split at h
          · rename_i hs2
            split at h
            · rename_i e1
              have m1 := nxtM_lt (tok_full n2 e1 (by decide))
              have m2 := nxtM_le n2
              split at h
              · rename_i a k1 e2
                obtain ⟨h1, h2, h3, h4⟩ := i1 _ _ _ _ m2 e2
                split at h
                · rename_i e3
                  have p1 := nxtM_lt (tok_full h2 e3 (by decide))
                  have p2 := nxtM_le h2
                  split at h
                  · rename_i b k2 e4
                    obtain ⟨j1, j2, j3, j4⟩ := i1 _ _ _ _ p2 e4
                    split at h
                    · rename_i e5
                      have q1 := nxtM_lt (tok_full j2 e5 (by decide))
                      have q2 := nxtM_le j2
                      cases h
                      refine ⟨by omega, q2, by simp only [sizeN, sizeL]; omega, ?_⟩
                      have : o = 10 ∨ o = 14 := by unfold subsM at hs2; split at hs2; omega; split at hs2 <;> omega
                      rcases this with rfl | rfl <;> simp [validM, validL, subsM, h4, j4]
                    · cases h
                  · rename_i hno; exact absurd h (hno x k')
                · cases h
              · rename_i hno; exact absurd h (hno x k')
            · cases h
          · split at h
            · rename_i hs1
              split at h
              · rename_i x1 k1 e
                obtain ⟨h1, h2, h3, h4⟩ := i3 _ _ _ n2 e
                cases h
                refine ⟨by omega, h2, by simp only [sizeN, sizeL]; omega, ?_⟩
                have : o = 4 ∨ o = 7 ∨ o = 8 ∨ o = 9 ∨ o = 11 ∨ o = 12 ∨ o = 13 := by unfold subsM at hs1; split at hs1; omega; split at hs1 <;> omega
                rcases this with rfl | rfl | rfl | rfl | rfl | rfl | rfl <;> simp [validM, validL, subsM, h4]
              · rename_i hno; exact absurd h (hno x k')
            · rename_i hs2 hs1
              have ho4 : o < 4 := by
                apply Classical.byContradiction
                intro h4
                unfold subsM at hs1 hs2
                rw [if_neg h4] at hs1 hs2
                split at hs1
                · rename_i e; rw [if_pos e] at hs2; exact hs2 rfl
                · exact hs1 rfl
              split at h
              · cases h
                exact ⟨n1, n2, by simp only [sizeN, sizeL]; omega, by decide⟩
              · rename_i ho0
                split at h
                · cases h
                · rename_i a ea
                  obtain ⟨a1, a2⟩ := numM_some ea
                  have m1 := nxtM_lt (tok_full n2 rfl a1)
                  have m2 := nxtM_le n2
                  split at h
                  · split at h
                    · cases h
                    · rename_i b eb
                      obtain ⟨b1, b2⟩ := numM_some eb
                      have p1 := nxtM_lt (tok_full m2 rfl b1)
                      have p2 := nxtM_le m2
                      cases h
                      refine ⟨by omega, p2, by simp only [sizeN, sizeL]; omega, ?_⟩
                      simp [validM, validL, subsM]
                      omega
                  · rename_i ho3
                    cases h
                    refine ⟨by omega, m2, by simp only [sizeN, sizeL]; omega, ?_⟩
                    have : o = 1 ∨ o = 2 := by omega
                    rcases this with rfl | rfl <;> (simp [validM, validL, subsM]; omega)
end Go.Ai
end

section
namespace Go.Ai
set_option maxRecDepth 10000
def valL (acc : Nat) : List UInt8 → Nat
  | [] => acc
  | c :: r => valL (acc * 10 + (c.toNat - 48)) r
theorem valL_le : ∀ (l : List UInt8) (acc : Nat), acc ≤ valL acc l
  | [], acc => Nat.le_refl _
  | c :: r, acc => by
    have := valL_le r (acc * 10 + (c.toNat - 48))
    unfold valL
    omega
theorem valL_snoc : ∀ (l : List UInt8) (acc : Nat) (d : UInt8), valL acc (l ++ [d]) = valL acc l * 10 + (d.toNat - 48)
  | [], acc, d => rfl
  | c :: r, acc, d => valL_snoc r (acc * 10 + (c.toNat - 48)) d
theorem parse10_eq : ∀ (l : List UInt8) (acc : Nat), (∀ c ∈ l, 48 ≤ c.toNat ∧ c.toNat ≤ 57) → acc < 18446744073709551616 → Lib.parseUint10 acc l = if valL acc l < 18446744073709551616 then .ok (valL acc l) else .range
  | [], acc, _, h => by unfold Lib.parseUint10 valL; rw [if_pos h]
  | c :: r, acc, hc, h => by
    have h1 := hc c (by simp)
    have h2 := valL_le r (acc * 10 + (c.toNat - 48))
    unfold Lib.parseUint10
    rw [if_pos h1]
    show _ = if valL (acc * 10 + (c.toNat - 48)) r < _ then _ else _
    by_cases h3 : 1844674407370955162 ≤ acc
    · rw [if_pos h3, if_neg (by omega)]
    · rw [if_neg h3]
      by_cases h4 : 18446744073709551616 ≤ acc * 10 + (c.toNat - 48)
      · rw [if_pos h4, if_neg (by omega)]
      · rw [if_neg h4, parse10_eq r _ (fun d hd => hc d (by simp [hd])) (by omega)]
        rfl
theorem tl_len (s : ByteArray) : s.data.toList.length = s.size := by simp
theorem bAt_list {s : ByteArray} {k : Nat} (h : k < s.size) : bAt s k = ((s.data.toList[k]'(by simpa using h)).toNat : Nat) := by
  unfold bAt
  rw [dif_pos h]
  simp
  rfl
theorem drop_at {l : List UInt8} {k : Nat} (h : k < l.length) : l.drop k = l[k] :: l.drop (k + 1) := List.drop_eq_getElem_cons h
theorem valN_list {s : ByteArray} (m : Nat) : ∀ (k acc : Nat), k + m = s.size → valN s m k acc = valL acc (s.data.toList.drop k) := by
  induction m with
  | zero =>
    intro k acc h
    rw [List.drop_eq_nil_of_le (by simp; omega)]
    rfl
  | succ m ih =>
    intro k acc h
    have hk : k < s.size := by omega
    have hl : k < s.data.toList.length := by simpa using hk
    have e2 : (bAt s k - 48).toNat = (s.data.toList[k]).toNat - 48 := by
      rw [bAt_list hk]
      omega
    have e1 : valN s (m + 1) k acc = valN s m (k + 1) (acc * 10 + (bAt s k - 48).toNat) := by rw [valN]
    rw [e1, ih (k + 1) _ (by omega), e2, drop_at hl]
    rfl
theorem digits_list {s : ByteArray} (hd : digitsB s) : ∀ c ∈ s.data.toList, 48 ≤ c.toNat ∧ c.toNat ≤ 57 := by
  intro c hc
  obtain ⟨k, hk, rfl⟩ := List.mem_iff_getElem.1 hc
  have hk' : k < s.size := by simpa using hk
  have := digit_in (hd k hk')
  rw [bAt_list hk'] at this
  omega
theorem list_digits {s : ByteArray} (hd : ∀ c ∈ s.data.toList, 48 ≤ c.toNat ∧ c.toNat ≤ 57) : digitsB s := by
  intro k hk
  have := hd _ (List.getElem_mem (l := s.data.toList) (n := k) (by simpa using hk))
  rw [bAt_list hk]
  unfold digitM
  rw [decide_eq_true]
  omega
theorem valB_list (s : ByteArray) : valB s = valL 0 s.data.toList := by
  have := valN_list (s := s) s.size 0 0 (by omega)
  rw [List.drop_zero] at this
  exact this
/-- A row of digits that begins with no nought, or is but one. -/
def Plain (l : List UInt8) : Prop := l ≠ [] ∧ (∀ c ∈ l, 48 ≤ c.toNat ∧ c.toNat ≤ 57) ∧ (∀ c r, l = c :: r → r ≠ [] → c.toNat ≠ 48)
theorem valL_pos : ∀ (l : List UInt8) (c : UInt8), 48 < c.toNat → 1 ≤ valL 0 (c :: l) := by
  intro l c h
  have := valL_le l (0 * 10 + (c.toNat - 48))
  show 1 ≤ valL (0 * 10 + (c.toNat - 48)) l
  omega
theorem dec_plain : ∀ (n : Nat) (l : List UInt8), l.length ≤ n → Plain l → Lib.decDigits (valL 0 l) = l
  | 0, l, h, hp => absurd (List.length_eq_zero_iff.1 (by omega)) hp.1
  | n + 1, l, h, hp => by
    obtain ⟨init, d, rfl⟩ : ∃ i d, l = i ++ [d] := ⟨l.dropLast, l.getLast hp.1, (List.dropLast_concat_getLast hp.1).symm⟩
    have hd := hp.2.1 d (by simp)
    have h8 : UInt8.ofNat (48 + (d.toNat - 48)) = d := by
      rw [show 48 + (d.toNat - 48) = d.toNat by omega]
      exact UInt8.ofNat_toNat
    rw [valL_snoc]
    cases hi : init with
    | nil =>
      show Lib.decDigits (0 * 10 + (d.toNat - 48)) = [d]
      rw [Lib.decDigits, dif_pos (by omega), Nat.zero_mul, Nat.zero_add, h8]
    | cons c r =>
      have hc := hp.2.1 c (by simp [hi])
      have hc0 := hp.2.2 c (r ++ [d]) (by simp [hi]) (by simp)
      have h1 := valL_pos r c (by omega)
      rw [← hi] at h1 ⊢
      have ih := dec_plain n init (by simp at h; omega) ⟨by simp [hi], fun x hx => hp.2.1 x (by simp [hx]), fun x y e hy => hp.2.2 x (y ++ [d]) (by rw [e]; rfl) (by simp)⟩
      rw [Lib.decDigits, dif_neg (by omega)]
      rw [show (valL 0 init * 10 + (d.toNat - 48)) / 10 = valL 0 init by omega, show (valL 0 init * 10 + (d.toNat - 48)) % 10 = d.toNat - 48 by omega, ih, h8]
theorem ofNat_dig {u : Nat} (h : u < 10) : (UInt8.ofNat (48 + u)).toNat = 48 + u := by
  rw [UInt8.toNat_ofNat']
  omega
theorem plain_dec : ∀ (n u : Nat), u ≤ n → Plain (Lib.decDigits u) ∧ (1 ≤ u → ∀ c r, Lib.decDigits u = c :: r → c.toNat ≠ 48) ∧ ∀ k, u < 10 ^ (k + 1) → (Lib.decDigits u).length ≤ k + 1
  | n, u, hn => by
    by_cases h : u < 10
    · rw [Lib.decDigits, dif_pos h]
      have e := ofNat_dig h
      refine ⟨⟨by simp, fun c hc => ?_, fun c r hr hne => ?_⟩, fun h1 c r hr => ?_, fun k _ => by simp⟩
      · have : c = UInt8.ofNat (48 + u) := by simpa using hc
        rw [this, e]; omega
      · cases hr; exact absurd rfl hne
      · cases hr; rw [e]; omega
    · obtain ⟨n', rfl⟩ : ∃ n', n = n' + 1 := ⟨n - 1, by omega⟩
      obtain ⟨⟨p1, p2, p3⟩, p4, p5⟩ := plain_dec n' (u / 10) (by omega)
      have e := ofNat_dig (u := u % 10) (by omega)
      have hne0 := p4 (by omega)
      rw [Lib.decDigits, dif_neg h]
      refine ⟨⟨by simp, fun c hc => ?_, fun c r hr _ => ?_⟩, fun _ c r hr => ?_, fun k hk => ?_⟩
      · rcases List.mem_append.1 hc with hc | hc
        · exact p2 c hc
        · have : c = UInt8.ofNat (48 + u % 10) := by simpa using hc
          rw [this, e]; omega
      · cases hq : Lib.decDigits (u / 10) with
        | nil => exact absurd hq p1
        | cons x y => rw [hq] at hr; cases hr; exact hne0 _ _ hq
      · cases hq : Lib.decDigits (u / 10) with
        | nil => exact absurd hq p1
        | cons x y => rw [hq] at hr; cases hr; exact hne0 _ _ hq
      · cases k with
        | zero => simp at hk; omega
        | succ k =>
          have := p5 k (by rw [Nat.pow_succ] at hk; omega)
          simp; omega
theorem atoiAll_digits {s : ByteArray} (h0 : 0 < s.size) (hd : digitsB s) : Lib.atoiAll s.data.toList = if valB s ≤ 9223372036854775807 then .ok (valB s : Nat) else .range := by
  have hl := digits_list hd
  have hv := valB_list s
  cases hs : s.data.toList with
  | nil =>
    exfalso
    have := tl_len s
    rw [hs] at this
    simp only [List.length_nil] at this
    omega
  | cons c r =>
    rw [hs] at hl hv
    have hc := hl c (by simp)
    rw [hv]
    unfold Lib.atoiAll Lib.parseMag
    dsimp only
    rw [if_neg (show ¬(c.toNat = 43 ∨ c.toNat = 45) by omega), if_neg (by simp), parse10_eq _ 0 hl (by omega)]
    by_cases h1 : valL 0 (c :: r) < 18446744073709551616
    · rw [if_pos h1]
      dsimp only
      by_cases h2 : 9223372036854775808 ≤ valL 0 (c :: r)
      · rw [if_pos ⟨by omega, h2⟩, if_neg (by omega)]
      · rw [if_neg (fun h => h2 h.2), if_neg (fun h => by omega), if_neg (by omega), if_pos (by omega)]
    · rw [if_neg h1, if_neg (by omega)]
theorem numM_yes {t : ByteArray} {a : Nat} (h : numM t = some a) : Lib.atoiAll t.data.toList = .ok (a : Int) ∧ Lib.itoa (a : Int) = t.data.toList ∧ a < 10000 := by
  have hs := numM_some h
  unfold numM at h
  split at h
  · rename_i e
    obtain ⟨e1, e2, e3, e4⟩ := e
    have ha : valB t = a := by cases h; rfl
    have hp : Plain t.data.toList := by
      refine ⟨fun e => ?_, digits_list e3, fun c r hr hne h48 => ?_⟩
      · have := tl_len t
        rw [e] at this
        simp only [List.length_nil] at this
        omega
      · have hsz := tl_len t
        refine e4 ⟨?_, ?_⟩
        · rw [bAt_list e1]
          simp only [hr, List.getElem_cons_zero, h48]
          rfl
        · rw [← hsz, hr]
          have : 0 < r.length := List.length_pos_iff.2 hne
          simp; omega
    refine ⟨?_, ?_, hs.2⟩
    · rw [atoiAll_digits e1 e3, if_pos (by omega), ha]
    · unfold Lib.itoa
      rw [if_neg (by omega), Int.toNat_natCast, ← ha, valB_list]
      exact dec_plain _ _ (Nat.le_refl _) hp
  · cases h
theorem numM_no {t : ByteArray} (h : numM t = none) (ht : bAt t 0 = 45 → t.size ≤ 1) {v : Int} (hv : v < 10000) : Lib.itoa v ≠ t.data.toList := by
  intro e
  have hsz := tl_len t
  unfold Lib.itoa at e
  by_cases h0 : v < 0
  · rw [if_pos h0] at e
    obtain ⟨⟨p1, _⟩, _⟩ := plain_dec _ v.natAbs (Nat.le_refl _)
    have h1 : 0 < t.size := by rw [← hsz, ← e]; simp
    have h2 : bAt t 0 = 45 := by
      rw [bAt_list h1]
      simp only [← e, List.getElem_cons_zero]
      rfl
    have h3 := ht h2
    rw [← hsz, ← e] at h3
    have := List.length_pos_iff.2 p1
    rw [List.length_cons] at h3
    omega
  · rw [if_neg h0] at e
    obtain ⟨⟨p1, p2, p3⟩, p4, p5⟩ := plain_dec _ v.toNat (Nat.le_refl _)
    have h4 := p5 3 (by omega)
    rw [e] at p1 p2 p3 h4
    have h1 : 0 < t.size := by rw [← hsz]; exact List.length_pos_iff.2 p1
    have hno : ¬(bAt t 0 = 48 ∧ 1 < t.size) := by
      rintro ⟨h5, h6⟩
      cases hq : t.data.toList with
      | nil => exact p1 hq
      | cons c r =>
        rw [bAt_list h1] at h5
        simp only [hq, List.getElem_cons_zero] at h5
        refine p3 c r hq (fun er => ?_) (by omega)
        rw [hq, er] at hsz
        simp only [List.length_cons, List.length_nil] at hsz
        omega
    have h7 : numM t = some (valB t) := by unfold numM; exact if_pos ⟨h1, by omega, list_digits p2, hno⟩
    rw [h7] at h
    cases h
end Go.Ai
end

section
namespace Go.Ai
set_option maxRecDepth 10000
/-- A number, written. -/
def decB (n : Nat) : ByteArray := ⟨(Lib.decDigits n).toArray⟩
def digB (n : Nat) : ByteArray := ⟨#[(48 + n).toUInt8]⟩
theorem dec_lo {n : Nat} (h : n < 10) : decB n = digB n := by
  unfold decB digB
  rw [Lib.decDigits, dif_pos h]
theorem dec_hi {n : Nat} (h : 9 < n) : decB n = decB (n / 10) ++ digB (n % 10) := by
  unfold decB digB
  rw [Lib.decDigits, dif_neg (by omega)]
  apply ByteArray.ext
  simp
theorem dec_size (n k : Nat) (h : n < 10 ^ (k + 1)) : (decB n).size ≤ k + 1 := by
  have := (plain_dec n n (Nat.le_refl _)).2.2 k h
  unfold decB
  show (Lib.decDigits n).toArray.size ≤ _
  simpa using this
def rankM (op : Nat) : Int := if op = 6 then 1 else if op = 5 then 2 else if subsM op = 1 then 3 else 4
def parM (s : ByteArray) (r least : Int) : ByteArray := if r < least then ⟨#[40]⟩ ++ s ++ ⟨#[41]⟩ else s
def joinM (op : Nat) (a b : Int) : List (ByteArray × Int) → ByteArray
  | [] => if op = 0 then signB op else if op = 3 then signB op ++ ⟨#[32]⟩ ++ decB a.toNat ++ ⟨#[32]⟩ ++ decB b.toNat else signB op ++ ⟨#[32]⟩ ++ decB a.toNat
  | [x] => signB op ++ ⟨#[32]⟩ ++ parM x.1 x.2 3
  | x :: y :: _ => if op = 10 ∨ op = 14 then signB op ++ ⟨#[91]⟩ ++ x.1 ++ ⟨#[32, 85, 32]⟩ ++ y.1 ++ ⟨#[93]⟩ else parM x.1 x.2 (rankM op) ++ ⟨#[32]⟩ ++ signB op ++ ⟨#[32]⟩ ++ parM y.1 y.2 (rankM op + 1)
mutual
/-- A formula, written. -/
def textM : NodeM → ByteArray
  | .mk op a b subs => joinM op a b (textL subs)
def textL : List NodeM → List (ByteArray × Int)
  | [] => []
  | x :: l => (textM x, rankM x.op) :: textL l
end
theorem par_size (s : ByteArray) (r l : Int) : (parM s r l).size ≤ s.size + 2 := by
  unfold parM
  split
  · rw [ba_size_append, ba_size_append]
    show 1 + s.size + 1 ≤ _
    omega
  · omega
theorem sign_size (op : Nat) : (signB op).size ≤ 5 := by
  by_cases h : op < 15
  · have : op = 0 ∨ op = 1 ∨ op = 2 ∨ op = 3 ∨ op = 4 ∨ op = 5 ∨ op = 6 ∨ op = 7 ∨ op = 8 ∨ op = 9 ∨ op = 10 ∨ op = 11 ∨ op = 12 ∨ op = 13 ∨ op = 14 := by omega
    rcases this with rfl | rfl | rfl | rfl | rfl | rfl | rfl | rfl | rfl | rfl | rfl | rfl | rfl | rfl | rfl <;> decide
  · unfold signB
    rw [List.getD_eq_getElem?_getD, List.getElem?_eq_none (by show 15 ≤ op; omega)]
    decide
mutual
theorem text_size : ∀ (x : NodeM), validM 10000 10000 10000 x = true → (textM x).size ≤ 32 * sizeN x
  | .mk op a b subs, h => by
    simp only [validM, Bool.and_eq_true, decide_eq_true_eq] at h
    obtain ⟨h1, h2, h3, h4, h5, h6, h7⟩ := h
    have hs := textL_size subs h7
    have hg := sign_size op
    have hda := dec_size a.toNat 3 (by split at h5 <;> (try split at h5) <;> omega)
    have hdb := dec_size b.toNat 3 (by split at h6 <;> omega)
    unfold textM sizeN
    have e1 : (⟨#[32]⟩ : ByteArray).size = 1 := rfl
    have e2 : (⟨#[91]⟩ : ByteArray).size = 1 := rfl
    have e3 : (⟨#[93]⟩ : ByteArray).size = 1 := rfl
    have e4 : (⟨#[32, 85, 32]⟩ : ByteArray).size = 3 := rfl
    match subs, hs with
    | [], _ =>
      simp only [textL, joinM, sizeL]
      split
      · omega
      · split
        · simp only [ba_size_append]; omega
        · simp only [ba_size_append]; omega
    | [x], hs =>
      simp only [textL, joinM, sizeL, List.map_cons, List.map_nil, List.sum_cons, List.sum_nil, ba_size_append] at hs ⊢
      have := par_size (textM x) (rankM x.op) 3
      omega
    | x :: y :: l, hs =>
      simp only [textL, List.map_cons, List.sum_cons, sizeL] at hs ⊢
      simp only [joinM]
      split
      · simp only [ba_size_append]; omega
      · have p1 := par_size (textM x) (rankM x.op) (rankM op)
        have p2 := par_size (textM y) (rankM y.op) (rankM op + 1)
        simp only [ba_size_append]; omega
theorem textL_size : ∀ (l : List NodeM), validL 10000 10000 10000 l = true → ((textL l).map (·.1.size)).sum ≤ 32 * sizeL l
  | [], _ => by simp [textL, sizeL]
  | x :: l, h => by
    simp only [validL, Bool.and_eq_true] at h
    have h1 := text_size x h.1
    have h2 := textL_size l h.2
    simp only [textL, List.map_cons, List.sum_cons, sizeL]
    omega
end
end Go.Ai
end

section
namespace Go.Ai
open Go.RowKit (Below)

variable {B G : Nat} {P : Program} {n n0 : Nat} {ρ0 ρ : Rn} {w0 w : World} {a : Act} {ops : Array Oper} {o : Oper} {callf : CallF} {fr : Fr} {g : Nat → Option AV} {ds : List Dfr} {H : Mem} {d : Tmp} {v : AV}

def und : Dg → Nat
  | .d0 => 0 | .d1 => 1 | .d2 => 2 | .d3 => 3 | .d4 => 4 | .d5 => 5 | .d6 => 6 | .d7 => 7
  | .d8 => 8 | .d9 => 9 | .d10 => 10 | .d11 => 11 | .d12 => 12 | .d13 => 13 | .d14 => 14 | .d15 => 15
theorem und_dig : ∀ n, n < 16 → und (dig n) = n := by decide
theorem dig_inj {m k : Nat} (hm : m < 16) (hk : k < 16) (h : dig m = dig k) : m = k := by
  have := congrArg und h
  rwa [und_dig _ hm, und_dig _ hk] at this
theorem path2 {j k : Nat} (hj : j < 256) (hk : k < 256) (h0 : d0 k = d0 j) (h1 : d1 k = d1 j) : k = j := by
  have e0 : k % 16 = j % 16 := dig_inj (Nat.mod_lt _ (by omega)) (Nat.mod_lt _ (by omega)) h0
  have e1 : k / 16 % 16 = j / 16 % 16 := dig_inj (Nat.mod_lt _ (by omega)) (Nat.mod_lt _ (by omega)) h1
  omega
theorem path3 {j k : Nat} (hj : j < 4096) (hk : k < 4096) (h0 : d0 k = d0 j) (h1 : d1 k = d1 j) (h2 : d2 k = d2 j) : k = j := by
  have e0 : k % 16 = j % 16 := dig_inj (Nat.mod_lt _ (by omega)) (Nat.mod_lt _ (by omega)) h0
  have e1 : k / 16 % 16 = j / 16 % 16 := dig_inj (Nat.mod_lt _ (by omega)) (Nat.mod_lt _ (by omega)) h1
  have e2 : k / 256 % 16 = j / 256 % 16 := dig_inj (Nat.mod_lt _ (by omega)) (Nat.mod_lt _ (by omega)) h2
  omega
theorem leaf_same {α : Type} (k : Nat) (x : α) : leaf k (.v k x) = some x := by simp [leaf]
theorem get2_ne {α : Type} (t : T2 α) {k j : Nat} (x : Lf α) (hk : k < 256) (hj : j < 256) (hne : j ≠ k) : get2 (u2 t k x) j = get2 t j := by
  unfold get2 u2
  rcases Dg.em (d0 k) (d0 j) with h0 | h0
  · rw [h0, gN_same]
    rcases Dg.em (d1 k) (d1 j) with h1 | h1
    · exact absurd (path2 hk hj h0 h1) hne
    · rw [gN_ne _ _ _ _ h1]
  · rw [gN_ne _ _ _ _ h0]
theorem get3_ne {α : Type} (t : T3 α) {k j : Nat} (x : Lf α) (hk : k < 4096) (hj : j < 4096) (hne : j ≠ k) : get3 (u3 t k x) j = get3 t j := by
  unfold get3 u3
  rcases Dg.em (d0 k) (d0 j) with h0 | h0
  · rw [h0, gN_same]
    rcases Dg.em (d1 k) (d1 j) with h1 | h1
    · rw [h1, gN_same]
      rcases Dg.em (d2 k) (d2 j) with h2 | h2
      · exact absurd (path3 hk hj h0 h1 h2) hne
      · rw [gN_ne _ _ _ _ h2]
    · rw [gN_ne _ _ _ _ h1]
  · rw [gN_ne _ _ _ _ h0]

/-- So many slots are kept apart. -/
noncomputable def roomOf (fr : Fr) : Nat := Fr.rec (motive := fun _ => Nat) (fun _ _ => 256) (fun _ _ => 4096) (fun _ _ => 0) fr
theorem room_upd (fr : Fr) (d : Tmp) (v : AV) : roomOf (fr.upd d v) = roomOf fr := by
  cases fr <;> simp [Fr.upd, Fr.set, fpS, fpG, fpF, put2_eq, put3_eq, roomOf]
theorem room_put (fr : Fr) (d : Option Tmp) (v : AV) : roomOf (fr.put d v) = roomOf fr := by
  cases d with
  | none => rfl
  | some d => exact room_upd fr d v
theorem room_defer (fr : Fr) (x : Dfr) : roomOf (fr.defer x) = roomOf fr := by cases fr <;> rfl
theorem get_upd_same (fr : Fr) (d : Tmp) (v : AV) : (fr.upd d v).get d = some v := by
  cases fr with
  | s t ds => simp [Fr.upd, Fr.set, fpS, put2_eq, Fr.get, fgS]; unfold get2; rw [at2_same]; exact leaf_same _ _
  | g t ds => simp [Fr.upd, Fr.set, fpG, put3_eq, Fr.get, fgG]; unfold get3; rw [at3_same]; exact leaf_same _ _
  | f g ds => exact if_pos rfl
theorem get_upd_ne (fr : Fr) {d k : Tmp} (v : AV) (hd : d < roomOf fr) (hk : k < roomOf fr) (h : k ≠ d) : (fr.upd d v).get k = fr.get k := by
  cases fr with
  | s t ds => simp [Fr.upd, Fr.set, fpS, put2_eq, Fr.get, fgS]; exact get2_ne _ _ hd hk h
  | g t ds => simp [Fr.upd, Fr.set, fpG, put3_eq, Fr.get, fgG]; exact get3_ne _ _ hd hk h
  | f g ds => exact if_neg h

/-- A frame and a frame as a function. -/
structure FE (fr : Fr) (g : Nat → Option AV) (ds : List Dfr) : Prop where
  lo : ∀ k, k < roomOf fr → fr.get k = g k
  up : ∀ k v, fr.get k = some v → g k = some v
  dfr : fr.defers = ds
theorem FE.refl (fr : Fr) : FE fr fr.get fr.defers := ⟨fun _ _ => rfl, fun _ _ h => h, rfl⟩
theorem FE.upd (h : FE fr g ds) (hd : d < roomOf fr) (v : AV) : FE (fr.upd d v) (fput g d v) ds := by
  refine ⟨fun k hk => ?_, fun k y hy => ?_, (Fr.defers_upd fr d v).trans h.dfr⟩
  · rw [room_upd] at hk
    unfold fput
    by_cases e : k = d
    · subst e; rw [if_pos rfl]; exact get_upd_same fr k v
    · rw [if_neg e, get_upd_ne fr v hd hk e]; exact h.lo k hk
  · unfold fput
    rcases Fr.get_upd hy with ⟨rfl, rfl⟩ | ⟨hne, hy⟩
    · exact if_pos rfl
    · rw [if_neg hne]; exact h.up k y hy
def putG (g : Nat → Option AV) (d : Option Tmp) (v : AV) : Nat → Option AV := match d with | some d => fput g d v | none => g
theorem put_f (g : Nat → Option AV) (ds : List Dfr) (d : Option Tmp) (v : AV) : (Fr.f g ds).put d v = .f (putG g d v) ds := by cases d <;> rfl
theorem FE.put (h : FE fr g ds) {d : Option Tmp} (hd : ∀ t, d = some t → t < roomOf fr) (v : AV) : FE (fr.put d v) (putG g d v) ds := by
  cases d with
  | none => exact h
  | some d => exact h.upd (hd d rfl) v
theorem FE.defer (h : FE fr g ds) (x : Dfr) : FE (fr.defer x) g (x :: ds) :=
  ⟨fun k hk => by rw [room_defer] at hk; rw [Fr.get_defer]; exact h.lo k hk, fun k v hv => by rw [Fr.get_defer] at hv; exact h.up k v hv, by rw [Fr.defers_defer, h.dfr]⟩
theorem St.toF (s : St B G n n0 ρ0 w0 ρ fr H a w) : St B G n n0 ρ0 w0 ρ (.f fr.get fr.defers) H a w := ⟨s.ext, s.sim, ⟨s.frel.slot, s.frel.dfr, s.frel.size, s.frel.only⟩, s.le⟩
theorem St.ofF (h : FE fr g ds) (s : St B G n n0 ρ0 w0 ρ (.f g ds) H a w) : St B G n n0 ρ0 w0 ρ fr H a w :=
  ⟨s.ext, s.sim, ⟨fun t v hv hn => s.frel.slot t v (h.up t v hv) hn, by rw [h.dfr]; exact s.frel.dfr, s.frel.size, fun t v hv => s.frel.only t v (h.up t v hv)⟩, s.le⟩

def noSel (o : Oper) : Bool := match o.op with | .select _ _ => false | _ => true
theorem noSel_spec (h : noSel o = true) : ∀ cs b, o.op ≠ .select cs b := by
  intro cs b e; unfold noSel at h; rw [e] at h; cases h
/-- Its slots are kept apart. -/
def roomy (m : Nat) (o : Oper) : Bool := dstOk m o && (tmpsOf o).all (fun t => Nat.blt t m) && noSel o
theorem FE.op (h : FE fr g ds) (hr : roomy (roomOf fr) o = true) : opV P H fr.ev o = opV P H (Fr.f g ds).ev o := by
  unfold roomy at hr
  simp only [Bool.and_eq_true] at hr
  refine opV_evs (noSel_spec hr.2) fun x hx => ?_
  cases x with
  | tmp t =>
    have := List.all_eq_true.1 hr.1.2 t (mem_tmps hx)
    exact h.lo t (Nat.le_of_ble_eq_true this)
  | const v => rfl
  | global g => rfl
  | func f => rfl
theorem roomy_dst {m : Nat} (hr : roomy m o = true) : ∀ t, o.dst = some t → t < m := by
  intro t ht
  unfold roomy dstOk at hr
  rw [ht] at hr
  simp only [Bool.and_eq_true] at hr
  exact Nat.le_of_ble_eq_true hr.1.1

/-- Calls by a run. -/
def wOf (callf : CallF) : WF := fun f args H K => match callf f args H with
  | .bad => False
  | r => K r
theorem wOf_ok (hc : ∀ B, CallOK B G P callf) : WOK G P (wOf callf) := by
  intro f args H K h
  refine orW_sound (O := callf) hc ?_
  unfold wOf at h; unfold orW
  cases hr : callf f args H <;> rw [hr] at h <;> first | exact h.elim | exact h
theorem wOf_mono : WMono (wOf callf) := by
  intro f args H K K' hk h
  unfold wOf at h ⊢
  cases hr : callf f args H <;> rw [hr] at h <;> first | exact h.elim | exact hk _ h

/-- What one operation is told to do, it does. -/
theorem one_W {k : Fr → Mem → Out} {kk : Fr → Mem → Prop} {Q : Out → Prop} {r : Out} (he : FE fr g ds) (hr : roomy (roomOf fr) o = true) (hall : ops.toList.all (roomy (roomOf fr)) = true) (h : oneOp P callf ops o fr H k = r) (hne : r ≠ .bad)
    (hk : ∀ fr1 g1 ds1 H1, FE fr1 g1 ds1 → roomOf fr1 = roomOf fr → k fr1 H1 = r → kk (.f g1 ds1) H1)
    (hp : ∀ v fr1 H1, FE fr1 g ds → r = .panic v fr1 H1 → Q (.panic v (.f g ds) H1)) : oneW P (wOf callf) ops o (.f g ds) H kk Q := by
  have hput : ∀ (v : AV) (H1 : Mem), (fr.putK o.dst v fun fr => k fr H1) = r → kk ((Fr.f g ds).put o.dst v) H1 := by
    intro v H1 h1
    rw [Fr.putK_eq] at h1
    rw [put_f]
    exact hk _ _ _ _ (he.put (roomy_dst hr) v) (room_put fr o.dst v) h1
  have haft : after callf o fr k (opV P H fr.ev o) = r → afterW (wOf callf) o (.f g ds) kk Q (opV P H (Fr.f g ds).ev o) := by
    rw [← he.op hr]
    generalize opV P H fr.ev o = x
    intro h1
    cases x with
    | val v H1 => exact hput v H1 h1
    | skip H1 => exact hput _ H1 h1
    | enter f args H1 =>
      have h2 : (match callf f args H1 with | .ret v H => fr.putK o.dst v fun fr => k fr H | .panic v H => .panic v fr H | .bad => .bad) = r := h1
      show wOf callf f args H1 _
      unfold wOf
      cases hc : callf f args H1 with
      | ret v H2 => rw [hc] at h2; exact hput v H2 h2
      | panic v H2 => rw [hc] at h2; exact hp v fr H2 he h2.symm
      | bad => rw [hc] at h2; exact absurd h2.symm hne
    | dfr fn cap args H1 =>
      have h2 : ((fr.defer (fn, cap, args)).putK o.dst (.lit undef) fun fr => k fr H1) = r := h1
      rw [Fr.putK_eq] at h2
      show kk ((Fr.f g ((fn, cap, args) :: ds)).put o.dst (.lit undef)) H1
      rw [put_f]
      exact hk _ _ _ _ ((he.defer _).put (by rw [room_defer]; exact roomy_dst hr) _) ((room_put _ _ _).trans (room_defer _ _)) h2
    | panic v H1 => exact hp v fr H1 he h1.symm
    | _ => exact absurd h1.symm hne
  unfold oneW
  unfold oneOp at h
  cases hg : o.guard with
  | none => rw [hg] at h; exact haft h
  | some gd =>
    rw [hg] at h
    have h2 : guarded P callf ops o fr H k gd = r := h
    unfold guarded at h2
    have hs : guardSlot ops fr gd.1 = guardSlot ops (.f g ds) gd.1 := by
      unfold guardSlot
      split
      · rename_i p hp'
        have hm := List.all_eq_true.1 hall p (List.mem_of_getElem? (toList_at.2 hp'))
        split
        · rename_i d hd; exact he.lo d (roomy_dst hm d hd)
        · rfl
      · rfl
    show byGuard (guardSlot ops (.f g ds) gd.1) gd.2 _ _
    rw [← hs]
    have hw : ∀ x, wantedG ops fr gd = some x → (x = true → (∃ b, guardSlot ops fr gd.1 = some (.lit (.bool b)) ∧ b = gd.2)) ∧
        (x = false → (∃ b, guardSlot ops fr gd.1 = some (.lit (.bool b)) ∧ b = !gd.2) ∨ ∃ y, guardSlot ops fr gd.1 = some (.lit (.tuple y))) := by
      intro x hx
      unfold wantedG yieldedA at hx
      unfold guardSlot
      generalize gd.2 = want at hx ⊢
      cases hp : ops[gd.1]? with
      | none => simp [hp] at hx
      | some p =>
        cases hd : p.dst with
        | none => simp [hp, hd] at hx
        | some d =>
          simp only [hp, hd] at hx ⊢
          revert hx
          generalize fr.get d = z
          intro hx
          by_cases hb : ∃ b, z = some (.lit (.bool b))
          · obtain ⟨b, rfl⟩ := hb
            cases b <;> cases want <;> first
              | (obtain rfl : x = true := (Option.some.inj hx).symm; clear hx; simp)
              | (obtain rfl : x = false := (Option.some.inj hx).symm; clear hx; simp)
          · split at hx
            · rename_i b hz
              exfalso
              split at hz
              · rename_i b'; exact hb ⟨_, rfl⟩
              · cases hz
            · split at hx
              · rename_i vs
                cases hx
                exact ⟨fun e => (by cases e), fun _ => .inr ⟨_, rfl⟩⟩
              · cases hx
    split at h2
    · rename_i hx
      obtain ⟨b, hb, rfl⟩ := (hw _ hx).1 rfl
      rw [hb]
      exact ⟨fun _ => haft h2, fun e => by cases hgd : gd.2 <;> simp [hgd] at e⟩
    · rename_i hx
      rcases (hw _ hx).2 rfl with ⟨b, hb, e⟩ | ⟨y, hy⟩
      · rw [hb]
        subst e
        exact ⟨fun e => by cases hgd : gd.2 <;> simp [hgd] at e, fun _ => hput _ _ h2⟩
      · rw [hy]; exact hput _ _ h2
    · exact absurd h2.symm hne
end Go.Ai
end

section
namespace Go.Ai
open Go.RowKit (Below)

variable {B G : Nat} {P : Program} {n n0 : Nat} {ρ0 ρ : Rn} {w0 w : World} {a : Act} {ops : Array Oper} {callf : CallF} {loopf : LoopF} {fr : Fr} {g : Nat → Option AV} {ds : List Dfr} {H : Mem}

inductive FI where
  | run (o : Oper)
  | mk (i : Nat) (o : Oper)
  | gate (hs as : List Nat)
  | no
def itF (ops : Array Oper) (it : It) : FI := match it with
  | .run i => match ops[i]? with | some o => .run o | none => .no
  | .mk i => match ops[i]? with | some o => .mk i o | none => .no
  | .gate hs as => .gate hs as
/-- Equal, or both nothing. -/
def eqU (x y : AV) : Bool := match x, y with
  | .lit (.tuple a), .lit (.tuple b) => Nat.beq a.size 0 && Nat.beq b.size 0
  | x, y => eqAV x y
theorem eqU_sound {x y : AV} (h : eqU x y = true) : x = y := by
  unfold eqU at h
  split at h
  · rename_i a b
    simp only [Bool.and_eq_true] at h
    have h1 := Nat.eq_of_beq_eq_true h.1
    have h2 := Nat.eq_of_beq_eq_true h.2
    rw [Array.eq_empty_of_size_eq_zero h1, Array.eq_empty_of_size_eq_zero h2]
  · exact eqAV_sound _ _ h
noncomputable def againC (P : Program) (callf : CallF) (ops : Array Oper) (fr : Fr) (H : Mem) : List Nat → Bool
  | [] => true
  | i :: l => match ops[i]? with
    | some o => match oneOp P callf ops o fr H (fun fr' H' => .norm fr' H') with
      | .norm fr' _ => match slotOf fr' o.dst, slotOf fr o.dst with
        | some x, some y => match eqU x y with | true => againC P callf ops fr H l | false => false
        | _, _ => false
      | _ => false
    | none => false
def elemN (i : Nat) : List Nat → Bool
  | [] => false
  | j :: l => match Nat.beq i j with | true => true | false => elemN i l
theorem elemN_mem {i : Nat} : ∀ {l : List Nat}, i ∈ l → elemN i l = true
  | j :: l, h => by
    unfold elemN
    split
    · rfl
    · rename_i hb
      rcases List.mem_cons.1 h with rfl | h
      · simp at hb
      · exact elemN_mem h
noncomputable def keptC (H : Mem) (as : List Nat) : AlP → Bool
  | [] => true
  | (i, a, b) :: l => match elemN i as with
    | true => match H.get a, b with
      | some x, some y => match eqBlk x y with | true => keptC H as l | false => false
      | _, _ => false
    | false => keptC H as l
abbrev FlF := Program → CallF → Array Oper → Fr → Mem → AlP → Out
noncomputable def flN : FlF := fun _ _ _ fr H _ => .norm fr H
noncomputable def flRun (o : Oper) : FlF → FlF := fun ih P callf ops fr H als => oneOp P callf ops o fr H fun fr H => ih P callf ops fr H als
noncomputable def flMk (i : Nat) (o : Oper) : FlF → FlF := fun ih P callf ops fr H als => oneOp P callf ops o fr H fun fr H' => ih P callf ops fr H' ((i, H.next, H'.get H.next) :: als)
noncomputable def flGate (hs as : List Nat) : FlF → FlF := fun ih P callf ops fr H als => match againC P callf ops fr H hs, keptC H as als with
  | true, true => ih P callf ops fr H als
  | _, _ => .bad
noncomputable def flNo : FlF → FlF := fun _ _ _ _ _ _ _ => .bad
noncomputable def flC (it : It) (_ : List It) (ih : FlF) : FlF := fun P callf ops fr H als => FI.rec (motive := fun _ => FlF → FlF) flRun flMk flGate flNo (itF ops it) ih P callf ops fr H als
noncomputable def flatRun (P : Program) (callf : CallF) (ops : Array Oper) (l : List It) (fr : Fr) (H : Mem) (als : AlP) : Out := List.rec (motive := fun _ => FlF) flN flC l P callf ops fr H als

/-- What is said of a region's end. -/
def OE (r out : Out) : Prop := match r, out with
  | .norm fr H, .norm fr' H' => H' = H ∧ ∃ g ds, fr' = .f g ds ∧ FE fr g ds
  | .panic v fr H, .panic v' fr' H' => v' = v ∧ H' = H ∧ fr' = fr.clear
  | _, _ => False
theorem clear_eq (fr : Fr) : fr.clear = .s e2 fr.defers := by cases fr <;> rfl

theorem again_W (he : FE fr g ds) (hall : ops.toList.all (roomy (roomOf fr)) = true) : ∀ {l : List Nat}, againC P callf ops fr H l = true → againW P (wOf callf) ops (.f g ds) H l
  | [], _ => trivial
  | i :: l, h => by
    unfold againC at h
    unfold againW
    split at h
    · rename_i o ho
      have hm := List.all_eq_true.1 hall o (List.mem_of_getElem? (toList_at.2 ho))
      split at h
      · rename_i fr2 H2 hr
        split at h
        · rename_i x y hx hy
          split at h
          · rename_i hxy
            have hxy' := eqU_sound hxy
            subst hxy'
            refine ⟨?_, again_W he hall h⟩
            rw [ho]
            dsimp only
            refine one_W he hm hall hr (by simp) (fun fr1 g1 ds1 H1 he1 _ h1 => ?_) (fun v fr1 H1 _ h1 => by cases h1)
            cases h1
            have key : ∀ {fr : Fr} {g : Nat → Option AV} {ds : List Dfr}, FE fr g ds → ∀ {x}, slotOf fr o.dst = some x → slotOf (.f g ds) o.dst = some x := by
              intro fr g ds he x hx
              unfold slotOf at hx ⊢
              split at hx
              · exact he.up _ _ hx
              · cases hx
            rw [key he1 hx, key he hy]
          · cases h
        · cases h
      · cases h
    · cases h
theorem kept_W {as : List Nat} : ∀ {als : AlP}, keptC H as als = true → keptW H as als
  | [], _ => trivial
  | (i, a, b) :: l, h => by
    unfold keptC at h
    unfold keptW
    split at h
    · split at h
      · rename_i x y hx
        split at h
        · rename_i he
          exact ⟨fun _ => hx.trans (congrArg some (eqBlk_sound he)), kept_W h⟩
        · cases h
      · cases h
    · rename_i he
      exact ⟨fun hi => (by rw [elemN_mem hi] at he; cases he), kept_W h⟩

theorem flat_W : ∀ (l : List It) {fr : Fr} {g : Nat → Option AV} {ds : List Dfr} {H : Mem} {als : AlP} {r : Out}, FE fr g ds → ops.toList.all (roomy (roomOf fr)) = true → flatRun P callf ops l fr H als = r → r ≠ .bad →
    planW P (wOf callf) ops (clearQ (OE r)) l (.f g ds) H als
  | [], fr, g, ds, H, als, r, he, hall, h, hne => by
    have h' : Out.norm fr H = r := h
    subst h'
    exact ⟨rfl, g, ds, rfl, he⟩
  | it :: l, fr, g, ds, H, als, r, he, hall, h, hne => by
    have h' : FI.rec (motive := fun _ => FlF → FlF) flRun flMk flGate flNo (itF ops it) (fun P callf ops fr H als => flatRun P callf ops l fr H als) P callf ops fr H als = r := h
    have hp : ∀ v fr1 H1, FE fr1 g ds → r = .panic v fr1 H1 → clearQ (OE r) (.panic v (.f g ds) H1) := by
      rintro v fr1 H1 he1 rfl
      refine ⟨rfl, rfl, ?_⟩
      rw [clear_eq, clear_eq, he1.dfr]; rfl
    cases it with
    | run i =>
      unfold planW
      cases ho : ops[i]? with
      | none =>
        rw [show itF ops (.run i) = .no by simp only [itF, ho]] at h'
        exact absurd h'.symm hne
      | some o =>
        rw [show itF ops (.run i) = .run o by simp only [itF, ho]] at h'
        dsimp only
        have hm := List.all_eq_true.1 hall o (List.mem_of_getElem? (toList_at.2 ho))
        exact one_W he hm hall h' hne (fun fr1 g1 ds1 H1 he1 hr1 h1 => flat_W l he1 (by rw [hr1]; exact hall) h1 hne) hp
    | mk i =>
      unfold planW
      cases ho : ops[i]? with
      | none =>
        rw [show itF ops (.mk i) = .no by simp only [itF, ho]] at h'
        exact absurd h'.symm hne
      | some o =>
        rw [show itF ops (.mk i) = .mk i o by simp only [itF, ho]] at h'
        dsimp only
        have hm := List.all_eq_true.1 hall o (List.mem_of_getElem? (toList_at.2 ho))
        exact one_W he hm hall h' hne (fun fr1 g1 ds1 H1 he1 hr1 h1 => flat_W l he1 (by rw [hr1]; exact hall) h1 hne) hp
    | gate hs as =>
      have h2 : (match againC P callf ops fr H hs, keptC H as als with | true, true => flatRun P callf ops l fr H als | _, _ => .bad) = r := h'
      unfold planW
      split at h2
      · rename_i h3 h4
        exact ⟨again_W he hall h3, kept_W h4, flat_W l he hall h2 hne⟩
      · exact absurd h2.symm hne

/-- Behind a region. -/
noncomputable def clearO (r : Out) : Out := match r with
  | .panic v fr H => .panic v fr.clear H
  | .norm fr H => .norm fr H
  | _ => .bad
noncomputable def drawnF (P : Program) (callf : CallF) (ops : Array Oper) (fr : Fr) (H : Mem) : Out := match flatOk P ops.toList, ops.toList.all (roomy (roomOf fr)) with
  | true, true => clearO (flatRun P callf ops (planOf ops.toList) fr H [])
  | _, _ => .bad
theorem drawnF_sound (hc : ∀ B, CallOK B G P callf) (hG : G = P.globals.size) {id : Nat} (s : St B G n n0 ρ0 w0 ρ fr H a w) (hd : dstsOk n (.region id ops true) = true) (hne : drawnF P callf ops fr H ≠ .bad) :
    (Code.region id ops true).wp P (OutPost B G n n0 ρ0 w0 (drawnF P callf ops fr H)) a w := by
  unfold drawnF at hne ⊢
  split at hne
  · rename_i hok hall
    generalize hr : flatRun P callf ops (planOf ops.toList) fr H [] = r at hne ⊢
    have hr0 : r ≠ .bad := fun e => hne (by rw [e]; rfl)
    have key := drawnW_sound (wOf_ok hc) (id := id) hG s.toF hd (planW_drawn wOf_mono hok (flat_W _ (FE.refl fr) hall hr hr0))
    refine Code.wp_mono ?_ key
    rintro e a' w' ⟨out, hq, ho⟩
    cases r with
    | norm fr1 H1 =>
      cases out with
      | norm fr2 H2 =>
        obtain ⟨rfl, g, ds, rfl, he⟩ := hq
        cases e with
        | normal => obtain ⟨ρ', s'⟩ := ho; exact ⟨ρ', St.ofF he s'⟩
        | _ => exact ho.elim
      | _ => exact hq.elim
    | panic v fr1 H1 =>
      cases out with
      | panic v2 fr2 H2 =>
        obtain ⟨rfl, rfl, rfl⟩ := hq
        exact ho
      | _ => exact hq.elim
    | exit => cases out <;> exact hq.elim
    | ret => cases out <;> exact hq.elim
    | bad => exact absurd rfl hr0
  · exact absurd rfl hne

/- Codes. -/
noncomputable def xRegionF (_ : Nat) (ops : Array Oper) (draw : Bool) : XF := fun P callf _ fr H => match draw with
  | false => seqOps P callf ops ops.toList fr H
  | true => drawnF P callf ops fr H
noncomputable def execCF : Code → XF := Code.rec (motive := fun _ => XF) xSkip xRegionF xSeq xCond xBlock xLoop xRangeFunc xExit xScope xLabel xGoto xRet xRefuse
noncomputable def execF (P : Program) (callf : CallF) (loopf : LoopF) (c : Code) (fr : Fr) (H : Mem) : Out := execCF c P callf loopf fr H

/-- A code is told truly. -/
def GoodF (B G : Nat) (P : Program) (callf : CallF) (loopf : LoopF) (c : Code) : Prop :=
  ∀ (n n0 : Nat) (ρ0 : Rn) (w0 : World) (ρ : Rn) (fr : Fr) (H : Mem) (a : Act) (w : World), dstsOk n c = true → St B G n n0 ρ0 w0 ρ fr H a w → execF P callf loopf c fr H ≠ .bad →
    c.wp P (OutPost B G n n0 ρ0 w0 (execF P callf loopf c fr H)) a w
theorem good_loopF {callf : CallF} {loopf : LoopF} {b : Code} (hl : LoopOK B G P loopf) (hb : GoodF B G P callf loopf b) (n n0 : Nat) (ρ0 : Rn) (w0 : World) (ρ : Rn) (fr : Fr) (H : Mem) (a : Act) (w : World)
    (hd : dstsOk n b = true) (s : St B G n n0 ρ0 w0 ρ fr H a w) (hne : execF P callf loopf (.loop b) fr H ≠ .bad) : LW P b (OutPost B G n n0 ρ0 w0 (execF P callf loopf (.loop b) fr H)) a w := by
  have he : execF P callf loopf (.loop b) fr H = thenO (execF P callf loopf b fr H) (loopf (.loop b)) := rfl
  rw [he] at hne ⊢
  have hr : execF P callf loopf b fr H ≠ .bad := fun h => hne (by rw [h]; rfl)
  refine LW.unroll (Code.wp_mono (thenO_post hne fun fr' H' ρ' a' w' hr' s' hk => ?_) (hb n n0 ρ0 w0 ρ fr H a w hd s hr))
  rw [hr']
  exact hl b n n0 ρ0 w0 ρ' fr' H' a' w' hd s' hk

theorem execF_sound {callf : CallF} {loopf : LoopF} (hcs : ∀ B, CallOK B G P callf) (hl : LoopOK B G P loopf) (hG : G = P.globals.size) : ∀ c : Code, GoodF B G P callf loopf c := by
  intro c
  have hc := hcs B
  induction c with
  | skip => intro n n0 ρ0 w0 ρ fr H a w hd s hne; exact wp_skip ⟨ρ, s⟩
  | region id ops draw =>
    intro n n0 ρ0 w0 ρ fr H a w hd s hne
    cases draw with
    | false =>
      refine wp_region_list (seqOps_sound hc hG hne ops.toList fr H ρ a w ?_ s rfl)
      exact fun o ho => List.all_eq_true.1 hd o ho
    | true => exact drawnF_sound hcs hG s hd hne
  | seq x y ihx ihy =>
    intro n n0 ρ0 w0 ρ fr H a w hd s hne
    have he : execF P callf loopf (.seq x y) fr H = thenO (execF P callf loopf x fr H) (execF P callf loopf y) := rfl
    rw [he] at hne ⊢
    simp only [dstsOk, Bool.and_eq_true] at hd
    have hr : execF P callf loopf x fr H ≠ .bad := fun h => hne (by rw [h]; rfl)
    refine wp_seq (Code.wp_mono (thenO_post hne fun fr' H' ρ' a' w' hr' s' hk => ?_) (ihx n n0 ρ0 w0 ρ fr H a w hd.1 s hr))
    rw [hr']
    exact ihy n n0 ρ0 w0 ρ' fr' H' a' w' hd.2 s' hk
  | cond cnd x y ihx ihy =>
    intro n n0 ρ0 w0 ρ fr H a w hd s hne
    have he : execF P callf loopf (.cond cnd x y) fr H = condO (fr.ev cnd) (execF P callf loopf x) (execF P callf loopf y) fr H := rfl
    rw [he] at hne ⊢
    simp only [dstsOk, Bool.and_eq_true] at hd
    unfold condO at hne ⊢
    split at hne
    · rename_i hev
      have := s.ev _ _ hev
      exact wp_cond_true this (ihx n n0 ρ0 w0 ρ fr H a w hd.1 s hne)
    · rename_i hev
      have := s.ev _ _ hev
      exact wp_cond_false this (ihy n n0 ρ0 w0 ρ fr H a w hd.2 s hne)
    · exact absurd rfl hne
  | block id b ih =>
    intro n n0 ρ0 w0 ρ fr H a w hd s hne
    have he : execF P callf loopf (.block id b) fr H = blockO id (execF P callf loopf b fr H) := rfl
    rw [he] at hne ⊢
    have hr : execF P callf loopf b fr H ≠ .bad := fun h => hne (by rw [h]; rfl)
    refine wp_block (Code.wp_mono ?_ (ih n n0 ρ0 w0 ρ fr H a w hd s hr))
    intro e a' w' h
    generalize execF P callf loopf b fr H = r at h hne ⊢
    cases r with
    | norm fr' H' => cases e <;> first | exact h.elim | exact h
    | exit id' fr' H' =>
      cases e with
      | exit id2 =>
        obtain ⟨rfl, ρ', s'⟩ := h
        unfold blockO
        dsimp only
        split
        · rename_i hb
          have := Nat.eq_of_beq_eq_true hb
          subst this
          simp only [Exit.inBlock, if_true]
          exact ⟨ρ', s'⟩
        · rename_i hb
          have hne2 : id2 ≠ id := by intro h0; subst h0; simp at hb
          simp only [Exit.inBlock, hne2, if_false]
          exact ⟨rfl, ρ', s'⟩
      | _ => exact h.elim
    | ret fr' H' => cases e <;> first | exact h.elim | exact h
    | panic v fr' H' => cases e <;> first | exact h.elim | exact h
    | bad => exact absurd rfl hne
  | loop b ih =>
    intro n n0 ρ0 w0 ρ fr H a w hd s hne
    exact (good_loopF hl ih n n0 ρ0 w0 ρ fr H a w hd s hne).wp
  | rangeFunc f ps x y ihx ihy => intro n n0 ρ0 w0 ρ fr H a w hd s hne; exact absurd rfl hne
  | exit id => intro n n0 ρ0 w0 ρ fr H a w hd s hne; exact wp_exit ⟨rfl, ρ, s⟩
  | scope b ih => intro n n0 ρ0 w0 ρ fr H a w hd s hne; exact absurd rfl hne
  | label l => intro n n0 ρ0 w0 ρ fr H a w hd s hne; exact wp_label ⟨ρ, s⟩
  | goto l => intro n n0 ρ0 w0 ρ fr H a w hd s hne; exact absurd rfl hne
  | ret => intro n n0 ρ0 w0 ρ fr H a w hd s hne; exact wp_ret ⟨ρ, s⟩
  | refuse why => intro n n0 ρ0 w0 ρ fr H a w hd s hne; exact absurd rfl hne


noncomputable def enterQB (P : Program) (callf : CallF) (loopf : LoopF) (fn : Func) (c : Code) (args : List AV) (H : Mem) : COut :=
  match dstsOk fn.ntmps c, Nat.ble (len args) fn.ntmps with
  | true, true => finish P callf loopf fn (putArgsK args (frame0 fn.ntmps) fun fr => execF P callf loopf c fr H)
  | _, _ => .bad

noncomputable def enterQ (P : Program) (callf : CallF) (loopf : LoopF) (f : FuncId) (args : List AV) (H : Mem) : COut :=
  match P.funcs[f]? with
  | some fn => match fn.body with
    | some c => enterQB P callf loopf fn c args H
    | none => .bad
  | none => .bad

theorem enterQ_sound {callf : CallF} {loopf : LoopF} (hcs : ∀ B, CallOK B G P callf) (hl : LoopOK B G P loopf) (hG : G = P.globals.size) : CallOK B G P (enterQ P callf loopf) := by
  have hc := hcs B
  intro f args H hne ρ us w hs hv
  unfold enterQ at hne ⊢
  split at hne
  · rename_i fn hfn
    split at hne
    · rename_i c hb
      unfold enterQB at hne ⊢
      split at hne
      · rename_i hdst hlen
        rw [putArgsK_eq] at hne ⊢
        have hfe := frame_entered (n := fn.ntmps) hv (by rw [← len_eq]; exact Nat.le_of_ble_eq_true hlen)
        have s1 : St B G fn.ntmps H.next ρ w ρ (putArgs args (frame0 fn.ntmps) 0) H { tmps := us ++ Array.replicate (fn.ntmps - us.size) undef, defers := [] } w := ⟨Ext.refl _ _ _ _, hs, hfe, Nat.le_refl _⟩
        have hr : execF P callf loopf c (putArgs args (frame0 fn.ntmps) 0) H ≠ .bad := fun h0 => hne (by rw [h0]; rfl)
        have key := execF_sound hcs hl hG c fn.ntmps H.next ρ w ρ _ H _ w hdst s1 hr
        refine calls_of_wp_defers hfn hb (Code.wp_mono ?_ key)
        intro e a' w' h
        generalize execF P callf loopf c (putArgs args (frame0 fn.ntmps) 0) H = r at h hne ⊢
        cases r with
        | norm fr' H' =>
          cases e with
          | normal => obtain ⟨ρ', s'⟩ := h; exact leave_sound hc hl hG hne _ _ .returning H' ρ' .returning w' s'.frel.dfr s' rfl rfl
          | _ => exact h.elim
        | ret fr' H' =>
          cases e with
          | ret => obtain ⟨ρ', s'⟩ := h; exact leave_sound hc hl hG hne _ _ .returning H' ρ' .returning w' s'.frel.dfr s' rfl rfl
          | _ => exact h.elim
        | panic v fr' H' =>
          cases e with
          | panic chain => obtain ⟨ρ', x, rfl, hx, s'⟩ := h; exact leave_sound hc hl hG hne _ _ (.panicking v) H' ρ' _ w' s'.frel.dfr s' ⟨x, rfl, hx⟩ rfl
          | _ => exact h.elim
        | exit id fr' H' => exact absurd rfl hne
        | bad => exact absurd rfl hne
      · exact absurd rfl hne
    · exact absurd rfl hne
  · exact absurd rfl hne


noncomputable def bothF (P : Program) (O : CallF) (n : Nat) : CallF × LoopF :=
  Nat.rec (motive := fun _ => CallF × LoopF) (fun _ _ _ => .bad, fun _ _ _ => .bad) (fun _ ih => (orC O (enterQ P ih.1 ih.2), execF P ih.1 ih.2)) n
/-- A closed run with oracles, each region in one order. -/
noncomputable def callF (P : Program) (O : CallF) (n : Nat) : CallF := (bothF P O n).1
theorem bothF_sound {O : CallF} (hO : ∀ B, CallOK B G P O) (hG : G = P.globals.size) : ∀ n, (∀ B, CallOK B G P (bothF P O n).1) ∧ ∀ B, LoopOK B G P (bothF P O n).2
  | 0 => ⟨fun B f args H hne => absurd rfl hne, fun B b n n0 ρ0 w0 ρ fr H a w hd s hne => absurd rfl hne⟩
  | m + 1 => by
    obtain ⟨hc, hl⟩ := bothF_sound hO hG m
    refine ⟨fun B => orC_ok (hO B) (enterQ_sound hc (hl B) hG), fun B b n n0 ρ0 w0 ρ fr H a w hd s hne => ?_⟩
    exact good_loopF (hl B) (execF_sound hc (hl B) hG b) n n0 ρ0 w0 ρ fr H a w hd s hne
theorem callF_ok {O : CallF} (hO : ∀ B, CallOK B G P O) (hG : G = P.globals.size) (fuel : Nat) : ∀ B, CallOK B G P (callF P O fuel) := (bothF_sound hO hG fuel).1
end Go.Ai
end

section
namespace Go.Ai
set_option maxRecDepth 10000
theorem bAt_app_l {a b : ByteArray} {i : Nat} (h : i < a.size) : bAt (a ++ b) i = bAt a i := by
  unfold bAt
  have h2 : i < (a ++ b).size := by rw [ba_size_append]; omega
  rw [dif_pos h2, dif_pos h, ByteArray.getElem_append_left h]
theorem bAt_app_r {a b : ByteArray} {i : Nat} (h : i < b.size) : bAt (a ++ b) (a.size + i) = bAt b i := by
  unfold bAt
  have h2 : a.size + i < (a ++ b).size := by rw [ba_size_append]; omega
  rw [dif_pos h2, dif_pos h, ByteArray.getElem_append_right (by omega)]
  simp
theorem bAt_extract {s : ByteArray} {k m j : Nat} (h : j < m) (hm : k + m ≤ s.size) : bAt (s.extract k (k + m)) j = bAt s (k + j) := by
  have hsz : (s.extract k (k + m)).size = m := by rw [ByteArray.size_extract]; omega
  unfold bAt
  rw [dif_pos (by omega), dif_pos (by omega)]
  rw [ByteArray.getElem_extract]
/-- A text has these bytes from k on. -/
structure Has (s : ByteArray) (k : Nat) (w : ByteArray) : Prop where
  le : k + w.size ≤ s.size
  at' : ∀ i, i < w.size → bAt s (k + i) = bAt w i
theorem Has.app {s a b : ByteArray} {k : Nat} (h : Has s k (a ++ b)) : Has s k a ∧ Has s (k + a.size) b := by
  obtain ⟨h1, h2⟩ := h
  rw [ba_size_append] at h1
  refine ⟨⟨by omega, fun i hi => ?_⟩, ⟨by omega, fun i hi => ?_⟩⟩
  · rw [h2 i (by rw [ba_size_append]; omega), bAt_app_l hi]
  · rw [Nat.add_assoc, h2 _ (by rw [ba_size_append]; omega), bAt_app_r hi]
theorem ba_ext {a b : ByteArray} (h : a.size = b.size) (h2 : ∀ i, i < a.size → bAt a i = bAt b i) : a = b := by
  refine ByteArray.ext_getElem h fun i h3 h4 => ?_
  have := h2 i h3
  unfold bAt at this
  rw [dif_pos h3, dif_pos h4] at this
  exact UInt8.toNat_inj.1 (by omega)
theorem Has.ext {s w : ByteArray} {k : Nat} (h : Has s k w) : s.extract k (k + w.size) = w := by
  have hs : (s.extract k (k + w.size)).size = w.size := by rw [ByteArray.size_extract]; have := h.le; omega
  refine ba_ext hs fun i hi => ?_
  rw [bAt_extract (by omega) h.le]
  exact h.at' i (by omega)
theorem Has.byte {s w : ByteArray} {k : Nat} (h : Has s k w) (h0 : 0 < w.size) : bAt s k = bAt w 0 := by
  have := h.at' 0 h0
  rwa [Nat.add_zero] at this
/-- The text ends here, or what comes is no letter and no digit. -/
def Stop (s : ByteArray) (j : Nat) : Prop := j = s.size ∨ (j < s.size ∧ letterM (bAt s j) = false ∧ digitM (bAt s j) = false)
theorem digit_letter {c : Int} (h : digitM c = true) : ¬letterM c = true := by
  have := digit_in h
  simp only [letterM, Bool.or_eq_true, decide_eq_true_eq]
  omega
section
variable (s : ByteArray)
def RdT (r k : Nat) (x : NodeM) (k' : Nat) : Prop := ∀ m, 20 * (s.size - k) + 10 ≤ m + r → readF s m r k = some (.ok x k')
def LpT (r : Nat) (x : NodeM) (k : Nat) (y : NodeM) (k' : Nat) : Prop := ∀ m, 20 * (s.size - k) + 1 ≤ m → loopF s m r x k = some (.ok y k')
def SgT (k : Nat) (x : NodeM) (k' : Nat) : Prop := ∀ m, 20 * (s.size - k) + 6 ≤ m → singF s m k = some (.ok x k')
end
section
variable {s : ByteArray}
theorem RdT.step {r k k1 k2 : Nat} {x y : NodeM} (hr : r < 3) (h : RdT s (r + 1) k x k1) (hk : k < k1) (hk1 : k1 ≤ s.size) (hl : LpT s r x k1 y k2) : RdT s r k y k2 := by
  intro m hm
  obtain ⟨m, rfl⟩ : ∃ m', m = m' + 1 := ⟨m - 1, by omega⟩
  rw [readF, if_neg (by omega), h m (by omega)]
  exact hl m (by omega)
theorem LpT.step {r k k1 k2 : Nat} {x y z : NodeM} (hr : r < 3) (h : tokB s k = signB (bopM r)) (hk : k < s.size) (hd : RdT s (r + 1) (nxtM s k) y k1) (hk1 : nxtM s k < k1) (hk2 : k1 ≤ s.size) (hl : LpT s r (.mk (bopM r) 0 0 [x, y]) k1 z k2) : LpT s r x k z k2 := by
  intro m hm
  obtain ⟨m, rfl⟩ : ∃ m', m = m' + 1 := ⟨m - 1, by omega⟩
  have := nxtM_lt hk
  rw [loopF, if_pos h, hd m (by omega)]
  exact hl m (by omega)
theorem opOf_sign {o : Nat} (h : o < 15) (h5 : o ≠ 5) (h6 : o ≠ 6) : opOf (signB o) = some o ∧ signB o ≠ openT := by
  have : o = 0 ∨ o = 1 ∨ o = 2 ∨ o = 3 ∨ o = 4 ∨ o = 7 ∨ o = 8 ∨ o = 9 ∨ o = 10 ∨ o = 11 ∨ o = 12 ∨ o = 13 ∨ o = 14 := by omega
  rcases this with rfl | rfl | rfl | rfl | rfl | rfl | rfl | rfl | rfl | rfl | rfl | rfl | rfl <;> decide +kernel
theorem SgT.un {k k1 o : Nat} {x : NodeM} (ho : o < 15) (hs : subsM o = 1) (h : tokB s k = signB o) (hk : k < s.size) (hd : SgT s (nxtM s k) x k1) : SgT s k (.mk o 0 0 [x]) k1 := by
  intro m hm
  obtain ⟨m, rfl⟩ : ∃ m', m = m' + 1 := ⟨m - 1, by omega⟩
  have := nxtM_lt hk
  obtain ⟨e1, e2⟩ := opOf_sign ho (by rintro rfl; revert hs; decide) (by rintro rfl; revert hs; decide)
  rw [singF, h, if_neg e2, e1]
  dsimp only
  rw [if_neg (by omega), if_pos hs, hd m (by omega)]
theorem SgT.two {k k1 k2 o : Nat} {x y : NodeM} (ho : o = 10 ∨ o = 14) (h : tokB s k = signB o) (hk : k < s.size) (h1 : tokB s (nxtM s k) = leftT) (hd : RdT s 1 (nxtM s (nxtM s k)) x k1) (h2 : tokB s k1 = untilT) (hk1 : nxtM s (nxtM s k) < k1) (hk2 : k1 ≤ s.size)
    (hd2 : RdT s 1 (nxtM s k1) y k2) (h3 : tokB s k2 = rightT) : SgT s k (.mk o 0 0 [x, y]) (nxtM s k2) := by
  intro m hm
  obtain ⟨m, rfl⟩ : ∃ m', m = m' + 1 := ⟨m - 1, by omega⟩
  have n0 := nxtM_lt hk
  have n1 := nxtM_ge (nxtM_le (Nat.le_of_lt hk))
  have n2 := nxtM_ge hk2
  have n3 := nxtM_le (nxtM_le (Nat.le_of_lt hk))
  obtain ⟨e1, e2⟩ := opOf_sign (o := o) (by omega) (by omega) (by omega)
  have hs : subsM o = 2 := by rcases ho with rfl | rfl <;> rfl
  rw [singF, h, if_neg e2, e1]
  dsimp only
  rw [if_pos hs, if_pos h1, hd m (by omega)]
  dsimp only
  rw [if_pos h2, hd2 m (by omega)]
  exact if_pos h3
theorem SgT.one {k a o : Nat} (ho : o = 1 ∨ o = 2) (h : tokB s k = signB o) (hn : numM (tokB s (nxtM s k)) = some a) : SgT s k (.mk o (a : Nat) 0 []) (nxtM s (nxtM s k)) := by
  intro m hm
  obtain ⟨m, rfl⟩ : ∃ m', m = m' + 1 := ⟨m - 1, by omega⟩
  obtain ⟨e1, e2⟩ := opOf_sign (o := o) (by omega) (by omega) (by omega)
  rw [singF, h, if_neg e2, e1]
  dsimp only
  rw [if_neg (by rcases ho with rfl | rfl <;> decide), if_neg (by rcases ho with rfl | rfl <;> decide), if_neg (by omega), hn]
  dsimp only
  rw [if_neg (by omega)]
/-- How a formula is read, from k to k'. -/
structure RdOK (k : Nat) (x : NodeM) (k' r : Nat) : Prop where
  lt : k < k'
  le : k' ≤ s.size
  sg : 3 ≤ r → SgT s k x k'
  c2 : 2 ≤ r → ∀ z q, LpT s 2 x k' z q → RdT s 2 k z q
  c1 : tokB s k' ≠ signB 5 → ∀ z q, LpT s 1 x k' z q → RdT s 1 k z q
end
end Go.Ai
end

section
namespace Go.Ai
set_option maxRecDepth 10000
def NBl (w : ByteArray) : Prop := 0 < w.size ∧ bAt w 0 ≠ 32
theorem NBl.app {a b : ByteArray} (h : NBl a) : NBl (a ++ b) := ⟨by rw [ba_size_append]; have := h.1; omega, by rw [bAt_app_l h.1]; exact h.2⟩
theorem op_cases {o : Nat} (h : o < 15) : o = 0 ∨ o = 1 ∨ o = 2 ∨ o = 3 ∨ o = 4 ∨ o = 5 ∨ o = 6 ∨ o = 7 ∨ o = 8 ∨ o = 9 ∨ o = 10 ∨ o = 11 ∨ o = 12 ∨ o = 13 ∨ o = 14 := by omega
section
variable {s : ByteArray}
theorem RdOK.mono {k k' r r' : Nat} {x : NodeM} (h : RdOK (s := s) k x k' r) (hr : r' ≤ r) : RdOK (s := s) k x k' r' :=
  ⟨h.lt, h.le, fun h1 => h.sg (by omega), fun h1 => h.c2 (by omega), h.c1⟩
end
noncomputable def parseM (s : ByteArray) : NodeM × Int × Int :=
  if 65536 < s.size then (.mk 0 0 0 [], 0, 3)
  else match readF s (20 * s.size + 9) 1 (advM s 0) with
    | some (.err k) => (.mk 0 0 0 [], (k : Nat), 4)
    | some (.ok x k) => if tokB s k ≠ ⟨#[]⟩ then (.mk 0 0 0 [], (k : Nat), 4) else if (smallM x 64).1 = false then (.mk 0 0 0 [], 0, 3) else (x, 0, 0)
    | none => (.mk 0 0 0 [], 0, 0)
end Go.Ai
end

section
namespace Go.Ai
set_option maxRecDepth 10000
set_option maxHeartbeats 4000000
/-- Where the tokens stand, from k on, with the end. -/
def posL (s : ByteArray) (k : Nat) : List Nat := if h : k < s.size then k :: posL s (nxtM s k) else [k]
termination_by s.size - k
decreasing_by
  have h1 := nxtM_lt h
  have h2 := nxtM_le (s := s) (k := k) (by omega)
  omega
theorem posL_lt {s : ByteArray} {k : Nat} (h : k < s.size) : posL s k = k :: posL s (nxtM s k) := by rw [posL, dif_pos h]
theorem posL_end {s : ByteArray} {k : Nat} (h : k = s.size) : posL s k = [k] := by rw [posL, dif_neg (by omega)]
def tokC (s : ByteArray) (k : Nat) : List AV := [.lit (.string (tokB s k)), .lit (.int .i64 (k : Nat))]
def toksC (s : ByteArray) (l : List Nat) : List AV := l.flatMap (tokC s)
theorem toksC_len (s : ByteArray) : ∀ (l : List Nat), (toksC s l).length = l.length * 2
  | [] => rfl
  | k :: l => by
    have := toksC_len s l
    unfold toksC at this ⊢
    rw [List.flatMap_cons, List.length_append, this, List.length_cons]
    show 2 + _ = _
    omega
theorem toksC_snoc (s : ByteArray) (l : List Nat) (k : Nat) : toksC s l ++ [.lit (.string (tokB s k)), .lit (.int .i64 (k : Nat))] = toksC s (l ++ [k]) := by
  unfold toksC
  rw [List.flatMap_append]
  simp [tokC]
theorem posL_head (s : ByteArray) (k : Nat) : (posL s k)[0]? = some k := by
  rw [posL]
  split <;> rfl
theorem posL_size {s : ByteArray} : ∀ (m k : Nat), k ≤ s.size → s.size - k ≤ m → (posL s k).length ≤ s.size - k + 1
  | m, k, hk, hm => by
    by_cases h : k < s.size
    · have h1 := nxtM_lt h
      have h2 := nxtM_le (s := s) (k := k) hk
      obtain ⟨m', rfl⟩ : ∃ m', m = m' + 1 := ⟨m - 1, by omega⟩
      have := posL_size m' (nxtM s k) h2 (by omega)
      rw [posL_lt h, List.length_cons]
      omega
    · rw [posL_end (by omega)]
      simp
/-- A row of places of tokens. -/
def PosOK (s : ByteArray) (pos : List Nat) : Prop := ∀ i k, pos[i]? = some k → k ≤ s.size ∧ (k < s.size → pos[i + 1]? = some (nxtM s k))
theorem posL_ok {s : ByteArray} : ∀ (m k : Nat), k ≤ s.size → s.size - k ≤ m → PosOK s (posL s k)
  | m, k, hk, hm => by
    by_cases h : k < s.size
    · have h1 := nxtM_lt h
      have h2 := nxtM_le (s := s) (k := k) hk
      obtain ⟨m', rfl⟩ : ∃ m', m = m' + 1 := ⟨m - 1, by omega⟩
      have ih := posL_ok m' (nxtM s k) h2 (by omega)
      rw [posL_lt h]
      intro i j hj
      cases i with
      | zero =>
        have e : k = j := Option.some.inj hj
        subst e
        refine ⟨hk, fun _ => ?_⟩
        show (posL s (nxtM s k))[0]? = _
        exact posL_head s _
      | succ i => exact ih i j hj
    · have hks : k = s.size := by omega
      rw [posL_end hks]
      intro i j hj
      cases i with
      | zero =>
        have e : k = j := Option.some.inj hj
        subst e
        exact ⟨hk, fun h' => absurd h' h⟩
      | succ i => cases hj
theorem row_tok {s : ByteArray} {pos : List Nat} {g : Nat → Option Blk} {a off : Nat} (hr : Row g a off (toksC s pos)) {i k z : Nat} (h : pos[i]? = some k) :
    loadB (some (false, z)) (g a) (off + i * 2) = some (.lit (.string (tokB s k))) ∧ loadB (some (false, z)) (g a) (off + i * 2 + 1) = some (.lit (.int .i64 (k : Nat))) := by
  obtain ⟨hi, hk⟩ := List.getElem?_eq_some_iff.1 h
  have hl := toksC_len s pos
  have key : ∀ j, j < 2 → loadB (some (false, z)) (g a) (off + (i * 2 + j)) = (tokC s pos[i])[j]? := by
    intro j hj
    have h1 : i * 2 + j < (toksC s pos).length := by omega
    rw [hr.one h1, ← List.getElem?_eq_getElem h1]
    unfold toksC
    rw [← flat_at (f := tokC s) (sz := 2) pos i hi (fun _ _ => rfl), List.getElem?_take_of_lt hj, List.getElem?_drop]
  rw [hk] at key
  exact ⟨key 0 (by omega), by rw [Nat.add_assoc]; exact key 1 (by omega)⟩
/-- How a call of the reference's parser ends. -/
def REnd (pos : List Nat) (g : Nat → Option Blk) (n : Nat) (res : ParR) (r : COut) : Prop :=
  ∃ (x : NodeM) (op : Nat) (p q : Int) (sv : AV) (j : Nat) (e : Int) (g' : Nat → Option Blk) (n' : Nat), r = .ret (.agg [.lit (.int .u8 op), .lit (.int .i64 p), .lit (.int .i64 q), sv, .lit (.int .i64 j), .lit (.int .i64 e)]) ⟨.fn g', n'⟩ ∧ n ≤ n' ∧ (∀ a, a < n → g' a = g a) ∧ FreshN g' n n' x [.lit (.int .u8 op), .lit (.int .i64 p), .lit (.int .i64 q), sv] ∧
    match res with
    | .ok y k => e = 1 ∧ x = y ∧ pos[j]? = some k
    | .err k => e = 0 ∧ pos[j]? = some k
/-- What the reference's parser finds in memory. -/
structure RAt (s : ByteArray) (pos : List Nat) (ta : Nat) (g : Nat → Option Blk) (n : Nat) : Prop where
  tan : ta < n
  toks : Row g ta 0 (toksC s pos)
theorem RAt.keep {s : ByteArray} {pos : List Nat} {ta : Nat} {g g' : Nat → Option Blk} {n n' : Nat} (h : RAt s pos ta g n) (hn : n ≤ n') (hg : ∀ a, a < n → g' a = g a) : RAt s pos ta g' n' :=
  ⟨by have := h.tan; omega, h.toks.mono (hg _ h.tan)⟩
end Go.Ai
end

section
namespace Go.Ai
open Go.RowKit (Below)

variable {B G : Nat} {P : Program} {n n0 : Nat} {ρ0 ρ : Rn} {w0 w : World} {fr : Fr} {H : Mem} {a : Act} {W : WF}

/-- A deferred body, told by what its end is good for. -/
noncomputable def execDW (G : Nat) (P : Program) (n : Nat) (O : CallF) : Code → Fr → Mode → Mem → (OutD → Prop) → Prop
  | .seq x y, fr, u, H, Q => execDW G P n O x fr u H fun r => match r with
    | .norm fr u H => execDW G P n O y fr u H Q
    | r => Q r
  | .cond c x y, fr, u, H, Q => match fr.ev c with
    | some (.lit (.bool true)) => execDW G P n O x fr u H Q
    | some (.lit (.bool false)) => execDW G P n O y fr u H Q
    | _ => False
  | .region _ ops false, fr, u, H, Q => match seqOpsD P O ops ops.toList fr u H with
    | .bad => False
    | r => Q r
  | c, fr, u, H, Q => XW G P n c fr H fun o => match o with
    | .norm fr H => Q (.norm fr u H)
    | .ret fr H => Q (.ret fr u H)
    | _ => False
/-- Its end. -/
def EndD (B G n n0 : Nat) (ρ0 : Rn) (w0 : World) (c₀ : Frame) (cs : List Frame) (Q : OutD → Prop) : Exit → Act → List Frame → World → Prop := fun e a' cs' w' => ∃ out, Q out ∧ OutPostD B G n n0 ρ0 w0 c₀ cs out e a' cs' w'

theorem liftDW_sound (c : Code) {c₀ : Frame} {cs : List Frame} {u : Mode} {m : FrameMode} {Q : OutD → Prop} (s : St B G n n0 ρ0 w0 ρ fr H a w) (hm : MR ρ u m)
    (h : XW G P n c fr H fun o => match o with | .norm fr H => Q (.norm fr u H) | .ret fr H => Q (.ret fr u H) | _ => False) :
    c.wpS P (EndD B G n n0 ρ0 w0 c₀ cs Q) a ({ c₀ with mode := m } :: cs) w := by
  have s1 : St B G n H.next ρ w ρ fr H a w := ⟨Ext.refl _ _ _ _, s.sim, s.frel, Nat.le_refl _⟩
  refine wpS_of_wp (Code.wp_mono ?_ (h B H.next ρ w ρ a w s1))
  rintro e a' w' ⟨r, hq, h⟩
  have up : ∀ {ρ' : Rn} {fr' : Fr} {H' : Mem}, St B G n H.next ρ w ρ' fr' H' a' w' → MR ρ' u m ∧ St B G n n0 ρ0 w0 ρ' fr' H' a' w' := fun {ρ' fr' H'} s' =>
    ⟨hm.mono (s'.ext.sub s.sim), s.ext.trans s'.ext s.le, s'.sim, s'.frel, Nat.le_trans s.le s'.le⟩
  cases r with
  | norm fr' H' => cases e <;> first | exact h.elim | (obtain ⟨ρ', s'⟩ := h; exact ⟨_, hq, ρ', m, rfl, (up s').1, (up s').2⟩)
  | ret fr' H' => cases e <;> first | exact h.elim | (obtain ⟨ρ', s'⟩ := h; exact ⟨_, hq, ρ', m, rfl, (up s').1, (up s').2⟩)
  | exit id fr' H' => exact hq.elim
  | panic v fr' H' => exact hq.elim
  | bad => exact hq.elim

theorem wpS_end {c : Code} {R R' : Exit → Act → List Frame → World → Prop} {c₀ : List Frame} (h : ∀ e a w cs, R e a cs w → R' e a cs w) (k : c.wpS P R a c₀ w) : c.wpS P R' a c₀ w := by
  intro b k' hb hro
  obtain ⟨e, a', cs', w', hq, harr⟩ := k b k' hb hro
  exact ⟨e, a', cs', w', h _ _ _ _ hq, harr⟩

theorem execDW_sound {O : CallF} (hc : CallOK B G P O) (hG : G = P.globals.size) {c₀ : Frame} {cs : List Frame} : ∀ (c : Code) (ρ : Rn) (fr : Fr) (u : Mode) (H : Mem) (m : FrameMode) (a : Act) (w : World) (Q : OutD → Prop),
    dstsOk n c = true → St B G n n0 ρ0 w0 ρ fr H a w → MR ρ u m → execDW G P n O c fr u H Q →
    c.wpS P (EndD B G n n0 ρ0 w0 c₀ cs Q) a ({ c₀ with mode := m } :: cs) w := by
  intro c
  induction c with
  | seq x y ihx ihy =>
    intro ρ fr u H m a w Q hd s hm h
    simp only [dstsOk, Bool.and_eq_true] at hd
    simp only [execDW] at h
    refine wpS_seq ?_
    have key := ihx ρ fr u H m a w _ hd.1 s hm h
    intro b k hb hro
    obtain ⟨e, a', cs', w', ⟨out, hq, ho⟩, harr⟩ := key b k hb hro
    refine ⟨e, a', cs', w', ?_, harr⟩
    cases out with
    | norm fr' u' H' =>
      cases e with
      | normal =>
        obtain ⟨ρ', m', rfl, hm', s'⟩ := ho
        exact ihy ρ' fr' u' H' m' a' w' Q hd.2 s' hm' hq
      | _ => exact ho.elim
    | ret fr' u' H' => cases e <;> first | exact ho.elim | exact ⟨_, hq, ho⟩
    | bad => cases e <;> exact ho.elim
  | cond cnd x y ihx ihy =>
    intro ρ fr u H m a w Q hd s hm h
    simp only [dstsOk, Bool.and_eq_true] at hd
    simp only [execDW] at h
    split at h
    · rename_i hev
      have := s.ev _ _ hev
      exact wpS_cond (t := true) this (ihx ρ fr u H m a w Q hd.1 s hm h)
    · rename_i hev
      have := s.ev _ _ hev
      exact wpS_cond (t := false) this (ihy ρ fr u H m a w Q hd.2 s hm h)
    · exact h.elim
  | region id ops draw =>
    intro ρ fr u H m a w Q hd s hm h
    cases draw with
    | true => exact liftDW_sound (.region id ops true) s hm h
    | false =>
      simp only [execDW] at h
      generalize hr : seqOpsD P O ops ops.toList fr u H = r at h
      have hne : r ≠ .bad := by rintro rfl; exact h
      have hq : Q r := by cases r <;> first | exact h | exact absurd rfl hne
      refine wpS_end (R := OutPostD B G n n0 ρ0 w0 c₀ cs r) (fun e a w cs hh => ⟨r, hq, hh⟩) ?_
      refine wpS_region ?_
      have := seqOpsD_sound (c₀ := c₀) (cs := cs) hc hG hne ops.toList 0 fr u H ρ m a w (fun j => by simp) (fun o ho => List.all_eq_true.1 hd o ho) s hm hr
      rw [List.range_eq_range']
      simpa using this
  | _ => intro ρ fr u H m a w Q hd s hm h; exact liftDW_sound _ s hm h

/-- Behind a deferred call. -/
noncomputable def endDW (P : Program) (g : Func) (K : Mode → Mem → Prop) : OutD → Prop
  | .norm fr u H => match fr.defers, resultsA P g fr H, u with
    | [], some _, .recovered _ => K .returning H
    | [], some _, .returning => K .returning H
    | [], some _, .panicking v => K (.panicking v) H
    | _, _, _ => False
  | .ret fr u H => match fr.defers, resultsA P g fr H, u with
    | [], some _, .recovered _ => K .returning H
    | [], some _, .returning => K .returning H
    | [], some _, .panicking v => K (.panicking v) H
    | _, _, _ => False
  | .bad => False
/-- What a frame leaves behind that has no call deferred. -/
noncomputable def lastW (P : Program) (fn : Func) (fr : Fr) (K : COut → Prop) : Mode → Mem → Prop
  | .returning, H => match resultsA P fn fr H with
    | some v => K (.ret v H)
    | none => False
  | .panicking v, H => K (.panic v H)
  | .recovered _, _ => False
noncomputable def deferW (G : Nat) (P : Program) (O : CallF) (fn : Func) (fr : Fr) (K : COut → Prop) (u : Mode) (H : Mem) : Prop :=
  match fr.defers with
  | [] => lastW P fn fr K u H
  | [(.func f, cap, args)] => ∃ g c, P.funcs[f]? = some g ∧ g.body = some c ∧ hasBody P f = true ∧ dstsOk g.ntmps c = true ∧ (args ++ cap).length ≤ g.ntmps ∧
    execDW G P g.ntmps O c (frameW (args ++ cap)) u H (endDW P g (lastW P fn fr K))
  | _ => False
/-- Behind a body, with at most one deferred call. -/
noncomputable def leaveX (G : Nat) (P : Program) (O : CallF) (fn : Func) (K : COut → Prop) : Out → Prop
  | .norm fr H => deferW G P O fn fr K .returning H
  | .ret fr H => deferW G P O fn fr K .returning H
  | .panic v fr H => deferW G P O fn fr K (.panicking v) H
  | _ => False
theorem lastW_sound {fn : Func} {K : COut → Prop} (hG : G = P.globals.size) {u : Mode} {m : FrameMode} (s : St B G n n0 ρ0 w0 ρ fr H a w) (hm : MR ρ u m) (h : lastW P fn fr K u H) :
    Leaves P fn a.tmps (fun e w' => ∃ r, K r ∧ CPost B G n0 ρ0 w0 r e w') [] m w := by
  cases u with
  | returning =>
    cases hm
    simp only [lastW] at h
    split at h
    · rename_i v hv
      obtain ⟨x, hx, hvx⟩ := results_sound s hG hv
      exact ⟨x, hx, _, h, ρ, s.ext, s.sim, hvx, s.le⟩
    · exact h.elim
  | panicking v =>
    obtain ⟨x, rfl, hx⟩ := hm
    exact ⟨_, h, ρ, x, rfl, hx, s.ext, s.sim, s.le⟩
  | recovered v => exact h.elim
theorem deferW_sound {O : CallF} {fn : Func} {K : COut → Prop} (hc : CallOK B G P O) (hG : G = P.globals.size) {u : Mode} {m : FrameMode} (s : St B G n n0 ρ0 w0 ρ fr H a w) (hm : MR ρ u m) (h : deferW G P O fn fr K u H) :
    Leaves P fn a.tmps (fun e w' => ∃ r, K r ∧ CPost B G n0 ρ0 w0 r e w') a.defers m w := by
  have hd := s.frel.dfr
  unfold deferW at h
  split at h
  · rename_i h0
    rw [h0] at hd
    rw [show a.defers = [] from hd]
    exact lastW_sound hG s hm h
  · rename_i f cap args h0
    rw [h0] at hd
    obtain ⟨cs, aa, ds', h1, hcap, hargs, hd'⟩ := hd
    cases hd'
    rw [h1]
    obtain ⟨g, c, hg, hbody, hhas, hdst, hlen, hx⟩ := h
    have hrun : m ≠ .run := by
      cases u with
      | returning => cases hm; simp
      | panicking v => obtain ⟨x, rfl, _⟩ := hm; simp
      | recovered v => obtain ⟨x, rfl, _⟩ := hm; simp
    have hva : VRs ρ (args ++ cap) (aa ++ cs).toList := by simpa using hargs.append hcap
    refine ⟨hrun, .func f, cs, f, aa ++ cs, rfl, ?_, ?_⟩
    · show (callFunc f (aa ++ cs)).run P w = _
      exact hasBody_run hhas _ w
    · refine callsD_of_wpS hg hbody fun c₀ cs0 hmode => ?_
      have s1 : St B G g.ntmps H.next ρ w ρ (frameW (args ++ cap)) H { tmps := (aa ++ cs) ++ Array.replicate (g.ntmps - (aa ++ cs).size) undef, defers := [] } w := ⟨Ext.refl _ _ _ _, s.sim, frameW_entered hva hlen, Nat.le_refl _⟩
      have hc0 : ({ c₀ with mode := m } : Frame) = c₀ := by subst hmode; rfl
      have key := execDW_sound (c₀ := c₀) (cs := cs0) hc hG c ρ _ u H m _ w _ hdst s1 hm hx
      rw [hc0] at key
      intro b k hb hro
      obtain ⟨e, a', cs', w', ⟨r, hq, ho⟩, harr⟩ := key b k hb hro
      refine ⟨e, a', cs', w', ?_, harr⟩
      have fin : ∀ {fr' : Fr} {u' : Mode} {H' : Mem} {ρ' : Rn} {m' : FrameMode}, cs' = { c₀ with mode := m' } :: cs0 → MR ρ' u' m' → St B G g.ntmps H.next ρ w ρ' fr' H' a' w' →
          (match fr'.defers, resultsA P g fr' H', u' with
            | [], some _, .recovered _ => lastW P fn fr K .returning H'
            | [], some _, .returning => lastW P fn fr K .returning H'
            | [], some _, .panicking v => lastW P fn fr K (.panicking v) H'
            | _, _, _ => False) →
          a'.defers = [] ∧ ∃ u2, cs' = { c₀ with mode := u2 } :: cs0 ∧ ∃ v, (results g a'.tmps).run P w' = .ok v w' ∧ Leaves P fn a.tmps (fun e w' => ∃ r, K r ∧ CPost B G n0 ρ0 w0 r e w') [] (settle u2) w' := by
        intro fr' u' H' ρ' m' hcs hm' s' hmatch
        have sub := s'.ext.sub s.sim
        have hs2 : St B G n n0 ρ0 w0 ρ' fr H' a w' := ⟨s.ext.trans s'.ext s.le, s'.sim, s.frel.mono sub, Nat.le_trans s.le s'.le⟩
        have hdf : fr'.defers = [] → a'.defers = [] := fun h0 => by have := s'.frel.dfr; rw [h0] at this; exact this
        split at hmatch
        · rename_i v x h1 h2
          obtain ⟨y, hy, _⟩ := results_sound s' hG h2
          obtain ⟨z, rfl, hz⟩ := hm'
          exact ⟨hdf h1, _, hcs, y, hy, lastW_sound (u := .returning) (m := .returning) hG hs2 rfl hmatch⟩
        · rename_i v h1 h2
          obtain ⟨y, hy, _⟩ := results_sound s' hG h2
          cases hm'
          exact ⟨hdf h1, _, hcs, y, hy, lastW_sound (u := .returning) (m := .returning) hG hs2 rfl hmatch⟩
        · rename_i v x h1 h2
          obtain ⟨y, hy, _⟩ := results_sound s' hG h2
          obtain ⟨z, rfl, hz⟩ := hm'
          exact ⟨hdf h1, _, hcs, y, hy, lastW_sound (u := .panicking _) (m := .panicking [{ v := z, recovered := false }]) hG hs2 ⟨z, rfl, hz⟩ hmatch⟩
        · exact hmatch.elim
      cases r with
      | norm fr' u' H' =>
        cases e with
        | normal => obtain ⟨ρ', m', hcs, hm', s'⟩ := ho; exact fin hcs hm' s' hq
        | _ => exact ho.elim
      | ret fr' u' H' =>
        cases e with
        | ret => obtain ⟨ρ', m', hcs, hm', s'⟩ := ho; exact fin hcs hm' s' hq
        | _ => exact ho.elim
      | bad => exact hq.elim
  · exact h.elim

/-- A CALL, BY ITS BODY AND WHAT IT DEFERS. -/
theorem WC.enterX {f : FuncId} {fn : Func} {c : Code} {args : List AV} {K : COut → Prop} {O : CallF} (hO : ∀ B, CallOK B G P O) (hG : G = P.globals.size) (plan : List (Nat × List It)) (hf : P.funcs[f]? = some fn) (hb : fn.body = some c)
    (hd : (dstsOk fn.ntmps c && codeOk P plan c) = true) (hl : args.length ≤ fn.ntmps) (h : execP P (orW O (WC G P)) (LX G P fn.ntmps) plan c (frameW args) H (leaveX G P O fn K)) : WC G P f args H K := by
  rw [Bool.and_eq_true] at hd
  intro B ρ us w s hv
  have s1 : St B G fn.ntmps H.next ρ w ρ (frameW args) H { tmps := us ++ Array.replicate (fn.ntmps - us.size) undef, defers := [] } w := ⟨Ext.refl _ _ _ _, s, frameW_entered hv hl, Nat.le_refl _⟩
  refine calls_of_wp_defers hf hb (Code.wp_mono ?_ (execP_sound (orW_ok hO) (orW_mono (WC_mono' G P)) hG c _ H _ hd.1 hd.2 h B H.next ρ w ρ _ w s1))
  rintro e a' w' ⟨out, hq, ho⟩
  cases out with
  | norm fr' H' =>
    cases e with
    | normal => obtain ⟨ρ', s'⟩ := ho; exact deferW_sound (hO B) hG (u := .returning) (m := .returning) s' rfl hq
    | _ => exact ho.elim
  | ret fr' H' =>
    cases e with
    | ret => obtain ⟨ρ', s'⟩ := ho; exact deferW_sound (hO B) hG (u := .returning) (m := .returning) s' rfl hq
    | _ => exact ho.elim
  | panic v fr' H' =>
    cases e with
    | panic chain => obtain ⟨ρ', x, rfl, hx, s'⟩ := ho; exact deferW_sound (hO B) hG (u := .panicking v) s' ⟨x, rfl, hx⟩ hq
    | _ => exact ho.elim
  | exit id fr' H' => exact hq.elim
  | bad => exact hq.elim
end Go.Ai
end

section
namespace Go.Ai
open Go.ChangeShapes Go.WideShapes Go.ChangeAt Go.RowKit
variable {H : Type} {enc : TypeId × Value → H} {P : Program}

/-- Behind a call that left all as it was. -/
theorem post_below {f : Func} {s : ChangeSpec} {apart fresh handsOn again : Bool} {W W' : World} {args : Array Value} {v : Value} {ds gs : List (DataW H)} {before pa pv : List MemPlace}
    (hW : DataW.Whole enc P f.params.toList s.vars apart W args.toList ds gs before)
    (hres : ∀ (b : Nat) (sp : Nat → Bool) (hd : Bool), DataW.TrodAll enc P W' b sp hd f.resultTypes.toList (v.resultList f.resultTypes.size) (s.fn H (ds ++ gs)).results [])
    (hargs : ∀ sp : Nat → Bool, (∀ p ∈ before, sp p.block = true) → DataW.TrodAll enc P W' 0 sp true f.params.toList args.toList (s.fn H (ds ++ gs)).args pa)
    (hvars : ∀ sp : Nat → Bool, (∀ p ∈ before, sp p.block = true) → DataW.TrodVars enc P W' sp s.vars (s.fn H (ds ++ gs)).vars pv)
    (hps : before = pa ++ pv) (hB : Below W.heap.size W W')
    (hok : ∀ (j : Nat) (t : TypeId) (r : Value), f.resultTypes[j]? = some t → (v.resultList f.resultTypes.size)[j]? = some r → Value.okWide P W' .any 0 t r) :
    s.post enc P f apart fresh handsOn again W args v W' := by
  have hlt : ∀ p ∈ before, p.block < W.heap.size := fun p hp => hW.lt p hp
  have hold : ∀ p ∈ before, (fun b => decide (b < W.heap.size)) p.block = true := fun p hp => by simpa using hlt p hp
  refine ⟨ds, gs, before, [], pa, pv, hW, hres _ _ _, hargs _ hold, hvars _ hold, World.keptBut_mono (fun p hp => ⟨hp, ?_⟩) (hB.frame (· ∈ before)), fun _ => ?_⟩
  · rw [hps, List.mem_append] at hp
    exact Or.inr hp
  · obtain ⟨_, _, _, _, _, hz, hn⟩ := hW
    refine ⟨hok, _, _, ([] ++ pa) ++ pv, ⟨[] ++ pa, pv, trodAll_append (hargs _ (fun _ _ => rfl)) (hres _ _ _), hvars _ (fun _ _ => rfl), rfl, ?_, ?_⟩, ?_⟩
    · intro b off hp
      have hp' : MemPlace.cell b off ∈ before := by rw [hps]; simpa using hp
      rw [hB.frozen (p := ⟨b, off, none⟩) (hlt _ hp')]
      exact hz b off hp'
    · intro ha
      have := hn ha
      rw [hps] at this
      simpa using this
    · intro p hp _
      rw [hps]
      simpa using hp

end Go.Ai
end
