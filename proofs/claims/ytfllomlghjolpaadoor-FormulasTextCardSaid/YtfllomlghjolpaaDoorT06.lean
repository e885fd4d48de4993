/- A small verified interpreter over names, its proofs, and what was proved with it. No condition. -/
import Derived.Lib.AtoiAll
import Derived.Lib.ItoaNum
import Derived.Test.YtfllomlghjolpaaDoorT05
set_option linter.all false
set_option linter.deprecated false
section
namespace Go.Ai

set_option maxRecDepth 10000
theorem gput_ne {g : Nat → Option Blk} {a j : Nat} {x : Option Blk} (h : j ≠ a) : gput g a x j = g j := if_neg h
theorem gput_eq {g : Nat → Option Blk} {a : Nat} {x : Option Blk} : gput g a x a = x := if_pos rfl
theorem ba_size_append (a b : ByteArray) : (a ++ b).size = a.size + b.size := by simp
/-- A slice with these cells. -/
def SliceV (g : Nat → Option Blk) (b : Nat) (sv : AV) (len : Nat) (cs : List AV) : Prop :=
  (len = 0 ∧ cs = [] ∧ (sv = .lit (.slice none 0 0) ∨ sv = .es)) ∨ ∃ a off, a < b ∧ ((∃ c, sv = .sl a off len c) ∨ ∃ c, sv = .slq a off len c) ∧ Row g a off cs
theorem SliceV.mono {g g' : Nat → Option Blk} {b b' len : Nat} {sv : AV} {cs : List AV} (hb : b ≤ b') (h : ∀ a, a < b → g' a = g a) : SliceV g b sv len cs → SliceV g' b' sv len cs :=
  fun hs => hs.imp id fun ⟨a, off, h1, h2, h3⟩ => ⟨a, off, by omega, h2, h3.mono (h a h1)⟩
/-- A formula: its operation, its two numbers, its subs. -/
inductive NodeM where
  | mk (op : Nat) (a b : Int) (subs : List NodeM)
def NodeM.op : NodeM → Nat
  | .mk op _ _ _ => op
mutual
def sizeN : NodeM → Nat
  | .mk _ _ _ l => sizeL l + 1
def sizeL : List NodeM → Nat
  | [] => 0
  | x :: l => sizeN x + sizeL l
end
theorem size_mem : ∀ {l : List NodeM} {x : NodeM}, x ∈ l → sizeN x ≤ sizeL l
  | y :: l, x, h => by
    unfold sizeL
    rcases List.mem_cons.1 h with rfl | h
    · omega
    · have := size_mem h; omega
theorem size_pos : ∀ (x : NodeM), 1 ≤ sizeN x
  | .mk _ _ _ _ => by unfold sizeN; omega
theorem len_size : ∀ (l : List NodeM), l.length ≤ sizeL l
  | [] => Nat.le_refl _
  | x :: l => by
    have := len_size l
    have h1 := size_pos x
    unfold sizeL
    simp only [List.length_cons]
    omega
mutual
/-- Its cells, in a memory of blocks below b. -/
def repN (g : Nat → Option Blk) (b : Nat) : NodeM → List AV → Prop
  | .mk op k q subs, cs => op < 256 ∧ ∃ sv, cs = [.lit (.int .u8 op), .lit (.int .i64 k), .lit (.int .i64 q), sv] ∧
    ((subs = [] ∧ (sv = .lit (.slice none 0 0) ∨ sv = .es)) ∨
     ∃ a off r, a < b ∧ ((∃ c, sv = .sl a off subs.length c) ∨ (∃ c, sv = .slq a off subs.length c)) ∧ Row g a off r ∧ repL g b subs r)
def repL (g : Nat → Option Blk) (b : Nat) : List NodeM → List AV → Prop
  | [], cs => cs = []
  | x :: l, cs => ∃ c r, cs = c ++ r ∧ repN g b x c ∧ repL g b l r
end
mutual
theorem repN_ext {g g' : Nat → Option Blk} {b b' : Nat} (hb : b ≤ b') (h : ∀ a x, a < b → g a = some x → g' a = some x) : ∀ {x : NodeM} {cs : List AV}, repN g b x cs → repN g' b' x cs
  | .mk op k q subs, cs, ⟨h0, sv, h1, h2⟩ => ⟨h0, sv, h1, h2.imp id fun ⟨a, off, r, h3, h4, ⟨l, own, z, h5, h6⟩, h7⟩ => ⟨a, off, r, by omega, h4, ⟨l, own, z, h a _ h3 h5, h6⟩, repL_ext hb h h7⟩⟩
theorem repL_ext {g g' : Nat → Option Blk} {b b' : Nat} (hb : b ≤ b') (h : ∀ a x, a < b → g a = some x → g' a = some x) : ∀ {l : List NodeM} {cs : List AV}, repL g b l cs → repL g' b' l cs
  | [], _, h0 => h0
  | _ :: _, _, ⟨c, r, h1, h2, h3⟩ => ⟨c, r, h1, repN_ext hb h h2, repL_ext hb h h3⟩
end
theorem repN_mono {g g' : Nat → Option Blk} {b b' : Nat} (hb : b ≤ b') (h : ∀ a, a < b → g' a = g a) {x : NodeM} {cs : List AV} (hr : repN g b x cs) : repN g' b' x cs := repN_ext hb (fun a z ha hz => (h a ha).trans hz) hr
theorem repN_len {g : Nat → Option Blk} {b : Nat} {x : NodeM} {cs : List AV} (h : repN g b x cs) : cs.length = 4 := by
  cases x with
  | mk op k q subs => obtain ⟨_, sv, rfl, _⟩ := h; rfl
theorem repL_len {g : Nat → Option Blk} {b : Nat} : ∀ {l : List NodeM} {cs : List AV}, repL g b l cs → cs.length = l.length * 4
  | [], cs, h => by have h' : cs = [] := h; rw [h']; rfl
  | x :: l, cs, ⟨c, r, h1, h2, h3⟩ => by rw [h1, List.length_append, repN_len h2, repL_len h3, List.length_cons]; omega
theorem repL_at {g : Nat → Option Blk} {b : Nat} : ∀ {l : List NodeM} {cs : List AV}, repL g b l cs → ∀ (k : Nat) (h : k < l.length), repN g b l[k] ((cs.drop (k * 4)).take 4)
  | x :: l, cs, ⟨c, r, h1, h2, h3⟩, 0, h => by
    subst h1
    have := repN_len h2
    simp only [Nat.zero_mul, List.drop_zero, List.getElem_cons_zero]
    rw [List.take_append_of_le_length (by omega), List.take_of_length_le (by omega)]
    exact h2
  | x :: l, cs, ⟨c, r, h1, h2, h3⟩, k + 1, h => by
    subst h1
    have hl := repN_len h2
    have := repL_at h3 k (by simpa using h)
    simp only [List.getElem_cons_succ]
    rw [show (k + 1) * 4 = c.length + k * 4 by omega, ← List.drop_drop, List.drop_left' rfl]
    exact this
/-- Its four cells, told apart. -/
theorem repN_one {g : Nat → Option Blk} {b : Nat} {x : NodeM} {cs : List AV} (h : repN g b x cs) : ∃ k q sv, cs = [.lit (.int .u8 x.op), .lit (.int .i64 k), .lit (.int .i64 q), sv] ∧ oneC sv = true ∧ x.op < 256 := by
  cases x with
  | mk op k q subs =>
    obtain ⟨h0, sv, rfl, h⟩ := h
    refine ⟨_, _, sv, rfl, ?_, h0⟩
    rcases h with ⟨_, rfl | rfl⟩ | ⟨a, off, r, _, ⟨c, rfl⟩ | ⟨c, rfl⟩, _⟩ <;> rfl
theorem repN_c {g : Nat → Option Blk} {n op : Nat} {x : NodeM} {k q : Int} {sv : AV} (h : repN g n x [.lit (.int .u8 op), .lit (.int .i64 k), .lit (.int .i64 q), sv]) : oneC sv = true := by
  obtain ⟨_, _, _, hcc, h1c, _⟩ := repN_one h
  cases hcc; exact h1c
mutual
/-- A cell that is no part of it may be written. -/
theorem repN_put {g g' : Nat → Option Blk} {b b' p : Nat} {v v' : AV} {o o' : Bool} {z z' : Nat} (hb : b ≤ b') (h : ∀ a, a < b → a ≠ p → g' a = g a) (h1 : g p = some (.cells [v] o z)) (h2 : g' p = some (.cells [v'] o' z')) :
    ∀ {x : NodeM} {cs : List AV}, repN g b x cs → repN g' b' x cs
  | .mk op k q subs, cs, ⟨h0, sv, e1, e2⟩ => ⟨h0, sv, e1, e2.imp id fun ⟨a, off, r, h3, h4, h5, h6⟩ => by
      refine ⟨a, off, r, by omega, h4, ?_, repL_put hb h h1 h2 h6⟩
      by_cases e : a = p
      · subst e
        obtain ⟨l, ow, zz, k1, k2, k3⟩ := h5
        rw [h1] at k1
        cases k1
        have hl := repL_len h6
        simp at k2
        have hr : r = [] := List.length_eq_zero_iff.1 (by omega)
        subst hr
        exact ⟨[v'], o', z', h2, by simp at k2 ⊢; omega, rfl⟩
      · exact h5.mono (h a h3 e)⟩
theorem repL_put {g g' : Nat → Option Blk} {b b' p : Nat} {v v' : AV} {o o' : Bool} {z z' : Nat} (hb : b ≤ b') (h : ∀ a, a < b → a ≠ p → g' a = g a) (h1 : g p = some (.cells [v] o z)) (h2 : g' p = some (.cells [v'] o' z')) :
    ∀ {l : List NodeM} {cs : List AV}, repL g b l cs → repL g' b' l cs
  | [], _, h0 => h0
  | _ :: _, _, ⟨c, r, e1, e2, e3⟩ => ⟨c, r, e1, repN_put hb h h1 h2 e2, repL_put hb h h1 h2 e3⟩
end
/-- A block of one cell holds no nodes. -/
theorem row_ne {g : Nat → Option Blk} {a off p : Nat} {r : List AV} {v : AV} {o : Bool} {z : Nat} (h : Row g a off r) (hp : g p = some (.cells [v] o z)) (hr : 2 ≤ r.length) : a ≠ p := by
  rintro rfl
  obtain ⟨l, ow, zz, k1, k2, k3⟩ := h
  rw [hp] at k1
  cases k1
  simp at k2
  omega
theorem repL_one {g : Nat → Option Blk} {b : Nat} {x : NodeM} {cs : List AV} (h : repN g b x cs) : repL g b [x] cs := ⟨cs, [], by simp, h, rfl⟩
/-- A new node in the memory of nodes. -/
theorem node_rep {gk : Nat → Option Blk} {n' n2 S op k : Nat} {subs : List NodeM} {cs : List AV} (hs : repL gk n' subs cs) (hk : subs.length = k) (hop : op < 256) (h1 : n' ≤ S) (h2 : S < n2) :
    repN (gput gk S (some (.cells cs true 0))) n2 (.mk op 0 0 subs) [.lit (.int .u8 op), .lit (.int .i64 0), .lit (.int .i64 0), .sl S 0 k k] := by
  subst hk
  refine ⟨hop, _, rfl, .inr ⟨S, 0, cs, h2, .inl ⟨_, rfl⟩, ⟨cs, true, 0, gput_eq, by simp, by simp⟩, ?_⟩⟩
  exact repL_ext (by omega) (fun a z ha hz => by rw [gput_lt (by omega)]; exact hz) hs
/-- A node in blocks from n on. -/
def FreshN (g : Nat → Option Blk) (n n' : Nat) (x : NodeM) (cs : List AV) : Prop := ∃ gk : Nat → Option Blk, (∀ a z, gk a = some z → g a = some z ∧ n ≤ a ∧ a < n') ∧ repN gk n' x cs
theorem FreshN.leaf {g : Nat → Option Blk} {n n' op : Nat} {k q : Int} (h : op < 256) : FreshN g n n' (.mk op k q []) [.lit (.int .u8 op), .lit (.int .i64 k), .lit (.int .i64 q), .lit (.slice none 0 0)] := by
  refine ⟨fun _ => none, ⟨fun a z h => ?_, ?_⟩⟩
  · cases h
  · exact ⟨h, _, rfl, .inl ⟨rfl, .inl rfl⟩⟩
theorem FreshN.keep {g g' : Nat → Option Blk} {n0 n n' n2 : Nat} {x : NodeM} {cs : List AV} (h : FreshN g n n' x cs) (h0 : n0 ≤ n) (h2 : n' ≤ n2) (hg : ∀ a, n ≤ a → a < n' → g' a = g a) : FreshN g' n0 n2 x cs := by
  obtain ⟨gk, h1, h3⟩ := h
  refine ⟨gk, fun a z hz => ?_, repN_ext h2 (fun a z _ hz => hz) h3⟩
  obtain ⟨e1, e2, e3⟩ := h1 a z hz
  exact ⟨(hg a e2 e3).trans e1, by omega, by omega⟩
theorem FreshN.rep {g : Nat → Option Blk} {n n' : Nat} {x : NodeM} {cs : List AV} (h : FreshN g n n' x cs) : repN g n' x cs := by
  obtain ⟨gk, h1, h3⟩ := h
  exact repN_ext (Nat.le_refl _) (fun a z _ hz => (h1 a z hz).1) h3
def FreshL (g : Nat → Option Blk) (n n' : Nat) (l : List NodeM) (cs : List AV) : Prop := ∃ gk : Nat → Option Blk, (∀ a z, gk a = some z → g a = some z ∧ n ≤ a ∧ a < n') ∧ repL gk n' l cs
theorem FreshL.one {g : Nat → Option Blk} {n n' : Nat} {x : NodeM} {cs : List AV} (h : FreshN g n n' x cs) : FreshL g n n' [x] cs := by
  obtain ⟨gk, h1, h3⟩ := h
  exact ⟨gk, h1, repL_one h3⟩
theorem FreshL.two {g : Nat → Option Blk} {n n' : Nat} {x y : NodeM} {cs ds : List AV} (h : FreshN g n n' x cs) (h' : FreshN g n n' y ds) : FreshL g n n' [x, y] (cs ++ ds) := by
  obtain ⟨gk, h1, h3⟩ := h
  obtain ⟨gl, h4, h5⟩ := h'
  refine ⟨fun a => if n ≤ a ∧ a < n' then g a else none, fun a z hz => ?_, cs, ds, rfl, repN_ext (Nat.le_refl _) (fun a z _ hz => ?_) h3, repL_one (repN_ext (Nat.le_refl _) (fun a z _ hz => ?_) h5)⟩
  · dsimp only at hz
    split at hz
    · rename_i h; exact ⟨hz, h⟩
    · cases hz
  · obtain ⟨e1, e2⟩ := h1 a z hz
    rw [if_pos e2, e1]
  · obtain ⟨e1, e2⟩ := h4 a z hz
    rw [if_pos e2, e1]
theorem FreshN.node {g g' : Nat → Option Blk} {n n' n2 S op k : Nat} {subs : List NodeM} {cs : List AV} (h : FreshL g n n' subs cs) (hk : subs.length = k) (hop : op < 256) (hS : g' S = some (.cells cs true 0)) (h1 : n' ≤ S) (h2 : S < n2) (h0 : n ≤ n') (hg : ∀ a, n ≤ a → a < n' → g' a = g a) :
    FreshN g' n n2 (.mk op 0 0 subs) [.lit (.int .u8 op), .lit (.int .i64 0), .lit (.int .i64 0), .sl S 0 k k] := by
  obtain ⟨gk, h3, h4⟩ := h
  refine ⟨gput gk S (some (.cells cs true 0)), fun a z hz => ?_, node_rep h4 hk hop h1 h2⟩
  rcases gput_v hz with ⟨rfl, rfl⟩ | ⟨_, hz⟩
  · exact ⟨hS, by omega, h2⟩
  · obtain ⟨e1, e2, e3⟩ := h3 a z hz
    exact ⟨(hg a e2 e3).trans e1, e2, by omega⟩
/-- A node in blocks from n on, but not in q. -/
def FreshQ (g : Nat → Option Blk) (n q n' : Nat) (x : NodeM) (cs : List AV) : Prop := ∃ gk : Nat → Option Blk, (∀ a z, gk a = some z → g a = some z ∧ n ≤ a ∧ a < n' ∧ a ≠ q) ∧ repN gk n' x cs
theorem FreshQ.rep {g : Nat → Option Blk} {n q n' : Nat} {x : NodeM} {cs : List AV} (h : FreshQ g n q n' x cs) : repN g n' x cs := by
  obtain ⟨gk, h1, h3⟩ := h
  exact repN_ext (Nat.le_refl _) (fun a z _ hz => (h1 a z hz).1) h3
theorem FreshQ.of {g g' : Nat → Option Blk} {n q n' n2 : Nat} {x : NodeM} {cs : List AV} (h : FreshN g n n' x cs) (h1 : n' ≤ q) (h2 : n' ≤ n2) (hg : ∀ a, n ≤ a → a < n' → g' a = g a) : FreshQ g' n q n2 x cs := by
  obtain ⟨gk, h3, h4⟩ := h
  refine ⟨gk, fun a z hz => ?_, repN_ext h2 (fun a z _ hz => hz) h4⟩
  obtain ⟨e1, e2, e3⟩ := h3 a z hz
  exact ⟨(hg a e2 e3).trans e1, e2, by omega, by omega⟩
theorem FreshQ.fresh {g g' : Nat → Option Blk} {n0 n q n' n2 : Nat} {x : NodeM} {cs : List AV} (h : FreshQ g n q n' x cs) (h0 : n0 ≤ n) (h2 : n' ≤ n2) (hg : ∀ a, n ≤ a → a < n' → a ≠ q → g' a = g a) : FreshN g' n0 n2 x cs := by
  obtain ⟨gk, h1, h3⟩ := h
  refine ⟨gk, fun a z hz => ?_, repN_ext h2 (fun a z _ hz => hz) h3⟩
  obtain ⟨e1, e2, e3, e4⟩ := h1 a z hz
  exact ⟨(hg a e2 e3 e4).trans e1, by omega, by omega⟩
theorem FreshQ.keep {g g' : Nat → Option Blk} {n q n' n2 : Nat} {x : NodeM} {cs : List AV} (h : FreshQ g n q n' x cs) (h2 : n' ≤ n2) (hg : ∀ a, n ≤ a → a < n' → a ≠ q → g' a = g a) : FreshQ g' n q n2 x cs := by
  obtain ⟨gk, h1, h3⟩ := h
  refine ⟨gk, fun a z hz => ?_, repN_ext h2 (fun a z _ hz => hz) h3⟩
  obtain ⟨e1, e2, e3, e4⟩ := h1 a z hz
  exact ⟨(hg a e2 e3 e4).trans e1, by omega, by omega, e4⟩
theorem FreshQ.bin {g g' : Nat → Option Blk} {n q n1 n' n2 S op : Nat} {x y : NodeM} {cs ds : List AV} (hx : FreshQ g n q n' x cs) (hy : FreshN g n1 n' y ds) (hn : n ≤ n1) (hq : q < n1) (hop : op < 256) (hS : g' S = some (.cells (cs ++ ds) true 0)) (hS0 : n ≤ S) (hS1 : n' ≤ S) (hS2 : S < n2) (hSq : S ≠ q)
    (hg : ∀ a, n ≤ a → a < n' → a ≠ q → g' a = g a) : FreshQ g' n q n2 (.mk op 0 0 [x, y]) [.lit (.int .u8 op), .lit (.int .i64 0), .lit (.int .i64 0), .sl S 0 2 2] := by
  obtain ⟨gk, h1, h3⟩ := hx
  obtain ⟨gl, h4, h5⟩ := hy
  have key : repL (fun a => if n ≤ a ∧ a < n' ∧ a ≠ q then g a else none) n' [x, y] (cs ++ ds) := by
    refine ⟨cs, ds, rfl, repN_ext (Nat.le_refl _) (fun a z _ hz => ?_) h3, repL_one (repN_ext (Nat.le_refl _) (fun a z _ hz => ?_) h5)⟩
    · obtain ⟨e1, e2⟩ := h1 a z hz
      rw [if_pos e2, e1]
    · obtain ⟨e1, e2, e3⟩ := h4 a z hz
      rw [if_pos ⟨by omega, e3, by omega⟩, e1]
  refine ⟨gput (fun a => if n ≤ a ∧ a < n' ∧ a ≠ q then g a else none) S (some (.cells (cs ++ ds) true 0)), fun a z hz => ?_, node_rep key rfl hop hS1 hS2⟩
  rcases gput_v hz with ⟨rfl, rfl⟩ | ⟨_, hz⟩
  · exact ⟨hS, hS0, hS2, hSq⟩
  · split at hz
    · rename_i h; exact ⟨(hg a h.1 h.2.1 h.2.2).trans hz, h.1, by omega, h.2.2⟩
    · cases hz
mutual
/-- How many more nodes may be: whether they are few enough; what is left. -/
def smallM : NodeM → Int → Bool × Int
  | .mk _ _ _ subs, left => smallL subs (left - 1)
def smallL : List NodeM → Int → Bool × Int
  | [], left => (decide (0 ≤ left), left)
  | y :: l, left => if left < 0 then (false, left) else match smallM y left with
    | (true, left') => smallL l left'
    | (false, left') => (false, left')
end
mutual
theorem smallM_lo : ∀ (x : NodeM) (left : Int), 0 ≤ left → -1 ≤ (smallM x left).2 ∧ (smallM x left).2 ≤ left
  | .mk _ _ _ subs, left, h => by
    have := smallL_lo subs (left - 1) (by omega)
    unfold smallM
    omega
theorem smallL_lo : ∀ (l : List NodeM) (left : Int), -1 ≤ left → -1 ≤ (smallL l left).2 ∧ (smallL l left).2 ≤ left
  | [], left, h => ⟨h, Int.le_refl _⟩
  | y :: l, left, h => by
    unfold smallL
    by_cases h0 : left < 0
    · rw [if_pos h0]; exact ⟨h, Int.le_refl _⟩
    · rw [if_neg h0]
      have h1 := smallM_lo y left (by omega)
      cases hs : smallM y left with
      | mk b left' =>
        rw [hs] at h1
        cases b with
        | false => exact h1
        | true =>
          have h2 := smallL_lo l left' h1.1
          dsimp only at h1 ⊢
          omega
end
theorem smallL_true {y : NodeM} {l : List NodeM} {left : Int} (h : ¬left < 0) (h1 : (smallM y left).1 = true) : smallL (y :: l) left = smallL l (smallM y left).2 := by
  rw [smallL, if_neg h]
  cases hs : smallM y left with
  | mk b q => rw [hs] at h1; cases b <;> simp_all
theorem smallL_false {y : NodeM} {l : List NodeM} {left : Int} (h : ¬left < 0) (h1 : (smallM y left).1 = false) : smallL (y :: l) left = (false, (smallM y left).2) := by
  rw [smallL, if_neg h]
  cases hs : smallM y left with
  | mk b q => rw [hs] at h1; cases b <;> simp_all
end Go.Ai
end

section
namespace Go.Ai
set_option maxRecDepth 10000
def letterM (c : Int) : Bool := decide (97 ≤ c ∧ c ≤ 122) || decide (65 ≤ c ∧ c ≤ 90)
def digitM (c : Int) : Bool := decide (48 ≤ c ∧ c ≤ 57)
theorem digit_in {c : Int} (h : digitM c = true) : 48 ≤ c ∧ c ≤ 57 := by simpa [digitM] using h
def runF (F : Nat → Int → Bool) (s : ByteArray) (k : Nat) : Nat → Nat → Nat
  | 0, j => j
  | m + 1, j => if k + j < s.size then (if F j (bAt s (k + j)) = true then runF F s k m (j + 1) else j) else j
def fLetter : Nat → Int → Bool := fun _ c => letterM c
def fDigit : Nat → Int → Bool := fun _ c => digitM c
theorem runF_le {F : Nat → Int → Bool} {s : ByteArray} {k : Nat} : ∀ (m j : Nat), k + j ≤ s.size → j ≤ runF F s k m j ∧ k + runF F s k m j ≤ s.size
  | 0, j, h => ⟨Nat.le_refl _, h⟩
  | m + 1, j, h => by
    unfold runF
    split
    · split
      · have := runF_le (F := F) (s := s) (k := k) m (j + 1) (by omega); omega
      · exact ⟨Nat.le_refl _, h⟩
    · exact ⟨Nat.le_refl _, h⟩
theorem run_step {F : Nat → Int → Bool} {s : ByteArray} {i j : Nat} (h : i + j < s.size) : runF F s i (s.size - i - j) j = if F j (bAt s (i + j)) = true then runF F s i (s.size - i - (j + 1)) (j + 1) else j := by
  rw [show s.size - i - j = (s.size - i - (j + 1)) + 1 by omega, runF, if_pos h]
theorem run_end {F : Nat → Int → Bool} {s : ByteArray} {i j : Nat} (h : s.size ≤ i + j) : runF F s i (s.size - i - j) j = j := by
  rw [show s.size - i - j = 0 by omega]
  rfl
def skipM (s : ByteArray) : Nat → Nat → Nat
  | 0, k => k
  | m + 1, k => if k < s.size then (if bAt s k = 32 then skipM s m (k + 1) else k) else k
theorem skipM_le {s : ByteArray} : ∀ (m k : Nat), k ≤ s.size → k ≤ skipM s m k ∧ skipM s m k ≤ s.size
  | 0, k, h => ⟨Nat.le_refl _, h⟩
  | m + 1, k, h => by
    unfold skipM
    split
    · split
      · have := skipM_le (s := s) m (k + 1) (by omega); omega
      · omega
    · omega
/-- How long the token at k is. -/
def tokN (s : ByteArray) (k : Nat) : Nat :=
  if letterM (bAt s k) = true then runF fLetter s k (s.size - k - 1) 1 else if digitM (bAt s k) = true then runF fDigit s k (s.size - k - 1) 1 else 1
theorem tokN_le {s : ByteArray} {k : Nat} (h : k < s.size) : 1 ≤ tokN s k ∧ k + tokN s k ≤ s.size := by
  have h1 := runF_le (F := fLetter) (s := s) (k := k) (s.size - k - 1) 1 (by omega)
  have h2 := runF_le (F := fDigit) (s := s) (k := k) (s.size - k - 1) 1 (by omega)
  unfold tokN
  split
  · omega
  · split <;> omega
/-- The token at k. -/
def tokB (s : ByteArray) (k : Nat) : ByteArray := if k = s.size then ⟨#[]⟩ else s.extract k (k + tokN s k)
def advM (s : ByteArray) (j : Nat) : Nat := skipM s (s.size - j) j
/-- Where the token stands that follows the one at k. -/
def nxtM (s : ByteArray) (k : Nat) : Nat := advM s (k + (tokB s k).size)
theorem tok_size {s : ByteArray} {k : Nat} (h : k < s.size) : (tokB s k).size = tokN s k := by
  have := tokN_le h
  unfold tokB
  rw [if_neg (by omega), ByteArray.size_extract]
  omega
theorem tok_le {s : ByteArray} {k : Nat} (h : k ≤ s.size) : k + (tokB s k).size ≤ s.size := by
  by_cases h1 : k = s.size
  · have : (tokB s k).size = 0 := by unfold tokB; rw [if_pos h1]; rfl
    omega
  · rw [tok_size (by omega)]
    exact (tokN_le (by omega)).2
theorem advM_le {s : ByteArray} {j : Nat} (h : j ≤ s.size) : j ≤ advM s j ∧ advM s j ≤ s.size := skipM_le _ _ h
theorem nxtM_le {s : ByteArray} {k : Nat} (h : k ≤ s.size) : nxtM s k ≤ s.size := (advM_le (tok_le h)).2
theorem nxtM_ge {s : ByteArray} {k : Nat} (h : k ≤ s.size) : k ≤ nxtM s k := by
  have h1 := (advM_le (tok_le h)).1
  unfold nxtM
  omega
theorem nxtM_lt {s : ByteArray} {k : Nat} (h : k < s.size) : k < nxtM s k := by
  have h1 := (advM_le (tok_le (Nat.le_of_lt h))).1
  have h2 := tok_size h
  have h3 := tokN_le h
  unfold nxtM
  omega
theorem tok_empty {s : ByteArray} {k : Nat} (h : k ≤ s.size) : tokB s k = ⟨#[]⟩ ↔ k = s.size := by
  constructor
  · intro e
    apply Classical.byContradiction
    intro hne
    have h2 := tok_size (s := s) (k := k) (by omega)
    have h3 := tokN_le (s := s) (k := k) (by omega)
    rw [e] at h2
    have : (⟨#[]⟩ : ByteArray).size = 0 := rfl
    omega
  · intro e; unfold tokB; rw [if_pos e]
theorem tok_full {s : ByteArray} {k : Nat} {t : ByteArray} (h : k ≤ s.size) (ht : tokB s k = t) (h0 : 0 < t.size) : k < s.size := by
  have hne : k ≠ s.size := fun e => by
    have := (tok_empty h).2 e
    rw [ht] at this
    rw [this] at h0
    exact absurd h0 (by decide)
  omega
theorem adv_stay {s : ByteArray} {k : Nat} (h : k = s.size ∨ bAt s k ≠ 32) : advM s k = k := by
  unfold advM
  rcases h with h | h
  · rw [h, Nat.sub_self]; rfl
  · cases hm : s.size - k with
    | zero => rfl
    | succ m =>
      unfold skipM
      split
      · first | rfl | rw [if_neg h]
      · rfl
theorem adv_skip {s : ByteArray} {k : Nat} (hk : k < s.size) (h : bAt s k = 32) : advM s k = advM s (k + 1) := by
  unfold advM
  rw [show s.size - k = (s.size - (k + 1)) + 1 by omega, skipM, if_pos hk, if_pos h]
/-- The signs of the operations. -/
def signs : List ByteArray := [⟨#[116, 114, 117, 101]⟩, ⟨#[115, 116, 97, 116, 101]⟩, ⟨#[99, 97, 110]⟩, ⟨#[103, 105, 118, 101, 115]⟩, ⟨#[110, 111, 116]⟩, ⟨#[97, 110, 100]⟩, ⟨#[111, 114]⟩, ⟨#[69, 88]⟩, ⟨#[69, 70]⟩, ⟨#[69, 71]⟩, ⟨#[69]⟩, ⟨#[65, 88]⟩, ⟨#[65, 70]⟩, ⟨#[65, 71]⟩, ⟨#[65]⟩]
def signB (o : Nat) : ByteArray := signs.getD o ⟨#[]⟩
def openT : ByteArray := ⟨#[40]⟩
def closeT : ByteArray := ⟨#[41]⟩
def leftT : ByteArray := ⟨#[91]⟩
def rightT : ByteArray := ⟨#[93]⟩
def untilT : ByteArray := ⟨#[85]⟩
/-- How many subs an operation has. -/
def subsM (o : Nat) : Nat := if o < 4 then 0 else if o = 5 ∨ o = 6 ∨ o = 10 ∨ o = 14 then 2 else 1
/-- The operation that a token begins. -/
def opFrom (t : ByteArray) : List Nat → Option Nat
  | [] => none
  | o :: l => if o ≠ 5 ∧ o ≠ 6 ∧ signB o = t then some o else opFrom t l
def opOf (t : ByteArray) : Option Nat := opFrom t (List.range 15)
theorem opFrom_some {t : ByteArray} : ∀ {l : List Nat} {o : Nat}, opFrom t l = some o → o ∈ l ∧ o ≠ 5 ∧ o ≠ 6 ∧ signB o = t
  | [], o, h => by cases h
  | x :: l, o, h => by
    unfold opFrom at h
    split at h
    · rename_i e; cases h; exact ⟨by simp, e⟩
    · have := opFrom_some h; exact ⟨by simp [this.1], this.2⟩
theorem opOf_some {t : ByteArray} {o : Nat} (h : opOf t = some o) : o < 15 ∧ o ≠ 5 ∧ o ≠ 6 ∧ signB o = t := by
  have := opFrom_some h
  exact ⟨List.mem_range.1 this.1, this.2⟩
theorem signB_pos {o : Nat} (h : o < 15) : 0 < (signB o).size := by
  have : o = 0 ∨ o = 1 ∨ o = 2 ∨ o = 3 ∨ o = 4 ∨ o = 5 ∨ o = 6 ∨ o = 7 ∨ o = 8 ∨ o = 9 ∨ o = 10 ∨ o = 11 ∨ o = 12 ∨ o = 13 ∨ o = 14 := by omega
  rcases this with rfl | rfl | rfl | rfl | rfl | rfl | rfl | rfl | rfl | rfl | rfl | rfl | rfl | rfl | rfl <;> decide
def valN (s : ByteArray) : Nat → Nat → Nat → Nat
  | 0, _, a => a
  | m + 1, k, a => valN s m (k + 1) (a * 10 + (bAt s k - 48).toNat)
/-- The number that digits write. -/
def valB (s : ByteArray) : Nat := valN s s.size 0 0
def digitsB (s : ByteArray) : Prop := ∀ k, k < s.size → digitM (bAt s k) = true
theorem valN_snoc {s : ByteArray} : ∀ (m k a : Nat), valN s (m + 1) k a = valN s m k a * 10 + (bAt s (k + m) - 48).toNat
  | 0, k, a => by simp [valN]
  | m + 1, k, a => by
    rw [valN, valN_snoc m (k + 1), valN, show k + 1 + m = k + (m + 1) by omega]
theorem valN_lt {s : ByteArray} (hd : digitsB s) : ∀ (m : Nat), m ≤ s.size → valN s m 0 0 < 10 ^ m
  | 0, _ => by simp [valN]
  | m + 1, h => by
    have h1 := valN_lt hd m (by omega)
    have h2 := digit_in (hd m (by omega))
    rw [valN_snoc, Nat.zero_add, Nat.pow_succ]
    omega
open Classical in
/-- The number that a token is. -/
noncomputable def numM (t : ByteArray) : Option Nat := if 0 < t.size ∧ t.size ≤ 4 ∧ digitsB t ∧ ¬(bAt t 0 = 48 ∧ 1 < t.size) then some (valB t) else none
theorem numM_some {t : ByteArray} {v : Nat} (h : numM t = some v) : 0 < t.size ∧ v < 10000 := by
  unfold numM at h
  split at h
  · rename_i e
    cases h
    refine ⟨e.1, ?_⟩
    have := valN_lt e.2.2.1 t.size (Nat.le_refl _)
    have h4 : (10 : Nat) ^ t.size ≤ 10 ^ 4 := Nat.pow_le_pow_right (by omega) e.2.1
    unfold valB
    omega
  · cases h
/-- What joins formulas at a rank. -/
def bopM (rank : Nat) : Nat := if rank = 2 then 5 else 6
theorem bopM_or (rank : Nat) : bopM rank = 5 ∨ bopM rank = 6 := by unfold bopM; split <;> simp
/-- How reading ends. -/
inductive ParR where
  | ok (x : NodeM) (k : Nat)
  | err (k : Nat)
section
variable (s : ByteArray)
mutual
/-- Reading of at least a rank. -/
noncomputable def readF : Nat → Nat → Nat → Option ParR
  | 0, _, _ => none
  | m + 1, rank, k =>
    if 3 ≤ rank then singF m k
    else match readF m (rank + 1) k with
      | some (.ok x k') => loopF m rank x k'
      | r => r
noncomputable def loopF : Nat → Nat → NodeM → Nat → Option ParR
  | 0, _, _, _ => none
  | m + 1, rank, x, k =>
    if tokB s k = signB (bopM rank) then
      match readF m (rank + 1) (nxtM s k) with
      | some (.ok y k') => loopF m rank (.mk (bopM rank) 0 0 [x, y]) k'
      | r => r
    else some (.ok x k)
noncomputable def singF : Nat → Nat → Option ParR
  | 0, _ => none
  | m + 1, k =>
    if tokB s k = openT then
      match readF m 1 (nxtM s k) with
      | some (.ok x k') => if tokB s k' = closeT then some (.ok x (nxtM s k')) else some (.err k')
      | r => r
    else match opOf (tokB s k) with
      | none => some (.err k)
      | some o =>
        if subsM o = 2 then
          if tokB s (nxtM s k) = leftT then
            match readF m 1 (nxtM s (nxtM s k)) with
            | some (.ok a k1) =>
              if tokB s k1 = untilT then
                match readF m 1 (nxtM s k1) with
                | some (.ok b k2) => if tokB s k2 = rightT then some (.ok (.mk o 0 0 [a, b]) (nxtM s k2)) else some (.err k2)
                | r => r
              else some (.err k1)
            | r => r
          else some (.err (nxtM s k))
        else if subsM o = 1 then
          match singF m (nxtM s k) with
          | some (.ok x k') => some (.ok (.mk o 0 0 [x]) k')
          | r => r
        else if o = 0 then some (.ok (.mk 0 0 0 []) (nxtM s k))
        else match numM (tokB s (nxtM s k)) with
          | none => some (.err (nxtM s k))
          | some a =>
            if o = 3 then
              match numM (tokB s (nxtM s (nxtM s k))) with
              | none => some (.err (nxtM s (nxtM s k)))
              | some b => some (.ok (.mk 3 (a : Nat) (b : Nat) []) (nxtM s (nxtM s (nxtM s k))))
            else some (.ok (.mk o (a : Nat) 0 []) (nxtM s (nxtM s k)))
end
end
mutual
/-- Is a formula valid for so many states, inputs and outputs? -/
def validM (st inp out : Int) : NodeM → Bool
  | .mk op a b subs => decide (op < 15) && (decide (subs.length = subsM op) && (decide (0 ≤ a) && (decide (0 ≤ b) && (decide (a < if op = 1 then st else if op = 2 ∨ op = 3 then inp else 1) && (decide (b < if op = 3 then out else 1) && validL st inp out subs)))))
def validL (st inp out : Int) : List NodeM → Bool
  | [] => true
  | x :: l => validM st inp out x && validL st inp out l
end
/-- What was read is valid, and no longer than its text. -/
def ReadGood (s : ByteArray) (k : Nat) (x : NodeM) (k' : Nat) : Prop := k < k' ∧ k' ≤ s.size ∧ sizeN x + k ≤ k' ∧ validM 10000 10000 10000 x = true
theorem read_good {s : ByteArray} : ∀ (m : Nat), (∀ rank k x k', k ≤ s.size → readF s m rank k = some (.ok x k') → ReadGood s k x k') ∧ (∀ rank x0 k0 k x k', ReadGood s k0 x0 k → loopF s m rank x0 k = some (.ok x k') → ReadGood s k0 x k') ∧
    (∀ k x k', k ≤ s.size → singF s m k = some (.ok x k') → ReadGood s k x k')
  | 0 => ⟨fun _ _ _ _ _ h => (by rw [readF] at h; cases h), fun _ _ _ _ _ _ _ h => (by rw [loopF] at h; cases h), fun _ _ _ _ h => (by rw [singF] at h; cases h)⟩
  | m + 1 => by
    obtain ⟨i1, i2, i3⟩ := read_good (s := s) m
    refine ⟨fun rank k x k' hk h => ?_, fun rank x0 k0 k x k' hg h => ?_, fun k x k' hk h => ?_⟩
    · rw [readF] at h
      split at h
      · exact i3 _ _ _ hk h
      · split at h
        · rename_i x1 k1 e
          exact i2 _ _ _ _ _ _ (i1 _ _ _ _ hk e) h
        · rename_i hno; exact absurd h (hno x k')
    · obtain ⟨g1, g2, g3, g4⟩ := hg
      rw [loopF] at h
      split at h
      · rename_i e0
        have n0 := tok_full g2 e0 (signB_pos (by have := bopM_or rank; omega))
        have n1 := nxtM_lt n0
        have n2 := nxtM_le g2
        split at h
        · rename_i y k1 e
          obtain ⟨h1, h2, h3, h4⟩ := i1 _ _ _ _ n2 e
          refine i2 _ _ _ _ _ _ ⟨by omega, h2, by simp only [sizeN, sizeL]; omega, ?_⟩ h
          rcases bopM_or rank with e | e <;> simp [validM, validL, subsM, e, g4, h4]
        · rename_i hno; exact absurd h (hno x k')
      · cases h; exact ⟨g1, g2, g3, g4⟩
    · rw [singF] at h
      split at h
      · rename_i e0
        have n0 := tok_full hk e0 (by decide)
        have n1 := nxtM_lt n0
        have n2 := nxtM_le hk
        split at h
        · rename_i x1 k1 e
          obtain ⟨h1, h2, h3, h4⟩ := i1 _ _ _ _ n2 e
          split at h
          · rename_i e1
            have n3 := nxtM_lt (tok_full h2 e1 (by decide))
            have n4 := nxtM_le h2
            cases h
            exact ⟨by omega, n4, by omega, h4⟩
          · cases h
        · rename_i hno; exact absurd h (hno x k')
      · split at h
        · cases h
        · rename_i o e0
          obtain ⟨ho, ho5, ho6, hsg⟩ := opOf_some e0
          have n0 := tok_full hk hsg.symm (signB_pos ho)
          have n1 := nxtM_lt n0
          have n2 := nxtM_le hk
          split at h
          · rename_i hs2
            split at h
            · rename_i e1
              have m1 := nxtM_lt (tok_full n2 e1 (by decide))
              have m2 := nxtM_le n2
              split at h
              · rename_i a k1 e2
                obtain ⟨h1, h2, h3, h4⟩ := i1 _ _ _ _ m2 e2
                split at h
                · rename_i e3
                  have p1 := nxtM_lt (tok_full h2 e3 (by decide))
                  have p2 := nxtM_le h2
                  split at h
                  · rename_i b k2 e4
                    obtain ⟨j1, j2, j3, j4⟩ := i1 _ _ _ _ p2 e4
                    split at h
                    · rename_i e5
                      have q1 := nxtM_lt (tok_full j2 e5 (by decide))
                      have q2 := nxtM_le j2
                      cases h
                      refine ⟨by omega, q2, by simp only [sizeN, sizeL]; omega, ?_⟩
                      have : o = 10 ∨ o = 14 := by unfold subsM at hs2; split at hs2; omega; split at hs2 <;> omega
                      rcases this with rfl | rfl <;> simp [validM, validL, subsM, h4, j4]
                    · cases h
                  · rename_i hno; exact absurd h (hno x k')
                · cases h
              · rename_i hno; exact absurd h (hno x k')
            · cases h
          · split at h
            · rename_i hs1
              split at h
              · rename_i x1 k1 e
                obtain ⟨h1, h2, h3, h4⟩ := i3 _ _ _ n2 e
                cases h
                refine ⟨by omega, h2, by simp only [sizeN, sizeL]; omega, ?_⟩
                have : o = 4 ∨ o = 7 ∨ o = 8 ∨ o = 9 ∨ o = 11 ∨ o = 12 ∨ o = 13 := by unfold subsM at hs1; split at hs1; omega; split at hs1 <;> omega
                rcases this with rfl | rfl | rfl | rfl | rfl | rfl | rfl <;> simp [validM, validL, subsM, h4]
              · rename_i hno; exact absurd h (hno x k')
            · rename_i hs2 hs1
              have ho4 : o < 4 := by
                apply Classical.byContradiction
                intro h4
                unfold subsM at hs1 hs2
                rw [if_neg h4] at hs1 hs2
                split at hs1
                · rename_i e; rw [if_pos e] at hs2; exact hs2 rfl
                · exact hs1 rfl
              split at h
              · cases h
                exact ⟨n1, n2, by simp only [sizeN, sizeL]; omega, by decide⟩
              · rename_i ho0
                split at h
                · cases h
                · rename_i a ea
                  obtain ⟨a1, a2⟩ := numM_some ea
                  have m1 := nxtM_lt (tok_full n2 rfl a1)
                  have m2 := nxtM_le n2
                  split at h
                  · split at h
                    · cases h
                    · rename_i b eb
                      obtain ⟨b1, b2⟩ := numM_some eb
                      have p1 := nxtM_lt (tok_full m2 rfl b1)
                      have p2 := nxtM_le m2
                      cases h
                      refine ⟨by omega, p2, by simp only [sizeN, sizeL]; omega, ?_⟩
                      simp [validM, validL, subsM]
                      omega
                  · rename_i ho3
                    cases h
                    refine ⟨by omega, m2, by simp only [sizeN, sizeL]; omega, ?_⟩
                    have : o = 1 ∨ o = 2 := by omega
                    rcases this with rfl | rfl <;> (simp [validM, validL, subsM]; omega)
end Go.Ai
end

section
namespace Go.Ai
set_option maxRecDepth 10000
def valL (acc : Nat) : List UInt8 → Nat
  | [] => acc
  | c :: r => valL (acc * 10 + (c.toNat - 48)) r
theorem valL_le : ∀ (l : List UInt8) (acc : Nat), acc ≤ valL acc l
  | [], acc => Nat.le_refl _
  | c :: r, acc => by
    have := valL_le r (acc * 10 + (c.toNat - 48))
    unfold valL
    omega
theorem valL_snoc : ∀ (l : List UInt8) (acc : Nat) (d : UInt8), valL acc (l ++ [d]) = valL acc l * 10 + (d.toNat - 48)
  | [], acc, d => rfl
  | c :: r, acc, d => valL_snoc r (acc * 10 + (c.toNat - 48)) d
theorem parse10_eq : ∀ (l : List UInt8) (acc : Nat), (∀ c ∈ l, 48 ≤ c.toNat ∧ c.toNat ≤ 57) → acc < 18446744073709551616 → Lib.parseUint10 acc l = if valL acc l < 18446744073709551616 then .ok (valL acc l) else .range
  | [], acc, _, h => by unfold Lib.parseUint10 valL; rw [if_pos h]
  | c :: r, acc, hc, h => by
    have h1 := hc c (by simp)
    have h2 := valL_le r (acc * 10 + (c.toNat - 48))
    unfold Lib.parseUint10
    rw [if_pos h1]
    show _ = if valL (acc * 10 + (c.toNat - 48)) r < _ then _ else _
    by_cases h3 : 1844674407370955162 ≤ acc
    · rw [if_pos h3, if_neg (by omega)]
    · rw [if_neg h3]
      by_cases h4 : 18446744073709551616 ≤ acc * 10 + (c.toNat - 48)
      · rw [if_pos h4, if_neg (by omega)]
      · rw [if_neg h4, parse10_eq r _ (fun d hd => hc d (by simp [hd])) (by omega)]
        rfl
theorem tl_len (s : ByteArray) : s.data.toList.length = s.size := by simp
theorem bAt_list {s : ByteArray} {k : Nat} (h : k < s.size) : bAt s k = ((s.data.toList[k]'(by simpa using h)).toNat : Nat) := by
  unfold bAt
  rw [dif_pos h]
  simp
  rfl
theorem drop_at {l : List UInt8} {k : Nat} (h : k < l.length) : l.drop k = l[k] :: l.drop (k + 1) := List.drop_eq_getElem_cons h
theorem valN_list {s : ByteArray} (m : Nat) : ∀ (k acc : Nat), k + m = s.size → valN s m k acc = valL acc (s.data.toList.drop k) := by
  induction m with
  | zero =>
    intro k acc h
    rw [List.drop_eq_nil_of_le (by simp; omega)]
    rfl
  | succ m ih =>
    intro k acc h
    have hk : k < s.size := by omega
    have hl : k < s.data.toList.length := by simpa using hk
    have e2 : (bAt s k - 48).toNat = (s.data.toList[k]).toNat - 48 := by
      rw [bAt_list hk]
      omega
    have e1 : valN s (m + 1) k acc = valN s m (k + 1) (acc * 10 + (bAt s k - 48).toNat) := by rw [valN]
    rw [e1, ih (k + 1) _ (by omega), e2, drop_at hl]
    rfl
theorem digits_list {s : ByteArray} (hd : digitsB s) : ∀ c ∈ s.data.toList, 48 ≤ c.toNat ∧ c.toNat ≤ 57 := by
  intro c hc
  obtain ⟨k, hk, rfl⟩ := List.mem_iff_getElem.1 hc
  have hk' : k < s.size := by simpa using hk
  have := digit_in (hd k hk')
  rw [bAt_list hk'] at this
  omega
theorem list_digits {s : ByteArray} (hd : ∀ c ∈ s.data.toList, 48 ≤ c.toNat ∧ c.toNat ≤ 57) : digitsB s := by
  intro k hk
  have := hd _ (List.getElem_mem (l := s.data.toList) (n := k) (by simpa using hk))
  rw [bAt_list hk]
  unfold digitM
  rw [decide_eq_true]
  omega
theorem valB_list (s : ByteArray) : valB s = valL 0 s.data.toList := by
  have := valN_list (s := s) s.size 0 0 (by omega)
  rw [List.drop_zero] at this
  exact this
/-- A row of digits that begins with no nought, or is but one. -/
def Plain (l : List UInt8) : Prop := l ≠ [] ∧ (∀ c ∈ l, 48 ≤ c.toNat ∧ c.toNat ≤ 57) ∧ (∀ c r, l = c :: r → r ≠ [] → c.toNat ≠ 48)
theorem valL_pos : ∀ (l : List UInt8) (c : UInt8), 48 < c.toNat → 1 ≤ valL 0 (c :: l) := by
  intro l c h
  have := valL_le l (0 * 10 + (c.toNat - 48))
  show 1 ≤ valL (0 * 10 + (c.toNat - 48)) l
  omega
theorem dec_plain : ∀ (n : Nat) (l : List UInt8), l.length ≤ n → Plain l → Lib.decDigits (valL 0 l) = l
  | 0, l, h, hp => absurd (List.length_eq_zero_iff.1 (by omega)) hp.1
  | n + 1, l, h, hp => by
    obtain ⟨init, d, rfl⟩ : ∃ i d, l = i ++ [d] := ⟨l.dropLast, l.getLast hp.1, (List.dropLast_concat_getLast hp.1).symm⟩
    have hd := hp.2.1 d (by simp)
    have h8 : UInt8.ofNat (48 + (d.toNat - 48)) = d := by
      rw [show 48 + (d.toNat - 48) = d.toNat by omega]
      exact UInt8.ofNat_toNat
    rw [valL_snoc]
    cases hi : init with
    | nil =>
      show Lib.decDigits (0 * 10 + (d.toNat - 48)) = [d]
      rw [Lib.decDigits, dif_pos (by omega), Nat.zero_mul, Nat.zero_add, h8]
    | cons c r =>
      have hc := hp.2.1 c (by simp [hi])
      have hc0 := hp.2.2 c (r ++ [d]) (by simp [hi]) (by simp)
      have h1 := valL_pos r c (by omega)
      rw [← hi] at h1 ⊢
      have ih := dec_plain n init (by simp at h; omega) ⟨by simp [hi], fun x hx => hp.2.1 x (by simp [hx]), fun x y e hy => hp.2.2 x (y ++ [d]) (by rw [e]; rfl) (by simp)⟩
      rw [Lib.decDigits, dif_neg (by omega)]
      rw [show (valL 0 init * 10 + (d.toNat - 48)) / 10 = valL 0 init by omega, show (valL 0 init * 10 + (d.toNat - 48)) % 10 = d.toNat - 48 by omega, ih, h8]
theorem ofNat_dig {u : Nat} (h : u < 10) : (UInt8.ofNat (48 + u)).toNat = 48 + u := by
  rw [UInt8.toNat_ofNat']
  omega
theorem plain_dec : ∀ (n u : Nat), u ≤ n → Plain (Lib.decDigits u) ∧ (1 ≤ u → ∀ c r, Lib.decDigits u = c :: r → c.toNat ≠ 48) ∧ ∀ k, u < 10 ^ (k + 1) → (Lib.decDigits u).length ≤ k + 1
  | n, u, hn => by
    by_cases h : u < 10
    · rw [Lib.decDigits, dif_pos h]
      have e := ofNat_dig h
      refine ⟨⟨by simp, fun c hc => ?_, fun c r hr hne => ?_⟩, fun h1 c r hr => ?_, fun k _ => by simp⟩
      · have : c = UInt8.ofNat (48 + u) := by simpa using hc
        rw [this, e]; omega
      · cases hr; exact absurd rfl hne
      · cases hr; rw [e]; omega
    · obtain ⟨n', rfl⟩ : ∃ n', n = n' + 1 := ⟨n - 1, by omega⟩
      obtain ⟨⟨p1, p2, p3⟩, p4, p5⟩ := plain_dec n' (u / 10) (by omega)
      have e := ofNat_dig (u := u % 10) (by omega)
      have hne0 := p4 (by omega)
      rw [Lib.decDigits, dif_neg h]
      refine ⟨⟨by simp, fun c hc => ?_, fun c r hr _ => ?_⟩, fun _ c r hr => ?_, fun k hk => ?_⟩
      · rcases List.mem_append.1 hc with hc | hc
        · exact p2 c hc
        · have : c = UInt8.ofNat (48 + u % 10) := by simpa using hc
          rw [this, e]; omega
      · cases hq : Lib.decDigits (u / 10) with
        | nil => exact absurd hq p1
        | cons x y => rw [hq] at hr; cases hr; exact hne0 _ _ hq
      · cases hq : Lib.decDigits (u / 10) with
        | nil => exact absurd hq p1
        | cons x y => rw [hq] at hr; cases hr; exact hne0 _ _ hq
      · cases k with
        | zero => simp at hk; omega
        | succ k =>
          have := p5 k (by rw [Nat.pow_succ] at hk; omega)
          simp; omega
theorem atoiAll_digits {s : ByteArray} (h0 : 0 < s.size) (hd : digitsB s) : Lib.atoiAll s.data.toList = if valB s ≤ 9223372036854775807 then .ok (valB s : Nat) else .range := by
  have hl := digits_list hd
  have hv := valB_list s
  cases hs : s.data.toList with
  | nil =>
    exfalso
    have := tl_len s
    rw [hs] at this
    simp only [List.length_nil] at this
    omega
  | cons c r =>
    rw [hs] at hl hv
    have hc := hl c (by simp)
    rw [hv]
    unfold Lib.atoiAll Lib.parseMag
    dsimp only
    rw [if_neg (show ¬(c.toNat = 43 ∨ c.toNat = 45) by omega), if_neg (by simp), parse10_eq _ 0 hl (by omega)]
    by_cases h1 : valL 0 (c :: r) < 18446744073709551616
    · rw [if_pos h1]
      dsimp only
      by_cases h2 : 9223372036854775808 ≤ valL 0 (c :: r)
      · rw [if_pos ⟨by omega, h2⟩, if_neg (by omega)]
      · rw [if_neg (fun h => h2 h.2), if_neg (fun h => by omega), if_neg (by omega), if_pos (by omega)]
    · rw [if_neg h1, if_neg (by omega)]
theorem numM_yes {t : ByteArray} {a : Nat} (h : numM t = some a) : Lib.atoiAll t.data.toList = .ok (a : Int) ∧ Lib.itoa (a : Int) = t.data.toList ∧ a < 10000 := by
  have hs := numM_some h
  unfold numM at h
  split at h
  · rename_i e
    obtain ⟨e1, e2, e3, e4⟩ := e
    have ha : valB t = a := by cases h; rfl
    have hp : Plain t.data.toList := by
      refine ⟨fun e => ?_, digits_list e3, fun c r hr hne h48 => ?_⟩
      · have := tl_len t
        rw [e] at this
        simp only [List.length_nil] at this
        omega
      · have hsz := tl_len t
        refine e4 ⟨?_, ?_⟩
        · rw [bAt_list e1]
          simp only [hr, List.getElem_cons_zero, h48]
          rfl
        · rw [← hsz, hr]
          have : 0 < r.length := List.length_pos_iff.2 hne
          simp; omega
    refine ⟨?_, ?_, hs.2⟩
    · rw [atoiAll_digits e1 e3, if_pos (by omega), ha]
    · unfold Lib.itoa
      rw [if_neg (by omega), Int.toNat_natCast, ← ha, valB_list]
      exact dec_plain _ _ (Nat.le_refl _) hp
  · cases h
theorem numM_no {t : ByteArray} (h : numM t = none) (ht : bAt t 0 = 45 → t.size ≤ 1) {v : Int} (hv : v < 10000) : Lib.itoa v ≠ t.data.toList := by
  intro e
  have hsz := tl_len t
  unfold Lib.itoa at e
  by_cases h0 : v < 0
  · rw [if_pos h0] at e
    obtain ⟨⟨p1, _⟩, _⟩ := plain_dec _ v.natAbs (Nat.le_refl _)
    have h1 : 0 < t.size := by rw [← hsz, ← e]; simp
    have h2 : bAt t 0 = 45 := by
      rw [bAt_list h1]
      simp only [← e, List.getElem_cons_zero]
      rfl
    have h3 := ht h2
    rw [← hsz, ← e] at h3
    have := List.length_pos_iff.2 p1
    rw [List.length_cons] at h3
    omega
  · rw [if_neg h0] at e
    obtain ⟨⟨p1, p2, p3⟩, p4, p5⟩ := plain_dec _ v.toNat (Nat.le_refl _)
    have h4 := p5 3 (by omega)
    rw [e] at p1 p2 p3 h4
    have h1 : 0 < t.size := by rw [← hsz]; exact List.length_pos_iff.2 p1
    have hno : ¬(bAt t 0 = 48 ∧ 1 < t.size) := by
      rintro ⟨h5, h6⟩
      cases hq : t.data.toList with
      | nil => exact p1 hq
      | cons c r =>
        rw [bAt_list h1] at h5
        simp only [hq, List.getElem_cons_zero] at h5
        refine p3 c r hq (fun er => ?_) (by omega)
        rw [hq, er] at hsz
        simp only [List.length_cons, List.length_nil] at hsz
        omega
    have h7 : numM t = some (valB t) := by unfold numM; exact if_pos ⟨h1, by omega, list_digits p2, hno⟩
    rw [h7] at h
    cases h
end Go.Ai
end

section
namespace Go.Ai
set_option maxRecDepth 10000
/-- A number, written. -/
def decB (n : Nat) : ByteArray := ⟨(Lib.decDigits n).toArray⟩
def digB (n : Nat) : ByteArray := ⟨#[(48 + n).toUInt8]⟩
theorem dec_lo {n : Nat} (h : n < 10) : decB n = digB n := by
  unfold decB digB
  rw [Lib.decDigits, dif_pos h]
theorem dec_hi {n : Nat} (h : 9 < n) : decB n = decB (n / 10) ++ digB (n % 10) := by
  unfold decB digB
  rw [Lib.decDigits, dif_neg (by omega)]
  apply ByteArray.ext
  simp
theorem dec_size (n k : Nat) (h : n < 10 ^ (k + 1)) : (decB n).size ≤ k + 1 := by
  have := (plain_dec n n (Nat.le_refl _)).2.2 k h
  unfold decB
  show (Lib.decDigits n).toArray.size ≤ _
  simpa using this
def rankM (op : Nat) : Int := if op = 6 then 1 else if op = 5 then 2 else if subsM op = 1 then 3 else 4
def parM (s : ByteArray) (r least : Int) : ByteArray := if r < least then ⟨#[40]⟩ ++ s ++ ⟨#[41]⟩ else s
def joinM (op : Nat) (a b : Int) : List (ByteArray × Int) → ByteArray
  | [] => if op = 0 then signB op else if op = 3 then signB op ++ ⟨#[32]⟩ ++ decB a.toNat ++ ⟨#[32]⟩ ++ decB b.toNat else signB op ++ ⟨#[32]⟩ ++ decB a.toNat
  | [x] => signB op ++ ⟨#[32]⟩ ++ parM x.1 x.2 3
  | x :: y :: _ => if op = 10 ∨ op = 14 then signB op ++ ⟨#[91]⟩ ++ x.1 ++ ⟨#[32, 85, 32]⟩ ++ y.1 ++ ⟨#[93]⟩ else parM x.1 x.2 (rankM op) ++ ⟨#[32]⟩ ++ signB op ++ ⟨#[32]⟩ ++ parM y.1 y.2 (rankM op + 1)
mutual
/-- A formula, written. -/
def textM : NodeM → ByteArray
  | .mk op a b subs => joinM op a b (textL subs)
def textL : List NodeM → List (ByteArray × Int)
  | [] => []
  | x :: l => (textM x, rankM x.op) :: textL l
end
theorem par_size (s : ByteArray) (r l : Int) : (parM s r l).size ≤ s.size + 2 := by
  unfold parM
  split
  · rw [ba_size_append, ba_size_append]
    show 1 + s.size + 1 ≤ _
    omega
  · omega
theorem sign_size (op : Nat) : (signB op).size ≤ 5 := by
  by_cases h : op < 15
  · have : op = 0 ∨ op = 1 ∨ op = 2 ∨ op = 3 ∨ op = 4 ∨ op = 5 ∨ op = 6 ∨ op = 7 ∨ op = 8 ∨ op = 9 ∨ op = 10 ∨ op = 11 ∨ op = 12 ∨ op = 13 ∨ op = 14 := by omega
    rcases this with rfl | rfl | rfl | rfl | rfl | rfl | rfl | rfl | rfl | rfl | rfl | rfl | rfl | rfl | rfl <;> decide
  · unfold signB
    rw [List.getD_eq_getElem?_getD, List.getElem?_eq_none (by show 15 ≤ op; omega)]
    decide
mutual
theorem text_size : ∀ (x : NodeM), validM 10000 10000 10000 x = true → (textM x).size ≤ 32 * sizeN x
  | .mk op a b subs, h => by
    simp only [validM, Bool.and_eq_true, decide_eq_true_eq] at h
    obtain ⟨h1, h2, h3, h4, h5, h6, h7⟩ := h
    have hs := textL_size subs h7
    have hg := sign_size op
    have hda := dec_size a.toNat 3 (by split at h5 <;> (try split at h5) <;> omega)
    have hdb := dec_size b.toNat 3 (by split at h6 <;> omega)
    unfold textM sizeN
    have e1 : (⟨#[32]⟩ : ByteArray).size = 1 := rfl
    have e2 : (⟨#[91]⟩ : ByteArray).size = 1 := rfl
    have e3 : (⟨#[93]⟩ : ByteArray).size = 1 := rfl
    have e4 : (⟨#[32, 85, 32]⟩ : ByteArray).size = 3 := rfl
    match subs, hs with
    | [], _ =>
      simp only [textL, joinM, sizeL]
      split
      · omega
      · split
        · simp only [ba_size_append]; omega
        · simp only [ba_size_append]; omega
    | [x], hs =>
      simp only [textL, joinM, sizeL, List.map_cons, List.map_nil, List.sum_cons, List.sum_nil, ba_size_append] at hs ⊢
      have := par_size (textM x) (rankM x.op) 3
      omega
    | x :: y :: l, hs =>
      simp only [textL, List.map_cons, List.sum_cons, sizeL] at hs ⊢
      simp only [joinM]
      split
      · simp only [ba_size_append]; omega
      · have p1 := par_size (textM x) (rankM x.op) (rankM op)
        have p2 := par_size (textM y) (rankM y.op) (rankM op + 1)
        simp only [ba_size_append]; omega
theorem textL_size : ∀ (l : List NodeM), validL 10000 10000 10000 l = true → ((textL l).map (·.1.size)).sum ≤ 32 * sizeL l
  | [], _ => by simp [textL, sizeL]
  | x :: l, h => by
    simp only [validL, Bool.and_eq_true] at h
    have h1 := text_size x h.1
    have h2 := textL_size l h.2
    simp only [textL, List.map_cons, List.sum_cons, sizeL]
    omega
end
end Go.Ai
end

section
namespace Go.Ai
open Go.RowKit (Below)

variable {B G : Nat} {P : Program} {n n0 : Nat} {ρ0 ρ : Rn} {w0 w : World} {a : Act} {ops : Array Oper} {o : Oper} {callf : CallF} {fr : Fr} {g : Nat → Option AV} {ds : List Dfr} {H : Mem} {d : Tmp} {v : AV}

def und : Dg → Nat
  | .d0 => 0 | .d1 => 1 | .d2 => 2 | .d3 => 3 | .d4 => 4 | .d5 => 5 | .d6 => 6 | .d7 => 7
  | .d8 => 8 | .d9 => 9 | .d10 => 10 | .d11 => 11 | .d12 => 12 | .d13 => 13 | .d14 => 14 | .d15 => 15
theorem und_dig : ∀ n, n < 16 → und (dig n) = n := by decide
theorem dig_inj {m k : Nat} (hm : m < 16) (hk : k < 16) (h : dig m = dig k) : m = k := by
  have := congrArg und h
  rwa [und_dig _ hm, und_dig _ hk] at this
theorem path2 {j k : Nat} (hj : j < 256) (hk : k < 256) (h0 : d0 k = d0 j) (h1 : d1 k = d1 j) : k = j := by
  have e0 : k % 16 = j % 16 := dig_inj (Nat.mod_lt _ (by omega)) (Nat.mod_lt _ (by omega)) h0
  have e1 : k / 16 % 16 = j / 16 % 16 := dig_inj (Nat.mod_lt _ (by omega)) (Nat.mod_lt _ (by omega)) h1
  omega
theorem path3 {j k : Nat} (hj : j < 4096) (hk : k < 4096) (h0 : d0 k = d0 j) (h1 : d1 k = d1 j) (h2 : d2 k = d2 j) : k = j := by
  have e0 : k % 16 = j % 16 := dig_inj (Nat.mod_lt _ (by omega)) (Nat.mod_lt _ (by omega)) h0
  have e1 : k / 16 % 16 = j / 16 % 16 := dig_inj (Nat.mod_lt _ (by omega)) (Nat.mod_lt _ (by omega)) h1
  have e2 : k / 256 % 16 = j / 256 % 16 := dig_inj (Nat.mod_lt _ (by omega)) (Nat.mod_lt _ (by omega)) h2
  omega
theorem leaf_same {α : Type} (k : Nat) (x : α) : leaf k (.v k x) = some x := by simp [leaf]
theorem get2_ne {α : Type} (t : T2 α) {k j : Nat} (x : Lf α) (hk : k < 256) (hj : j < 256) (hne : j ≠ k) : get2 (u2 t k x) j = get2 t j := by
  unfold get2 u2
  rcases Dg.em (d0 k) (d0 j) with h0 | h0
  · rw [h0, gN_same]
    rcases Dg.em (d1 k) (d1 j) with h1 | h1
    · exact absurd (path2 hk hj h0 h1) hne
    · rw [gN_ne _ _ _ _ h1]
  · rw [gN_ne _ _ _ _ h0]
theorem get3_ne {α : Type} (t : T3 α) {k j : Nat} (x : Lf α) (hk : k < 4096) (hj : j < 4096) (hne : j ≠ k) : get3 (u3 t k x) j = get3 t j := by
  unfold get3 u3
  rcases Dg.em (d0 k) (d0 j) with h0 | h0
  · rw [h0, gN_same]
    rcases Dg.em (d1 k) (d1 j) with h1 | h1
    · rw [h1, gN_same]
      rcases Dg.em (d2 k) (d2 j) with h2 | h2
      · exact absurd (path3 hk hj h0 h1 h2) hne
      · rw [gN_ne _ _ _ _ h2]
    · rw [gN_ne _ _ _ _ h1]
  · rw [gN_ne _ _ _ _ h0]

/-- So many slots are kept apart. -/
noncomputable def roomOf (fr : Fr) : Nat := Fr.rec (motive := fun _ => Nat) (fun _ _ => 256) (fun _ _ => 4096) (fun _ _ => 0) fr
theorem room_upd (fr : Fr) (d : Tmp) (v : AV) : roomOf (fr.upd d v) = roomOf fr := by
  cases fr <;> simp [Fr.upd, Fr.set, fpS, fpG, fpF, put2_eq, put3_eq, roomOf]
theorem room_put (fr : Fr) (d : Option Tmp) (v : AV) : roomOf (fr.put d v) = roomOf fr := by
  cases d with
  | none => rfl
  | some d => exact room_upd fr d v
theorem room_defer (fr : Fr) (x : Dfr) : roomOf (fr.defer x) = roomOf fr := by cases fr <;> rfl
theorem get_upd_same (fr : Fr) (d : Tmp) (v : AV) : (fr.upd d v).get d = some v := by
  cases fr with
  | s t ds => simp [Fr.upd, Fr.set, fpS, put2_eq, Fr.get, fgS]; unfold get2; rw [at2_same]; exact leaf_same _ _
  | g t ds => simp [Fr.upd, Fr.set, fpG, put3_eq, Fr.get, fgG]; unfold get3; rw [at3_same]; exact leaf_same _ _
  | f g ds => exact if_pos rfl
theorem get_upd_ne (fr : Fr) {d k : Tmp} (v : AV) (hd : d < roomOf fr) (hk : k < roomOf fr) (h : k ≠ d) : (fr.upd d v).get k = fr.get k := by
  cases fr with
  | s t ds => simp [Fr.upd, Fr.set, fpS, put2_eq, Fr.get, fgS]; exact get2_ne _ _ hd hk h
  | g t ds => simp [Fr.upd, Fr.set, fpG, put3_eq, Fr.get, fgG]; exact get3_ne _ _ hd hk h
  | f g ds => exact if_neg h

/-- A frame and a frame as a function. -/
structure FE (fr : Fr) (g : Nat → Option AV) (ds : List Dfr) : Prop where
  lo : ∀ k, k < roomOf fr → fr.get k = g k
  up : ∀ k v, fr.get k = some v → g k = some v
  dfr : fr.defers = ds
theorem FE.refl (fr : Fr) : FE fr fr.get fr.defers := ⟨fun _ _ => rfl, fun _ _ h => h, rfl⟩
theorem FE.upd (h : FE fr g ds) (hd : d < roomOf fr) (v : AV) : FE (fr.upd d v) (fput g d v) ds := by
  refine ⟨fun k hk => ?_, fun k y hy => ?_, (Fr.defers_upd fr d v).trans h.dfr⟩
  · rw [room_upd] at hk
    unfold fput
    by_cases e : k = d
    · subst e; rw [if_pos rfl]; exact get_upd_same fr k v
    · rw [if_neg e, get_upd_ne fr v hd hk e]; exact h.lo k hk
  · unfold fput
    rcases Fr.get_upd hy with ⟨rfl, rfl⟩ | ⟨hne, hy⟩
    · exact if_pos rfl
    · rw [if_neg hne]; exact h.up k y hy
def putG (g : Nat → Option AV) (d : Option Tmp) (v : AV) : Nat → Option AV := match d with | some d => fput g d v | none => g
theorem put_f (g : Nat → Option AV) (ds : List Dfr) (d : Option Tmp) (v : AV) : (Fr.f g ds).put d v = .f (putG g d v) ds := by cases d <;> rfl
theorem FE.put (h : FE fr g ds) {d : Option Tmp} (hd : ∀ t, d = some t → t < roomOf fr) (v : AV) : FE (fr.put d v) (putG g d v) ds := by
  cases d with
  | none => exact h
  | some d => exact h.upd (hd d rfl) v
theorem FE.defer (h : FE fr g ds) (x : Dfr) : FE (fr.defer x) g (x :: ds) :=
  ⟨fun k hk => by rw [room_defer] at hk; rw [Fr.get_defer]; exact h.lo k hk, fun k v hv => by rw [Fr.get_defer] at hv; exact h.up k v hv, by rw [Fr.defers_defer, h.dfr]⟩
theorem St.toF (s : St B G n n0 ρ0 w0 ρ fr H a w) : St B G n n0 ρ0 w0 ρ (.f fr.get fr.defers) H a w := ⟨s.ext, s.sim, ⟨s.frel.slot, s.frel.dfr, s.frel.size, s.frel.only⟩, s.le⟩
theorem St.ofF (h : FE fr g ds) (s : St B G n n0 ρ0 w0 ρ (.f g ds) H a w) : St B G n n0 ρ0 w0 ρ fr H a w :=
  ⟨s.ext, s.sim, ⟨fun t v hv hn => s.frel.slot t v (h.up t v hv) hn, by rw [h.dfr]; exact s.frel.dfr, s.frel.size, fun t v hv => s.frel.only t v (h.up t v hv)⟩, s.le⟩

def noSel (o : Oper) : Bool := match o.op with | .select _ _ => false | _ => true
theorem noSel_spec (h : noSel o = true) : ∀ cs b, o.op ≠ .select cs b := by
  intro cs b e; unfold noSel at h; rw [e] at h; cases h
/-- Its slots are kept apart. -/
def roomy (m : Nat) (o : Oper) : Bool := dstOk m o && (tmpsOf o).all (fun t => Nat.blt t m) && noSel o
theorem FE.op (h : FE fr g ds) (hr : roomy (roomOf fr) o = true) : opV P H fr.ev o = opV P H (Fr.f g ds).ev o := by
  unfold roomy at hr
  simp only [Bool.and_eq_true] at hr
  refine opV_evs (noSel_spec hr.2) fun x hx => ?_
  cases x with
  | tmp t =>
    have := List.all_eq_true.1 hr.1.2 t (mem_tmps hx)
    exact h.lo t (Nat.le_of_ble_eq_true this)
  | const v => rfl
  | global g => rfl
  | func f => rfl
theorem roomy_dst {m : Nat} (hr : roomy m o = true) : ∀ t, o.dst = some t → t < m := by
  intro t ht
  unfold roomy dstOk at hr
  rw [ht] at hr
  simp only [Bool.and_eq_true] at hr
  exact Nat.le_of_ble_eq_true hr.1.1

/-- Calls by a run. -/
def wOf (callf : CallF) : WF := fun f args H K => match callf f args H with
  | .bad => False
  | r => K r
theorem wOf_ok (hc : ∀ B, CallOK B G P callf) : WOK G P (wOf callf) := by
  intro f args H K h
  refine orW_sound (O := callf) hc ?_
  unfold wOf at h; unfold orW
  cases hr : callf f args H <;> rw [hr] at h <;> first | exact h.elim | exact h
theorem wOf_mono : WMono (wOf callf) := by
  intro f args H K K' hk h
  unfold wOf at h ⊢
  cases hr : callf f args H <;> rw [hr] at h <;> first | exact h.elim | exact hk _ h

/-- What one operation is told to do, it does. -/
theorem one_W {k : Fr → Mem → Out} {kk : Fr → Mem → Prop} {Q : Out → Prop} {r : Out} (he : FE fr g ds) (hr : roomy (roomOf fr) o = true) (hall : ops.toList.all (roomy (roomOf fr)) = true) (h : oneOp P callf ops o fr H k = r) (hne : r ≠ .bad)
    (hk : ∀ fr1 g1 ds1 H1, FE fr1 g1 ds1 → roomOf fr1 = roomOf fr → k fr1 H1 = r → kk (.f g1 ds1) H1)
    (hp : ∀ v fr1 H1, FE fr1 g ds → r = .panic v fr1 H1 → Q (.panic v (.f g ds) H1)) : oneW P (wOf callf) ops o (.f g ds) H kk Q := by
  have hput : ∀ (v : AV) (H1 : Mem), (fr.putK o.dst v fun fr => k fr H1) = r → kk ((Fr.f g ds).put o.dst v) H1 := by
    intro v H1 h1
    rw [Fr.putK_eq] at h1
    rw [put_f]
    exact hk _ _ _ _ (he.put (roomy_dst hr) v) (room_put fr o.dst v) h1
  have haft : after callf o fr k (opV P H fr.ev o) = r → afterW (wOf callf) o (.f g ds) kk Q (opV P H (Fr.f g ds).ev o) := by
    rw [← he.op hr]
    generalize opV P H fr.ev o = x
    intro h1
    cases x with
    | val v H1 => exact hput v H1 h1
    | skip H1 => exact hput _ H1 h1
    | enter f args H1 =>
      have h2 : (match callf f args H1 with | .ret v H => fr.putK o.dst v fun fr => k fr H | .panic v H => .panic v fr H | .bad => .bad) = r := h1
      show wOf callf f args H1 _
      unfold wOf
      cases hc : callf f args H1 with
      | ret v H2 => rw [hc] at h2; exact hput v H2 h2
      | panic v H2 => rw [hc] at h2; exact hp v fr H2 he h2.symm
      | bad => rw [hc] at h2; exact absurd h2.symm hne
    | dfr fn cap args H1 =>
      have h2 : ((fr.defer (fn, cap, args)).putK o.dst (.lit undef) fun fr => k fr H1) = r := h1
      rw [Fr.putK_eq] at h2
      show kk ((Fr.f g ((fn, cap, args) :: ds)).put o.dst (.lit undef)) H1
      rw [put_f]
      exact hk _ _ _ _ ((he.defer _).put (by rw [room_defer]; exact roomy_dst hr) _) ((room_put _ _ _).trans (room_defer _ _)) h2
    | panic v H1 => exact hp v fr H1 he h1.symm
    | _ => exact absurd h1.symm hne
  unfold oneW
  unfold oneOp at h
  cases hg : o.guard with
  | none => rw [hg] at h; exact haft h
  | some gd =>
    rw [hg] at h
    have h2 : guarded P callf ops o fr H k gd = r := h
    unfold guarded at h2
    have hs : guardSlot ops fr gd.1 = guardSlot ops (.f g ds) gd.1 := by
      unfold guardSlot
      split
      · rename_i p hp'
        have hm := List.all_eq_true.1 hall p (List.mem_of_getElem? (toList_at.2 hp'))
        split
        · rename_i d hd; exact he.lo d (roomy_dst hm d hd)
        · rfl
      · rfl
    show byGuard (guardSlot ops (.f g ds) gd.1) gd.2 _ _
    rw [← hs]
    have hw : ∀ x, wantedG ops fr gd = some x → (x = true → (∃ b, guardSlot ops fr gd.1 = some (.lit (.bool b)) ∧ b = gd.2)) ∧
        (x = false → (∃ b, guardSlot ops fr gd.1 = some (.lit (.bool b)) ∧ b = !gd.2) ∨ ∃ y, guardSlot ops fr gd.1 = some (.lit (.tuple y))) := by
      intro x hx
      unfold wantedG yieldedA at hx
      unfold guardSlot
      generalize gd.2 = want at hx ⊢
      cases hp : ops[gd.1]? with
      | none => simp [hp] at hx
      | some p =>
        cases hd : p.dst with
        | none => simp [hp, hd] at hx
        | some d =>
          simp only [hp, hd] at hx ⊢
          revert hx
          generalize fr.get d = z
          intro hx
          by_cases hb : ∃ b, z = some (.lit (.bool b))
          · obtain ⟨b, rfl⟩ := hb
            cases b <;> cases want <;> first
              | (obtain rfl : x = true := (Option.some.inj hx).symm; clear hx; simp)
              | (obtain rfl : x = false := (Option.some.inj hx).symm; clear hx; simp)
          · split at hx
            · rename_i b hz
              exfalso
              split at hz
              · rename_i b'; exact hb ⟨_, rfl⟩
              · cases hz
            · split at hx
              · rename_i vs
                cases hx
                exact ⟨fun e => (by cases e), fun _ => .inr ⟨_, rfl⟩⟩
              · cases hx
    split at h2
    · rename_i hx
      obtain ⟨b, hb, rfl⟩ := (hw _ hx).1 rfl
      rw [hb]
      exact ⟨fun _ => haft h2, fun e => by cases hgd : gd.2 <;> simp [hgd] at e⟩
    · rename_i hx
      rcases (hw _ hx).2 rfl with ⟨b, hb, e⟩ | ⟨y, hy⟩
      · rw [hb]
        subst e
        exact ⟨fun e => by cases hgd : gd.2 <;> simp [hgd] at e, fun _ => hput _ _ h2⟩
      · rw [hy]; exact hput _ _ h2
    · exact absurd h2.symm hne
end Go.Ai
end

section
namespace Go.Ai
open Go.RowKit (Below)

variable {B G : Nat} {P : Program} {n n0 : Nat} {ρ0 ρ : Rn} {w0 w : World} {a : Act} {ops : Array Oper} {callf : CallF} {loopf : LoopF} {fr : Fr} {g : Nat → Option AV} {ds : List Dfr} {H : Mem}

inductive FI where
  | run (o : Oper)
  | mk (i : Nat) (o : Oper)
  | gate (hs as : List Nat)
  | no
def itF (ops : Array Oper) (it : It) : FI := match it with
  | .run i => match ops[i]? with | some o => .run o | none => .no
  | .mk i => match ops[i]? with | some o => .mk i o | none => .no
  | .gate hs as => .gate hs as
/-- Equal, or both nothing. -/
def eqU (x y : AV) : Bool := match x, y with
  | .lit (.tuple a), .lit (.tuple b) => Nat.beq a.size 0 && Nat.beq b.size 0
  | x, y => eqAV x y
theorem eqU_sound {x y : AV} (h : eqU x y = true) : x = y := by
  unfold eqU at h
  split at h
  · rename_i a b
    simp only [Bool.and_eq_true] at h
    have h1 := Nat.eq_of_beq_eq_true h.1
    have h2 := Nat.eq_of_beq_eq_true h.2
    rw [Array.eq_empty_of_size_eq_zero h1, Array.eq_empty_of_size_eq_zero h2]
  · exact eqAV_sound _ _ h
noncomputable def againC (P : Program) (callf : CallF) (ops : Array Oper) (fr : Fr) (H : Mem) : List Nat → Bool
  | [] => true
  | i :: l => match ops[i]? with
    | some o => match oneOp P callf ops o fr H (fun fr' H' => .norm fr' H') with
      | .norm fr' _ => match slotOf fr' o.dst, slotOf fr o.dst with
        | some x, some y => match eqU x y with | true => againC P callf ops fr H l | false => false
        | _, _ => false
      | _ => false
    | none => false
def elemN (i : Nat) : List Nat → Bool
  | [] => false
  | j :: l => match Nat.beq i j with | true => true | false => elemN i l
theorem elemN_mem {i : Nat} : ∀ {l : List Nat}, i ∈ l → elemN i l = true
  | j :: l, h => by
    unfold elemN
    split
    · rfl
    · rename_i hb
      rcases List.mem_cons.1 h with rfl | h
      · simp at hb
      · exact elemN_mem h
noncomputable def keptC (H : Mem) (as : List Nat) : AlP → Bool
  | [] => true
  | (i, a, b) :: l => match elemN i as with
    | true => match H.get a, b with
      | some x, some y => match eqBlk x y with | true => keptC H as l | false => false
      | _, _ => false
    | false => keptC H as l
abbrev FlF := Program → CallF → Array Oper → Fr → Mem → AlP → Out
noncomputable def flN : FlF := fun _ _ _ fr H _ => .norm fr H
noncomputable def flRun (o : Oper) : FlF → FlF := fun ih P callf ops fr H als => oneOp P callf ops o fr H fun fr H => ih P callf ops fr H als
noncomputable def flMk (i : Nat) (o : Oper) : FlF → FlF := fun ih P callf ops fr H als => oneOp P callf ops o fr H fun fr H' => ih P callf ops fr H' ((i, H.next, H'.get H.next) :: als)
noncomputable def flGate (hs as : List Nat) : FlF → FlF := fun ih P callf ops fr H als => match againC P callf ops fr H hs, keptC H as als with
  | true, true => ih P callf ops fr H als
  | _, _ => .bad
noncomputable def flNo : FlF → FlF := fun _ _ _ _ _ _ _ => .bad
noncomputable def flC (it : It) (_ : List It) (ih : FlF) : FlF := fun P callf ops fr H als => FI.rec (motive := fun _ => FlF → FlF) flRun flMk flGate flNo (itF ops it) ih P callf ops fr H als
noncomputable def flatRun (P : Program) (callf : CallF) (ops : Array Oper) (l : List It) (fr : Fr) (H : Mem) (als : AlP) : Out := List.rec (motive := fun _ => FlF) flN flC l P callf ops fr H als

/-- What is said of a region's end. -/
def OE (r out : Out) : Prop := match r, out with
  | .norm fr H, .norm fr' H' => H' = H ∧ ∃ g ds, fr' = .f g ds ∧ FE fr g ds
  | .panic v fr H, .panic v' fr' H' => v' = v ∧ H' = H ∧ fr' = fr.clear
  | _, _ => False
theorem clear_eq (fr : Fr) : fr.clear = .s e2 fr.defers := by cases fr <;> rfl

theorem again_W (he : FE fr g ds) (hall : ops.toList.all (roomy (roomOf fr)) = true) : ∀ {l : List Nat}, againC P callf ops fr H l = true → againW P (wOf callf) ops (.f g ds) H l
  | [], _ => trivial
  | i :: l, h => by
    unfold againC at h
    unfold againW
    split at h
    · rename_i o ho
      have hm := List.all_eq_true.1 hall o (List.mem_of_getElem? (toList_at.2 ho))
      split at h
      · rename_i fr2 H2 hr
        split at h
        · rename_i x y hx hy
          split at h
          · rename_i hxy
            have hxy' := eqU_sound hxy
            subst hxy'
            refine ⟨?_, again_W he hall h⟩
            rw [ho]
            dsimp only
            refine one_W he hm hall hr (by simp) (fun fr1 g1 ds1 H1 he1 _ h1 => ?_) (fun v fr1 H1 _ h1 => by cases h1)
            cases h1
            have key : ∀ {fr : Fr} {g : Nat → Option AV} {ds : List Dfr}, FE fr g ds → ∀ {x}, slotOf fr o.dst = some x → slotOf (.f g ds) o.dst = some x := by
              intro fr g ds he x hx
              unfold slotOf at hx ⊢
              split at hx
              · exact he.up _ _ hx
              · cases hx
            rw [key he1 hx, key he hy]
          · cases h
        · cases h
      · cases h
    · cases h
theorem kept_W {as : List Nat} : ∀ {als : AlP}, keptC H as als = true → keptW H as als
  | [], _ => trivial
  | (i, a, b) :: l, h => by
    unfold keptC at h
    unfold keptW
    split at h
    · split at h
      · rename_i x y hx
        split at h
        · rename_i he
          exact ⟨fun _ => hx.trans (congrArg some (eqBlk_sound he)), kept_W h⟩
        · cases h
      · cases h
    · rename_i he
      exact ⟨fun hi => (by rw [elemN_mem hi] at he; cases he), kept_W h⟩

theorem flat_W : ∀ (l : List It) {fr : Fr} {g : Nat → Option AV} {ds : List Dfr} {H : Mem} {als : AlP} {r : Out}, FE fr g ds → ops.toList.all (roomy (roomOf fr)) = true → flatRun P callf ops l fr H als = r → r ≠ .bad →
    planW P (wOf callf) ops (clearQ (OE r)) l (.f g ds) H als
  | [], fr, g, ds, H, als, r, he, hall, h, hne => by
    have h' : Out.norm fr H = r := h
    subst h'
    exact ⟨rfl, g, ds, rfl, he⟩
  | it :: l, fr, g, ds, H, als, r, he, hall, h, hne => by
    have h' : FI.rec (motive := fun _ => FlF → FlF) flRun flMk flGate flNo (itF ops it) (fun P callf ops fr H als => flatRun P callf ops l fr H als) P callf ops fr H als = r := h
    have hp : ∀ v fr1 H1, FE fr1 g ds → r = .panic v fr1 H1 → clearQ (OE r) (.panic v (.f g ds) H1) := by
      rintro v fr1 H1 he1 rfl
      refine ⟨rfl, rfl, ?_⟩
      rw [clear_eq, clear_eq, he1.dfr]; rfl
    cases it with
    | run i =>
      unfold planW
      cases ho : ops[i]? with
      | none =>
        rw [show itF ops (.run i) = .no by simp only [itF, ho]] at h'
        exact absurd h'.symm hne
      | some o =>
        rw [show itF ops (.run i) = .run o by simp only [itF, ho]] at h'
        dsimp only
        have hm := List.all_eq_true.1 hall o (List.mem_of_getElem? (toList_at.2 ho))
        exact one_W he hm hall h' hne (fun fr1 g1 ds1 H1 he1 hr1 h1 => flat_W l he1 (by rw [hr1]; exact hall) h1 hne) hp
    | mk i =>
      unfold planW
      cases ho : ops[i]? with
      | none =>
        rw [show itF ops (.mk i) = .no by simp only [itF, ho]] at h'
        exact absurd h'.symm hne
      | some o =>
        rw [show itF ops (.mk i) = .mk i o by simp only [itF, ho]] at h'
        dsimp only
        have hm := List.all_eq_true.1 hall o (List.mem_of_getElem? (toList_at.2 ho))
        exact one_W he hm hall h' hne (fun fr1 g1 ds1 H1 he1 hr1 h1 => flat_W l he1 (by rw [hr1]; exact hall) h1 hne) hp
    | gate hs as =>
      have h2 : (match againC P callf ops fr H hs, keptC H as als with | true, true => flatRun P callf ops l fr H als | _, _ => .bad) = r := h'
      unfold planW
      split at h2
      · rename_i h3 h4
        exact ⟨again_W he hall h3, kept_W h4, flat_W l he hall h2 hne⟩
      · exact absurd h2.symm hne

/-- Behind a region. -/
noncomputable def clearO (r : Out) : Out := match r with
  | .panic v fr H => .panic v fr.clear H
  | .norm fr H => .norm fr H
  | _ => .bad
noncomputable def drawnF (P : Program) (callf : CallF) (ops : Array Oper) (fr : Fr) (H : Mem) : Out := match flatOk P ops.toList, ops.toList.all (roomy (roomOf fr)) with
  | true, true => clearO (flatRun P callf ops (planOf ops.toList) fr H [])
  | _, _ => .bad
theorem drawnF_sound (hc : ∀ B, CallOK B G P callf) (hG : G = P.globals.size) {id : Nat} (s : St B G n n0 ρ0 w0 ρ fr H a w) (hd : dstsOk n (.region id ops true) = true) (hne : drawnF P callf ops fr H ≠ .bad) :
    (Code.region id ops true).wp P (OutPost B G n n0 ρ0 w0 (drawnF P callf ops fr H)) a w := by
  unfold drawnF at hne ⊢
  split at hne
  · rename_i hok hall
    generalize hr : flatRun P callf ops (planOf ops.toList) fr H [] = r at hne ⊢
    have hr0 : r ≠ .bad := fun e => hne (by rw [e]; rfl)
    have key := drawnW_sound (wOf_ok hc) (id := id) hG s.toF hd (planW_drawn wOf_mono hok (flat_W _ (FE.refl fr) hall hr hr0))
    refine Code.wp_mono ?_ key
    rintro e a' w' ⟨out, hq, ho⟩
    cases r with
    | norm fr1 H1 =>
      cases out with
      | norm fr2 H2 =>
        obtain ⟨rfl, g, ds, rfl, he⟩ := hq
        cases e with
        | normal => obtain ⟨ρ', s'⟩ := ho; exact ⟨ρ', St.ofF he s'⟩
        | _ => exact ho.elim
      | _ => exact hq.elim
    | panic v fr1 H1 =>
      cases out with
      | panic v2 fr2 H2 =>
        obtain ⟨rfl, rfl, rfl⟩ := hq
        exact ho
      | _ => exact hq.elim
    | exit => cases out <;> exact hq.elim
    | ret => cases out <;> exact hq.elim
    | bad => exact absurd rfl hr0
  · exact absurd rfl hne

/- Codes. -/
noncomputable def xRegionF (_ : Nat) (ops : Array Oper) (draw : Bool) : XF := fun P callf _ fr H => match draw with
  | false => seqOps P callf ops ops.toList fr H
  | true => drawnF P callf ops fr H
noncomputable def execCF : Code → XF := Code.rec (motive := fun _ => XF) xSkip xRegionF xSeq xCond xBlock xLoop xRangeFunc xExit xScope xLabel xGoto xRet xRefuse
noncomputable def execF (P : Program) (callf : CallF) (loopf : LoopF) (c : Code) (fr : Fr) (H : Mem) : Out := execCF c P callf loopf fr H

/-- A code is told truly. -/
def GoodF (B G : Nat) (P : Program) (callf : CallF) (loopf : LoopF) (c : Code) : Prop :=
  ∀ (n n0 : Nat) (ρ0 : Rn) (w0 : World) (ρ : Rn) (fr : Fr) (H : Mem) (a : Act) (w : World), dstsOk n c = true → St B G n n0 ρ0 w0 ρ fr H a w → execF P callf loopf c fr H ≠ .bad →
    c.wp P (OutPost B G n n0 ρ0 w0 (execF P callf loopf c fr H)) a w
theorem good_loopF {callf : CallF} {loopf : LoopF} {b : Code} (hl : LoopOK B G P loopf) (hb : GoodF B G P callf loopf b) (n n0 : Nat) (ρ0 : Rn) (w0 : World) (ρ : Rn) (fr : Fr) (H : Mem) (a : Act) (w : World)
    (hd : dstsOk n b = true) (s : St B G n n0 ρ0 w0 ρ fr H a w) (hne : execF P callf loopf (.loop b) fr H ≠ .bad) : LW P b (OutPost B G n n0 ρ0 w0 (execF P callf loopf (.loop b) fr H)) a w := by
  have he : execF P callf loopf (.loop b) fr H = thenO (execF P callf loopf b fr H) (loopf (.loop b)) := rfl
  rw [he] at hne ⊢
  have hr : execF P callf loopf b fr H ≠ .bad := fun h => hne (by rw [h]; rfl)
  refine LW.unroll (Code.wp_mono (thenO_post hne fun fr' H' ρ' a' w' hr' s' hk => ?_) (hb n n0 ρ0 w0 ρ fr H a w hd s hr))
  rw [hr']
  exact hl b n n0 ρ0 w0 ρ' fr' H' a' w' hd s' hk

theorem execF_sound {callf : CallF} {loopf : LoopF} (hcs : ∀ B, CallOK B G P callf) (hl : LoopOK B G P loopf) (hG : G = P.globals.size) : ∀ c : Code, GoodF B G P callf loopf c := by
  intro c
  have hc := hcs B
  induction c with
  | skip => intro n n0 ρ0 w0 ρ fr H a w hd s hne; exact wp_skip ⟨ρ, s⟩
  | region id ops draw =>
    intro n n0 ρ0 w0 ρ fr H a w hd s hne
    cases draw with
    | false =>
      refine wp_region_list (seqOps_sound hc hG hne ops.toList fr H ρ a w ?_ s rfl)
      exact fun o ho => List.all_eq_true.1 hd o ho
    | true => exact drawnF_sound hcs hG s hd hne
  | seq x y ihx ihy =>
    intro n n0 ρ0 w0 ρ fr H a w hd s hne
    have he : execF P callf loopf (.seq x y) fr H = thenO (execF P callf loopf x fr H) (execF P callf loopf y) := rfl
    rw [he] at hne ⊢
    simp only [dstsOk, Bool.and_eq_true] at hd
    have hr : execF P callf loopf x fr H ≠ .bad := fun h => hne (by rw [h]; rfl)
    refine wp_seq (Code.wp_mono (thenO_post hne fun fr' H' ρ' a' w' hr' s' hk => ?_) (ihx n n0 ρ0 w0 ρ fr H a w hd.1 s hr))
    rw [hr']
    exact ihy n n0 ρ0 w0 ρ' fr' H' a' w' hd.2 s' hk
  | cond cnd x y ihx ihy =>
    intro n n0 ρ0 w0 ρ fr H a w hd s hne
    have he : execF P callf loopf (.cond cnd x y) fr H = condO (fr.ev cnd) (execF P callf loopf x) (execF P callf loopf y) fr H := rfl
    rw [he] at hne ⊢
    simp only [dstsOk, Bool.and_eq_true] at hd
    unfold condO at hne ⊢
    split at hne
    · rename_i hev
      have := s.ev _ _ hev
      exact wp_cond_true this (ihx n n0 ρ0 w0 ρ fr H a w hd.1 s hne)
    · rename_i hev
      have := s.ev _ _ hev
      exact wp_cond_false this (ihy n n0 ρ0 w0 ρ fr H a w hd.2 s hne)
    · exact absurd rfl hne
  | block id b ih =>
    intro n n0 ρ0 w0 ρ fr H a w hd s hne
    have he : execF P callf loopf (.block id b) fr H = blockO id (execF P callf loopf b fr H) := rfl
    rw [he] at hne ⊢
    have hr : execF P callf loopf b fr H ≠ .bad := fun h => hne (by rw [h]; rfl)
    refine wp_block (Code.wp_mono ?_ (ih n n0 ρ0 w0 ρ fr H a w hd s hr))
    intro e a' w' h
    generalize execF P callf loopf b fr H = r at h hne ⊢
    cases r with
    | norm fr' H' => cases e <;> first | exact h.elim | exact h
    | exit id' fr' H' =>
      cases e with
      | exit id2 =>
        obtain ⟨rfl, ρ', s'⟩ := h
        unfold blockO
        dsimp only
        split
        · rename_i hb
          have := Nat.eq_of_beq_eq_true hb
          subst this
          simp only [Exit.inBlock, if_true]
          exact ⟨ρ', s'⟩
        · rename_i hb
          have hne2 : id2 ≠ id := by intro h0; subst h0; simp at hb
          simp only [Exit.inBlock, hne2, if_false]
          exact ⟨rfl, ρ', s'⟩
      | _ => exact h.elim
    | ret fr' H' => cases e <;> first | exact h.elim | exact h
    | panic v fr' H' => cases e <;> first | exact h.elim | exact h
    | bad => exact absurd rfl hne
  | loop b ih =>
    intro n n0 ρ0 w0 ρ fr H a w hd s hne
    exact (good_loopF hl ih n n0 ρ0 w0 ρ fr H a w hd s hne).wp
  | rangeFunc f ps x y ihx ihy => intro n n0 ρ0 w0 ρ fr H a w hd s hne; exact absurd rfl hne
  | exit id => intro n n0 ρ0 w0 ρ fr H a w hd s hne; exact wp_exit ⟨rfl, ρ, s⟩
  | scope b ih => intro n n0 ρ0 w0 ρ fr H a w hd s hne; exact absurd rfl hne
  | label l => intro n n0 ρ0 w0 ρ fr H a w hd s hne; exact wp_label ⟨ρ, s⟩
  | goto l => intro n n0 ρ0 w0 ρ fr H a w hd s hne; exact absurd rfl hne
  | ret => intro n n0 ρ0 w0 ρ fr H a w hd s hne; exact wp_ret ⟨ρ, s⟩
  | refuse why => intro n n0 ρ0 w0 ρ fr H a w hd s hne; exact absurd rfl hne


noncomputable def enterQB (P : Program) (callf : CallF) (loopf : LoopF) (fn : Func) (c : Code) (args : List AV) (H : Mem) : COut :=
  match dstsOk fn.ntmps c, Nat.ble (len args) fn.ntmps with
  | true, true => finish P callf loopf fn (putArgsK args (frame0 fn.ntmps) fun fr => execF P callf loopf c fr H)
  | _, _ => .bad

noncomputable def enterQ (P : Program) (callf : CallF) (loopf : LoopF) (f : FuncId) (args : List AV) (H : Mem) : COut :=
  match P.funcs[f]? with
  | some fn => match fn.body with
    | some c => enterQB P callf loopf fn c args H
    | none => .bad
  | none => .bad

theorem enterQ_sound {callf : CallF} {loopf : LoopF} (hcs : ∀ B, CallOK B G P callf) (hl : LoopOK B G P loopf) (hG : G = P.globals.size) : CallOK B G P (enterQ P callf loopf) := by
  have hc := hcs B
  intro f args H hne ρ us w hs hv
  unfold enterQ at hne ⊢
  split at hne
  · rename_i fn hfn
    split at hne
    · rename_i c hb
      unfold enterQB at hne ⊢
      split at hne
      · rename_i hdst hlen
        rw [putArgsK_eq] at hne ⊢
        have hfe := frame_entered (n := fn.ntmps) hv (by rw [← len_eq]; exact Nat.le_of_ble_eq_true hlen)
        have s1 : St B G fn.ntmps H.next ρ w ρ (putArgs args (frame0 fn.ntmps) 0) H { tmps := us ++ Array.replicate (fn.ntmps - us.size) undef, defers := [] } w := ⟨Ext.refl _ _ _ _, hs, hfe, Nat.le_refl _⟩
        have hr : execF P callf loopf c (putArgs args (frame0 fn.ntmps) 0) H ≠ .bad := fun h0 => hne (by rw [h0]; rfl)
        have key := execF_sound hcs hl hG c fn.ntmps H.next ρ w ρ _ H _ w hdst s1 hr
        refine calls_of_wp_defers hfn hb (Code.wp_mono ?_ key)
        intro e a' w' h
        generalize execF P callf loopf c (putArgs args (frame0 fn.ntmps) 0) H = r at h hne ⊢
        cases r with
        | norm fr' H' =>
          cases e with
          | normal => obtain ⟨ρ', s'⟩ := h; exact leave_sound hc hl hG hne _ _ .returning H' ρ' .returning w' s'.frel.dfr s' rfl rfl
          | _ => exact h.elim
        | ret fr' H' =>
          cases e with
          | ret => obtain ⟨ρ', s'⟩ := h; exact leave_sound hc hl hG hne _ _ .returning H' ρ' .returning w' s'.frel.dfr s' rfl rfl
          | _ => exact h.elim
        | panic v fr' H' =>
          cases e with
          | panic chain => obtain ⟨ρ', x, rfl, hx, s'⟩ := h; exact leave_sound hc hl hG hne _ _ (.panicking v) H' ρ' _ w' s'.frel.dfr s' ⟨x, rfl, hx⟩ rfl
          | _ => exact h.elim
        | exit id fr' H' => exact absurd rfl hne
        | bad => exact absurd rfl hne
      · exact absurd rfl hne
    · exact absurd rfl hne
  · exact absurd rfl hne


noncomputable def bothF (P : Program) (O : CallF) (n : Nat) : CallF × LoopF :=
  Nat.rec (motive := fun _ => CallF × LoopF) (fun _ _ _ => .bad, fun _ _ _ => .bad) (fun _ ih => (orC O (enterQ P ih.1 ih.2), execF P ih.1 ih.2)) n
/-- A closed run with oracles, each region in one order. -/
noncomputable def callF (P : Program) (O : CallF) (n : Nat) : CallF := (bothF P O n).1
theorem bothF_sound {O : CallF} (hO : ∀ B, CallOK B G P O) (hG : G = P.globals.size) : ∀ n, (∀ B, CallOK B G P (bothF P O n).1) ∧ ∀ B, LoopOK B G P (bothF P O n).2
  | 0 => ⟨fun B f args H hne => absurd rfl hne, fun B b n n0 ρ0 w0 ρ fr H a w hd s hne => absurd rfl hne⟩
  | m + 1 => by
    obtain ⟨hc, hl⟩ := bothF_sound hO hG m
    refine ⟨fun B => orC_ok (hO B) (enterQ_sound hc (hl B) hG), fun B b n n0 ρ0 w0 ρ fr H a w hd s hne => ?_⟩
    exact good_loopF (hl B) (execF_sound hc (hl B) hG b) n n0 ρ0 w0 ρ fr H a w hd s hne
theorem callF_ok {O : CallF} (hO : ∀ B, CallOK B G P O) (hG : G = P.globals.size) (fuel : Nat) : ∀ B, CallOK B G P (callF P O fuel) := (bothF_sound hO hG fuel).1
end Go.Ai
end

section
namespace Go.Ai
set_option maxRecDepth 10000
theorem bAt_app_l {a b : ByteArray} {i : Nat} (h : i < a.size) : bAt (a ++ b) i = bAt a i := by
  unfold bAt
  have h2 : i < (a ++ b).size := by rw [ba_size_append]; omega
  rw [dif_pos h2, dif_pos h, ByteArray.getElem_append_left h]
theorem bAt_app_r {a b : ByteArray} {i : Nat} (h : i < b.size) : bAt (a ++ b) (a.size + i) = bAt b i := by
  unfold bAt
  have h2 : a.size + i < (a ++ b).size := by rw [ba_size_append]; omega
  rw [dif_pos h2, dif_pos h, ByteArray.getElem_append_right (by omega)]
  simp
theorem bAt_extract {s : ByteArray} {k m j : Nat} (h : j < m) (hm : k + m ≤ s.size) : bAt (s.extract k (k + m)) j = bAt s (k + j) := by
  have hsz : (s.extract k (k + m)).size = m := by rw [ByteArray.size_extract]; omega
  unfold bAt
  rw [dif_pos (by omega), dif_pos (by omega)]
  rw [ByteArray.getElem_extract]
/-- A text has these bytes from k on. -/
structure Has (s : ByteArray) (k : Nat) (w : ByteArray) : Prop where
  le : k + w.size ≤ s.size
  at' : ∀ i, i < w.size → bAt s (k + i) = bAt w i
theorem Has.self (s : ByteArray) : Has s 0 s := ⟨by omega, fun i _ => by rw [Nat.zero_add]⟩
theorem Has.app {s a b : ByteArray} {k : Nat} (h : Has s k (a ++ b)) : Has s k a ∧ Has s (k + a.size) b := by
  obtain ⟨h1, h2⟩ := h
  rw [ba_size_append] at h1
  refine ⟨⟨by omega, fun i hi => ?_⟩, ⟨by omega, fun i hi => ?_⟩⟩
  · rw [h2 i (by rw [ba_size_append]; omega), bAt_app_l hi]
  · rw [Nat.add_assoc, h2 _ (by rw [ba_size_append]; omega), bAt_app_r hi]
theorem ba_ext {a b : ByteArray} (h : a.size = b.size) (h2 : ∀ i, i < a.size → bAt a i = bAt b i) : a = b := by
  refine ByteArray.ext_getElem h fun i h3 h4 => ?_
  have := h2 i h3
  unfold bAt at this
  rw [dif_pos h3, dif_pos h4] at this
  exact UInt8.toNat_inj.1 (by omega)
theorem Has.ext {s w : ByteArray} {k : Nat} (h : Has s k w) : s.extract k (k + w.size) = w := by
  have hs : (s.extract k (k + w.size)).size = w.size := by rw [ByteArray.size_extract]; have := h.le; omega
  refine ba_ext hs fun i hi => ?_
  rw [bAt_extract (by omega) h.le]
  exact h.at' i (by omega)
theorem Has.byte {s w : ByteArray} {k : Nat} (h : Has s k w) (h0 : 0 < w.size) : bAt s k = bAt w 0 := by
  have := h.at' 0 h0
  rwa [Nat.add_zero] at this
/-- The text ends here, or what comes is no letter and no digit. -/
def Stop (s : ByteArray) (j : Nat) : Prop := j = s.size ∨ (j < s.size ∧ letterM (bAt s j) = false ∧ digitM (bAt s j) = false)
theorem runF_eq {F : Nat → Int → Bool} {s : ByteArray} {k L : Nat} : ∀ (m j : Nat), j ≤ L → k + L ≤ s.size → L - j ≤ m → (∀ i, j ≤ i → i < L → F i (bAt s (k + i)) = true) → (k + L = s.size ∨ F L (bAt s (k + L)) = false) → runF F s k m j = L
  | 0, j, h1, _, h3, _, _ => by unfold runF; omega
  | m + 1, j, h1, h2, h3, h4, h5 => by
    unfold runF
    by_cases h : j = L
    · subst h
      rcases h5 with h5 | h5
      · rw [if_neg (by omega)]
      · split
        · rw [if_neg (by rw [h5]; simp)]
        · rfl
    · rw [if_pos (by omega), if_pos (h4 j (Nat.le_refl _) (by omega))]
      exact runF_eq m (j + 1) (by omega) h2 (by omega) (fun i h6 h7 => h4 i (by omega) h7) h5
theorem tok_of {s w : ByteArray} {k : Nat} (h : Has s k w) (h0 : 0 < w.size) (ht : tokN s k = w.size) : tokB s k = w := by
  have := h.le
  unfold tokB
  rw [if_neg (by omega), ht, h.ext]
theorem tok_word {s w : ByteArray} {k : Nat} (h : Has s k w) (h0 : 0 < w.size) (hp : ∀ i, i < w.size → letterM (bAt w i) = true) (hs : Stop s (k + w.size)) : tokB s k = w := by
  refine tok_of h h0 ?_
  have := h.le
  unfold tokN
  rw [h.byte h0, if_pos (hp 0 h0)]
  refine runF_eq _ _ h0 h.le (by omega) (fun i _ hi => ?_) ?_
  · rw [h.at' i hi]; exact hp i hi
  · exact hs.imp id fun h => h.2.1
theorem digit_letter {c : Int} (h : digitM c = true) : ¬letterM c = true := by
  have := digit_in h
  simp only [letterM, Bool.or_eq_true, decide_eq_true_eq]
  omega
theorem tok_num {s w : ByteArray} {k : Nat} (h : Has s k w) (h0 : 0 < w.size) (hp : ∀ i, i < w.size → digitM (bAt w i) = true) (hs : Stop s (k + w.size)) : tokB s k = w := by
  refine tok_of h h0 ?_
  have := h.le
  unfold tokN
  rw [h.byte h0, if_neg (digit_letter (hp 0 h0)), if_pos (hp 0 h0)]
  refine runF_eq _ _ h0 h.le (by omega) (fun i _ hi => ?_) ?_
  · rw [h.at' i hi]; exact hp i hi
  · exact hs.imp id fun h => h.2.2
theorem tok_one {s w : ByteArray} {k : Nat} (h : Has s k w) (h0 : w.size = 1) (hl : letterM (bAt w 0) = false) (hd : digitM (bAt w 0) = false) : tokB s k = w := by
  refine tok_of h (by omega) ?_
  unfold tokN
  rw [h.byte (by omega), if_neg (by rw [hl]; simp), if_neg (by rw [hd]; simp), h0]
theorem adv_at {s w : ByteArray} {k : Nat} (h : Has s k w) (h0 : 0 < w.size ∧ bAt w 0 ≠ 32) : advM s k = k := adv_stay (.inr (by rw [h.byte h0.1]; exact h0.2))
theorem adv_blank {s w : ByteArray} {k : Nat} (h1 : Has s k ⟨#[32]⟩) (h2 : Has s (k + 1) w) (h0 : 0 < w.size ∧ bAt w 0 ≠ 32) : advM s k = k + 1 := by
  have hb : bAt s k = 32 := (h1.byte (by decide)).trans (by decide)
  have := h2.le
  rw [adv_skip (by omega) hb, adv_at h2 h0]
theorem stop_byte {s w : ByteArray} {k : Nat} (h : Has s k w) (h0 : 0 < w.size) (hl : letterM (bAt w 0) = false) (hd : digitM (bAt w 0) = false) : Stop s k := by
  have := h.le
  exact .inr ⟨by omega, by rw [h.byte h0]; exact hl, by rw [h.byte h0]; exact hd⟩
section
variable (s : ByteArray)
def RdT (r k : Nat) (x : NodeM) (k' : Nat) : Prop := ∀ m, 20 * (s.size - k) + 10 ≤ m + r → readF s m r k = some (.ok x k')
def LpT (r : Nat) (x : NodeM) (k : Nat) (y : NodeM) (k' : Nat) : Prop := ∀ m, 20 * (s.size - k) + 1 ≤ m → loopF s m r x k = some (.ok y k')
def SgT (k : Nat) (x : NodeM) (k' : Nat) : Prop := ∀ m, 20 * (s.size - k) + 6 ≤ m → singF s m k = some (.ok x k')
end
section
variable {s : ByteArray}
theorem RdT.sing {r k k' : Nat} {x : NodeM} (hr : r = 3) (h : SgT s k x k') : RdT s r k x k' := by
  subst hr
  intro m hm
  obtain ⟨m, rfl⟩ : ∃ m', m = m' + 1 := ⟨m - 1, by omega⟩
  rw [readF, if_pos (Nat.le_refl _)]
  exact h m (by omega)
theorem RdT.step {r k k1 k2 : Nat} {x y : NodeM} (hr : r < 3) (h : RdT s (r + 1) k x k1) (hk : k < k1) (hk1 : k1 ≤ s.size) (hl : LpT s r x k1 y k2) : RdT s r k y k2 := by
  intro m hm
  obtain ⟨m, rfl⟩ : ∃ m', m = m' + 1 := ⟨m - 1, by omega⟩
  rw [readF, if_neg (by omega), h m (by omega)]
  exact hl m (by omega)
theorem LpT.stop {r k : Nat} {x : NodeM} (h : tokB s k ≠ signB (bopM r)) : LpT s r x k x k := by
  intro m hm
  obtain ⟨m, rfl⟩ : ∃ m', m = m' + 1 := ⟨m - 1, by omega⟩
  rw [loopF, if_neg h]
theorem LpT.step {r k k1 k2 : Nat} {x y z : NodeM} (hr : r < 3) (h : tokB s k = signB (bopM r)) (hk : k < s.size) (hd : RdT s (r + 1) (nxtM s k) y k1) (hk1 : nxtM s k < k1) (hk2 : k1 ≤ s.size) (hl : LpT s r (.mk (bopM r) 0 0 [x, y]) k1 z k2) : LpT s r x k z k2 := by
  intro m hm
  obtain ⟨m, rfl⟩ : ∃ m', m = m' + 1 := ⟨m - 1, by omega⟩
  have := nxtM_lt hk
  rw [loopF, if_pos h, hd m (by omega)]
  exact hl m (by omega)
theorem SgT.paren {k k1 : Nat} {x : NodeM} (h : tokB s k = openT) (hk : k < s.size) (hd : RdT s 1 (nxtM s k) x k1) (hc : tokB s k1 = closeT) : SgT s k x (nxtM s k1) := by
  intro m hm
  obtain ⟨m, rfl⟩ : ∃ m', m = m' + 1 := ⟨m - 1, by omega⟩
  have := nxtM_lt hk
  rw [singF, if_pos h, hd m (by omega)]
  exact if_pos hc
theorem opOf_sign {o : Nat} (h : o < 15) (h5 : o ≠ 5) (h6 : o ≠ 6) : opOf (signB o) = some o ∧ signB o ≠ openT := by
  have : o = 0 ∨ o = 1 ∨ o = 2 ∨ o = 3 ∨ o = 4 ∨ o = 7 ∨ o = 8 ∨ o = 9 ∨ o = 10 ∨ o = 11 ∨ o = 12 ∨ o = 13 ∨ o = 14 := by omega
  rcases this with rfl | rfl | rfl | rfl | rfl | rfl | rfl | rfl | rfl | rfl | rfl | rfl | rfl <;> decide +kernel
theorem SgT.un {k k1 o : Nat} {x : NodeM} (ho : o < 15) (hs : subsM o = 1) (h : tokB s k = signB o) (hk : k < s.size) (hd : SgT s (nxtM s k) x k1) : SgT s k (.mk o 0 0 [x]) k1 := by
  intro m hm
  obtain ⟨m, rfl⟩ : ∃ m', m = m' + 1 := ⟨m - 1, by omega⟩
  have := nxtM_lt hk
  obtain ⟨e1, e2⟩ := opOf_sign ho (by rintro rfl; revert hs; decide) (by rintro rfl; revert hs; decide)
  rw [singF, h, if_neg e2, e1]
  dsimp only
  rw [if_neg (by omega), if_pos hs, hd m (by omega)]
theorem SgT.two {k k1 k2 o : Nat} {x y : NodeM} (ho : o = 10 ∨ o = 14) (h : tokB s k = signB o) (hk : k < s.size) (h1 : tokB s (nxtM s k) = leftT) (hd : RdT s 1 (nxtM s (nxtM s k)) x k1) (h2 : tokB s k1 = untilT) (hk1 : nxtM s (nxtM s k) < k1) (hk2 : k1 ≤ s.size)
    (hd2 : RdT s 1 (nxtM s k1) y k2) (h3 : tokB s k2 = rightT) : SgT s k (.mk o 0 0 [x, y]) (nxtM s k2) := by
  intro m hm
  obtain ⟨m, rfl⟩ : ∃ m', m = m' + 1 := ⟨m - 1, by omega⟩
  have n0 := nxtM_lt hk
  have n1 := nxtM_ge (nxtM_le (Nat.le_of_lt hk))
  have n2 := nxtM_ge hk2
  have n3 := nxtM_le (nxtM_le (Nat.le_of_lt hk))
  obtain ⟨e1, e2⟩ := opOf_sign (o := o) (by omega) (by omega) (by omega)
  have hs : subsM o = 2 := by rcases ho with rfl | rfl <;> rfl
  rw [singF, h, if_neg e2, e1]
  dsimp only
  rw [if_pos hs, if_pos h1, hd m (by omega)]
  dsimp only
  rw [if_pos h2, hd2 m (by omega)]
  exact if_pos h3
theorem SgT.tru {k : Nat} (h : tokB s k = signB 0) : SgT s k (.mk 0 0 0 []) (nxtM s k) := by
  intro m hm
  obtain ⟨m, rfl⟩ : ∃ m', m = m' + 1 := ⟨m - 1, by omega⟩
  rw [singF, h, if_neg (by decide), (opOf_sign (o := 0) (by omega) (by omega) (by omega)).1]
  rfl
theorem SgT.one {k a o : Nat} (ho : o = 1 ∨ o = 2) (h : tokB s k = signB o) (hn : numM (tokB s (nxtM s k)) = some a) : SgT s k (.mk o (a : Nat) 0 []) (nxtM s (nxtM s k)) := by
  intro m hm
  obtain ⟨m, rfl⟩ : ∃ m', m = m' + 1 := ⟨m - 1, by omega⟩
  obtain ⟨e1, e2⟩ := opOf_sign (o := o) (by omega) (by omega) (by omega)
  rw [singF, h, if_neg e2, e1]
  dsimp only
  rw [if_neg (by rcases ho with rfl | rfl <;> decide), if_neg (by rcases ho with rfl | rfl <;> decide), if_neg (by omega), hn]
  dsimp only
  rw [if_neg (by omega)]
theorem SgT.giv {k a b : Nat} (h : tokB s k = signB 3) (hn : numM (tokB s (nxtM s k)) = some a) (hn2 : numM (tokB s (nxtM s (nxtM s k))) = some b) : SgT s k (.mk 3 (a : Nat) (b : Nat) []) (nxtM s (nxtM s (nxtM s k))) := by
  intro m hm
  obtain ⟨m, rfl⟩ : ∃ m', m = m' + 1 := ⟨m - 1, by omega⟩
  obtain ⟨e1, e2⟩ := opOf_sign (o := 3) (by omega) (by omega) (by omega)
  rw [singF, h, if_neg e2, e1]
  dsimp only
  rw [if_neg (by decide), if_neg (by decide), if_neg (by decide), hn]
  dsimp only
  rw [if_pos rfl, hn2]
/-- How a formula is read, from k to k'. -/
structure RdOK (k : Nat) (x : NodeM) (k' r : Nat) : Prop where
  lt : k < k'
  le : k' ≤ s.size
  sg : 3 ≤ r → SgT s k x k'
  c2 : 2 ≤ r → ∀ z q, LpT s 2 x k' z q → RdT s 2 k z q
  c1 : tokB s k' ≠ signB 5 → ∀ z q, LpT s 1 x k' z q → RdT s 1 k z q
theorem RdOK.ofS {k k' : Nat} {x : NodeM} (h1 : k < k') (h2 : k' ≤ s.size) (h : SgT s k x k') (r : Nat) : RdOK (s := s) k x k' r :=
  have c2 : ∀ z q, LpT s 2 x k' z q → RdT s 2 k z q := fun z q hl => RdT.step (by omega) (RdT.sing rfl h) h1 h2 hl
  ⟨h1, h2, fun _ => h, fun _ => c2, fun hn z q hl => RdT.step (by omega) (c2 _ _ (LpT.stop (by exact hn))) h1 h2 hl⟩
/-- It reads at a rank, where nothing goes on. -/
theorem RdOK.stop1 {k k' r : Nat} {x : NodeM} (h : RdOK (s := s) k x k' r) (h5 : tokB s k' ≠ signB 5) (h6 : tokB s k' ≠ signB 6) : RdT s 1 k x k' := h.c1 h5 _ _ (LpT.stop (by exact h6))
theorem RdOK.stop2 {k k' r : Nat} {x : NodeM} (h : RdOK (s := s) k x k' r) (hr : 2 ≤ r) (h5 : tokB s k' ≠ signB 5) : RdT s 2 k x k' := h.c2 hr _ _ (LpT.stop (by exact h5))
end
end Go.Ai
end

section
namespace Go.Ai
set_option maxRecDepth 10000
theorem dec_val : ∀ (n u : Nat), u ≤ n → valL 0 (Lib.decDigits u) = u
  | n, u, hn => by
    by_cases h : u < 10
    · rw [Lib.decDigits, dif_pos h]
      show 0 * 10 + ((UInt8.ofNat (48 + u)).toNat - 48) = u
      rw [ofNat_dig h]
      omega
    · obtain ⟨n', rfl⟩ : ∃ n', n = n' + 1 := ⟨n - 1, by omega⟩
      have ih := dec_val n' (u / 10) (by omega)
      rw [Lib.decDigits, dif_neg h, valL_snoc, ih, ofNat_dig (by omega)]
      omega
theorem dec_list (n : Nat) : (decB n).data.toList = Lib.decDigits n := by unfold decB; simp
theorem dec_num {n : Nat} (h : n < 10000) : numM (decB n) = some n ∧ 0 < (decB n).size ∧ digitsB (decB n) := by
  obtain ⟨⟨p1, p2, p3⟩, p4, p5⟩ := plain_dec n n (Nat.le_refl _)
  have hl := dec_list n
  have hsz := tl_len (decB n)
  have h4 := p5 3 (by omega)
  have h1 : 0 < (decB n).size := by rw [← hsz, hl]; exact List.length_pos_iff.2 p1
  have hd : digitsB (decB n) := list_digits (by rw [hl]; exact p2)
  refine ⟨?_, h1, hd⟩
  have hno : ¬(bAt (decB n) 0 = 48 ∧ 1 < (decB n).size) := by
    rintro ⟨h5, h6⟩
    cases hq : Lib.decDigits n with
    | nil => exact p1 hq
    | cons c r =>
      rw [bAt_list h1] at h5
      simp only [hl, hq, List.getElem_cons_zero] at h5
      refine p3 c r hq (fun er => ?_) (by omega)
      rw [hl, hq, er] at hsz
      simp only [List.length_cons, List.length_nil] at hsz
      omega
  unfold numM
  rw [if_pos ⟨h1, by rw [← hsz, hl]; exact h4, hd, hno⟩, valB_list, hl, dec_val _ _ (Nat.le_refl _)]
def rkN (op : Nat) : Nat := if op = 6 then 1 else if op = 5 then 2 else if subsM op = 1 then 3 else 4
theorem rank_rk (op : Nat) : rankM op = (rkN op : Nat) := by
  unfold rankM rkN
  by_cases h1 : op = 6
  · simp [h1]
  · by_cases h2 : op = 5
    · simp [h2]
    · by_cases h3 : subsM op = 1
      · simp [h1, h2, h3]
      · simp [h1, h2, h3]
theorem rk_pos (op : Nat) : 1 ≤ rkN op ∧ rkN op ≤ 4 := by
  unfold rkN
  by_cases h1 : op = 6
  · rw [if_pos h1]; omega
  · rw [if_neg h1]
    by_cases h2 : op = 5
    · rw [if_pos h2]; omega
    · rw [if_neg h2]
      by_cases h3 : subsM op = 1
      · rw [if_pos h3]; omega
      · rw [if_neg h3]; omega
def NBl (w : ByteArray) : Prop := 0 < w.size ∧ bAt w 0 ≠ 32
theorem NBl.app {a b : ByteArray} (h : NBl a) : NBl (a ++ b) := ⟨by rw [ba_size_append]; have := h.1; omega, by rw [bAt_app_l h.1]; exact h.2⟩
theorem op_cases {o : Nat} (h : o < 15) : o = 0 ∨ o = 1 ∨ o = 2 ∨ o = 3 ∨ o = 4 ∨ o = 5 ∨ o = 6 ∨ o = 7 ∨ o = 8 ∨ o = 9 ∨ o = 10 ∨ o = 11 ∨ o = 12 ∨ o = 13 ∨ o = 14 := by omega
theorem sign_letters {o : Nat} (h : o < 15) : ∀ i, i < (signB o).size → letterM (bAt (signB o) i) = true := by
  rcases op_cases h with rfl | rfl | rfl | rfl | rfl | rfl | rfl | rfl | rfl | rfl | rfl | rfl | rfl | rfl | rfl <;> decide +kernel
theorem sign_nb {o : Nat} (h : o < 15) : NBl (signB o) := by
  rcases op_cases h with rfl | rfl | rfl | rfl | rfl | rfl | rfl | rfl | rfl | rfl | rfl | rfl | rfl | rfl | rfl <;> exact ⟨by decide, by decide⟩
theorem par_nb {t : ByteArray} {r l : Int} (h : NBl t) : NBl (parM t r l) := by
  unfold parM
  split
  · exact NBl.app (NBl.app ⟨by decide, by decide⟩)
  · exact h
theorem text_nb : ∀ (m : Nat) (x : NodeM), sizeN x ≤ m → validM 10000 10000 10000 x = true → NBl (textM x)
  | 0, x, h, _ => by have := size_pos x; omega
  | m + 1, .mk op a b subs, h, hv => by
    simp only [validM, Bool.and_eq_true, decide_eq_true_eq] at hv
    obtain ⟨h1, h2, h3, h4, h5, h6, h7⟩ := hv
    have hs := sign_nb h1
    unfold textM
    match subs, h, h7 with
    | [], _, _ =>
      simp only [textL, joinM]
      split
      · exact hs
      · split
        · exact (((hs.app).app).app).app
        · exact (hs.app).app
    | [x], _, _ =>
      simp only [textL, joinM]
      exact (hs.app).app
    | x :: y :: l, h, h7 =>
      simp only [textL, joinM]
      simp only [validL, Bool.and_eq_true] at h7
      unfold sizeN sizeL at h
      have := text_nb m x (by omega) h7.1
      split
      · exact ((((hs.app).app).app).app).app
      · exact ((((par_nb this).app).app).app).app
section
variable {s : ByteArray}
theorem RdOK.mono {k k' r r' : Nat} {x : NodeM} (h : RdOK (s := s) k x k' r) (hr : r' ≤ r) : RdOK (s := s) k x k' r' :=
  ⟨h.lt, h.le, fun h1 => h.sg (by omega), fun h1 => h.c2 (by omega), h.c1⟩
theorem read_par {k least : Nat} {y : NodeM} (hy : NBl (textM y)) (hr : ∀ k, Has s k (textM y) → Stop s (k + (textM y).size) → RdOK (s := s) k y (advM s (k + (textM y).size)) (rkN y.op))
    (hh : Has s k (parM (textM y) (rankM y.op) (least : Nat))) (hs : Stop s (k + (parM (textM y) (rankM y.op) (least : Nat)).size)) : RdOK (s := s) k y (advM s (k + (parM (textM y) (rankM y.op) (least : Nat)).size)) least := by
  by_cases h : rankM y.op < (least : Nat)
  · have e0 : parM (textM y) (rankM y.op) (least : Nat) = openT ++ textM y ++ closeT := by unfold parM; rw [if_pos h]; rfl
    rw [e0] at hh hs ⊢
    obtain ⟨h12, h3⟩ := hh.app
    obtain ⟨h1, h2⟩ := h12.app
    have e1 : openT.size = 1 := rfl
    have e2 : closeT.size = 1 := rfl
    have e3 : (openT ++ textM y).size = 1 + (textM y).size := by rw [ba_size_append, e1]
    rw [e1] at h2
    rw [e3] at h3
    have e4 : (openT ++ textM y ++ closeT).size = 1 + (textM y).size + 1 := by rw [ba_size_append, e3, e2]
    rw [e4] at hs ⊢
    have l3 := h3.le
    rw [e2] at l3
    have t1 : tokB s k = openT := tok_one h1 rfl (by decide) (by decide)
    have t2 : tokB s (k + (1 + (textM y).size)) = closeT := tok_one h3 rfl (by decide) (by decide)
    have n1 : nxtM s k = k + 1 := by unfold nxtM; rw [t1, e1, adv_at h2 hy]
    have hst : Stop s (k + 1 + (textM y).size) := by rw [Nat.add_assoc]; exact stop_byte h3 (by decide) (by decide) (by decide)
    have hb : bAt s (k + (1 + (textM y).size)) = 41 := (h3.byte (by decide)).trans (by decide)
    have a2 : advM s (k + 1 + (textM y).size) = k + (1 + (textM y).size) := by rw [Nat.add_assoc]; exact adv_stay (.inr (by rw [hb]; decide))
    have R := hr (k + 1) h2 hst
    rw [a2] at R
    have hrd := R.stop1 (by rw [t2]; decide) (by rw [t2]; decide)
    rw [← n1] at hrd
    have hsg := SgT.paren t1 (by omega) hrd t2
    have n2 : nxtM s (k + (1 + (textM y).size)) = advM s (k + (1 + (textM y).size + 1)) := by unfold nxtM; rw [t2, e2, Nat.add_assoc]
    rw [n2] at hsg
    have l4 := advM_le (s := s) (j := k + (1 + (textM y).size + 1)) (by omega)
    exact RdOK.ofS (by omega) l4.2 hsg _
  · have e0 : parM (textM y) (rankM y.op) (least : Nat) = textM y := by unfold parM; rw [if_neg h]
    rw [e0] at hh hs ⊢
    refine (hr k hh hs).mono ?_
    rw [rank_rk] at h
    omega
theorem stop_blank {k : Nat} (h : Has s k ⟨#[32]⟩) : Stop s k := stop_byte h (by decide) (by decide) (by decide)
theorem read_text : ∀ (m : Nat) (x : NodeM), sizeN x ≤ m → validM 10000 10000 10000 x = true → ∀ (k : Nat), Has s k (textM x) → Stop s (k + (textM x).size) → RdOK (s := s) k x (advM s (k + (textM x).size)) (rkN x.op)
  | 0, x, h, _ => by have := size_pos x; omega
  | m + 1, .mk op a b subs, h, hv => by
    intro k hh hst
    have hnb := text_nb (m + 1) _ h hv
    simp only [validM, Bool.and_eq_true, decide_eq_true_eq] at hv
    obtain ⟨h1, h2, h3, h4, h5, h6, h7⟩ := hv
    obtain ⟨na, rfl⟩ := Int.eq_ofNat_of_zero_le h3
    obtain ⟨nb, rfl⟩ := Int.eq_ofNat_of_zero_le h4
    have hla := hh.le
    have hadv := advM_le (s := s) (j := k + (textM (.mk op na nb subs)).size) hla
    have hlt : k < advM s (k + (textM (.mk op na nb subs)).size) := by have := hnb.1; omega
    have hsn := sign_nb h1
    have hsl := sign_letters h1
    have e32 : (⟨#[32]⟩ : ByteArray).size = 1 := rfl
    show RdOK k _ _ (rkN op)
    have done : SgT s k (.mk op na nb subs) (advM s (k + (textM (.mk op na nb subs)).size)) → RdOK (s := s) k (.mk op na nb subs) (advM s (k + (textM (.mk op na nb subs)).size)) (rkN op) := fun hg => RdOK.ofS hlt hadv.2 hg _
    match subs, h, h2, h7 with
    | [], h, h2, h7 =>
      refine done ?_
      have ho : op = 0 ∨ op = 1 ∨ op = 2 ∨ op = 3 := by
        have : subsM op = 0 := h2.symm
        unfold subsM at this
        split at this
        · omega
        · split at this <;> omega
      by_cases h0 : op = 0
      · subst h0
        obtain ⟨rfl, rfl⟩ : na = 0 ∧ nb = 0 := by simp at h5 h6; omega
        have ht : textM (.mk 0 (0 : Nat) (0 : Nat) []) = signB 0 := rfl
        rw [ht] at hh hst ⊢
        have t1 := tok_word hh hsn.1 hsl hst
        have := SgT.tru t1
        unfold nxtM at this
        rw [t1] at this
        exact this
      · by_cases h30 : op = 3
        · subst h30
          have ha : na < 10000 := by simp at h5; omega
          have hb : nb < 10000 := by simp at h6; omega
          obtain ⟨da1, da2, da3⟩ := dec_num ha
          obtain ⟨db1, db2, db3⟩ := dec_num hb
          have ht : textM (.mk 3 (na : Nat) (nb : Nat) []) = signB 3 ++ ⟨#[32]⟩ ++ decB na ++ ⟨#[32]⟩ ++ decB nb := rfl
          rw [ht] at hh hst ⊢
          have nba : NBl (decB na) := ⟨da2, by have := digit_in (da3 0 da2); omega⟩
          have nbb : NBl (decB nb) := ⟨db2, by have := digit_in (db3 0 db2); omega⟩
          generalize decB na = A at *
          generalize decB nb = B at *
          obtain ⟨q4, q5⟩ := hh.app
          obtain ⟨q3, qb⟩ := q4.app
          obtain ⟨q2, q6⟩ := q3.app
          obtain ⟨q1, qa⟩ := q2.app
          simp only [ba_size_append, e32, ← Nat.add_assoc] at qa q6 qb q5 hst ⊢
          have t1 := tok_word q1 hsn.1 hsl (stop_blank qa)
          have n1 : nxtM s k = k + (signB 3).size + 1 := by unfold nxtM; rw [t1]; exact adv_blank qa q6 nba
          have t2 := tok_num q6 da2 da3 (stop_blank qb)
          have n2 : nxtM s (k + (signB 3).size + 1) = k + (signB 3).size + 1 + A.size + 1 := by unfold nxtM; rw [t2]; exact adv_blank qb q5 nbb
          have t3 := tok_num q5 db2 db3 hst
          have := SgT.giv t1 (by rw [n1, t2]; exact da1) (by rw [n1, n2, t3]; exact db1)
          rw [n1, n2] at this
          unfold nxtM at this
          rw [t3] at this
          exact this
        · have ho2 : op = 1 ∨ op = 2 := by omega
          have ha : na < 10000 := by rcases ho2 with rfl | rfl <;> simp at h5 <;> omega
          obtain rfl : nb = 0 := by rcases ho2 with rfl | rfl <;> simp at h6 <;> omega
          obtain ⟨da1, da2, da3⟩ := dec_num ha
          have ht : textM (.mk op (na : Nat) (0 : Nat) []) = signB op ++ ⟨#[32]⟩ ++ decB na := by rcases ho2 with rfl | rfl <;> rfl
          rw [ht] at hh hst ⊢
          have nba : NBl (decB na) := ⟨da2, by have := digit_in (da3 0 da2); omega⟩
          generalize decB na = A at *
          obtain ⟨q2, q6⟩ := hh.app
          obtain ⟨q1, qa⟩ := q2.app
          simp only [ba_size_append, e32, ← Nat.add_assoc] at qa q6 hst ⊢
          have t1 := tok_word q1 hsn.1 hsl (stop_blank qa)
          have n1 : nxtM s k = k + (signB op).size + 1 := by unfold nxtM; rw [t1]; exact adv_blank qa q6 nba
          have t2 := tok_num q6 da2 da3 hst
          have := SgT.one ho2 t1 (by rw [n1, t2]; exact da1)
          rw [n1] at this
          unfold nxtM at this
          rw [t2] at this
          exact this
    | [x], h, h2, h7 =>
      refine done ?_
      have hs1 : subsM op = 1 := h2.symm
      simp only [validL, Bool.and_eq_true] at h7
      have hsz : sizeN x ≤ m := by unfold sizeN sizeL at h; omega
      have hx := text_nb m x hsz h7.1
      have ht : textM (.mk op na nb [x]) = signB op ++ ⟨#[32]⟩ ++ parM (textM x) (rankM x.op) 3 := rfl
      have hz : na = 0 ∧ nb = 0 := by
        have e1 : ¬(op = 1) := by rintro rfl; revert hs1; decide
        have e2 : ¬(op = 2 ∨ op = 3) := by rintro (rfl | rfl) <;> (revert hs1; decide)
        have e3 : ¬(op = 3) := by rintro rfl; revert hs1; decide
        rw [if_neg e1, if_neg e2] at h5
        rw [if_neg e3] at h6
        omega
      obtain ⟨rfl, rfl⟩ := hz
      rw [ht] at hh hst ⊢
      have hp : NBl (parM (textM x) (rankM x.op) 3) := par_nb hx
      have ih := fun k q1 q2 => read_par (s := s) (k := k) (least := 3) hx (fun k => read_text m x hsz h7.1 k) q1 q2
      have e3 : (((3 : Nat) : Int)) = 3 := rfl
      rw [e3] at ih
      generalize parM (textM x) (rankM x.op) 3 = P at *
      obtain ⟨q2, q6⟩ := hh.app
      obtain ⟨q1, qa⟩ := q2.app
      simp only [ba_size_append, e32, ← Nat.add_assoc] at qa q6 hst ⊢
      have t1 := tok_word q1 hsn.1 hsl (stop_blank qa)
      have n1 : nxtM s k = k + (signB op).size + 1 := by unfold nxtM; rw [t1]; exact adv_blank qa q6 hp
      have R := ih _ q6 hst
      have l6 := q6.le
      have hsg := R.sg (Nat.le_refl _)
      exact SgT.un h1 hs1 t1 (by omega) (by rw [n1]; exact hsg)
    | x :: y :: l, h, h2, h7 =>
      have h2' : l.length + 2 = subsM op := h2
      have hs2 : subsM op = 2 ∧ l = [] := by
        have : subsM op ≤ 2 := by unfold subsM; split; omega; split <;> omega
        exact ⟨by omega, List.length_eq_zero_iff.1 (by omega)⟩
      obtain ⟨hs2, rfl⟩ := hs2
      simp only [validL, Bool.and_eq_true] at h7
      obtain ⟨vx, vy, -⟩ := h7
      have hsx : sizeN x ≤ m := by unfold sizeN sizeL at h; omega
      have hsy : sizeN y ≤ m := by unfold sizeN sizeL sizeL at h; omega
      have hx := text_nb m x hsx vx
      have hy := text_nb m y hsy vy
      have rx := fun k => read_text m x hsx vx k
      have ry := fun k => read_text m y hsy vy k
      have ho : op = 5 ∨ op = 6 ∨ op = 10 ∨ op = 14 := by unfold subsM at hs2; split at hs2; omega; split at hs2 <;> omega
      have hz : na = 0 ∧ nb = 0 := by
        rw [if_neg (by omega), if_neg (by omega)] at h5
        rw [if_neg (by omega)] at h6
        omega
      obtain ⟨rfl, rfl⟩ := hz
      by_cases ho2 : op = 10 ∨ op = 14
      · refine done ?_
        have eU : (⟨#[32, 85, 32]⟩ : ByteArray) = ⟨#[32]⟩ ++ untilT ++ ⟨#[32]⟩ := by decide +kernel
        have ht : textM (.mk op (0 : Nat) (0 : Nat) [x, y]) = signB op ++ leftT ++ textM x ++ (⟨#[32]⟩ ++ untilT ++ ⟨#[32]⟩) ++ textM y ++ rightT := by
          rw [← eU]
          show joinM op (0 : Nat) (0 : Nat) [(textM x, rankM x.op), (textM y, rankM y.op)] = _
          simp only [joinM]
          rw [if_pos ho2]
          rfl
        have el : leftT.size = 1 := rfl
        have er : rightT.size = 1 := rfl
        have eu : untilT.size = 1 := rfl
        rw [ht] at hh hst ⊢
        generalize textM x = A at *
        generalize textM y = B at *
        obtain ⟨p5, qR⟩ := hh.app
        obtain ⟨p4, qB⟩ := p5.app
        obtain ⟨p3, qU3⟩ := p4.app
        obtain ⟨p2, qA⟩ := p3.app
        obtain ⟨q1, qL⟩ := p2.app
        obtain ⟨pu, qb2⟩ := qU3.app
        obtain ⟨qb1, qu⟩ := pu.app
        simp only [ba_size_append, e32, el, er, eu, ← Nat.add_assoc] at qR qB qA qL qb2 qb1 qu hst ⊢
        have lR := qR.le
        rw [er] at lR
        have t1 := tok_word q1 hsn.1 hsl (stop_byte qL (by decide) (by decide) (by decide))
        have n1 : nxtM s k = k + (signB op).size := by unfold nxtM; rw [t1]; exact adv_at qL ⟨by decide, by decide⟩
        have t2 : tokB s (k + (signB op).size) = leftT := tok_one qL rfl (by decide) (by decide)
        have n2 : nxtM s (k + (signB op).size) = k + (signB op).size + 1 := by unfold nxtM; rw [t2]; exact adv_at qA hx
        have R1 := rx _ qA (stop_blank qb1)
        have nbu : NBl untilT := ⟨by decide, by decide⟩
        have a1 := adv_blank qb1 qu nbu
        rw [a1] at R1
        have t3 : tokB s (k + (signB op).size + 1 + A.size + 1) = untilT := tok_word qu (by decide) (by decide +kernel) (stop_blank qb2)
        have n3 : nxtM s (k + (signB op).size + 1 + A.size + 1) = k + (signB op).size + 1 + A.size + 1 + 1 + 1 := by unfold nxtM; rw [t3]; exact adv_blank qb2 qB hy
        have R2 := ry _ qB (stop_byte qR (by decide) (by decide) (by decide))
        have hbR : bAt s (k + (signB op).size + 1 + A.size + 1 + 1 + 1 + B.size) = 93 := (qR.byte (by decide)).trans (by decide)
        rw [adv_stay (.inr (by rw [hbR]; decide))] at R2
        have t4 : tokB s (k + (signB op).size + 1 + A.size + 1 + 1 + 1 + B.size) = rightT := tok_one qR rfl (by decide) (by decide)
        have d1 := R1.stop1 (by rw [t3]; decide) (by rw [t3]; decide)
        have d2 := R2.stop1 (by rw [t4]; decide) (by rw [t4]; decide)
        have := SgT.two (k := k) (x := x) (y := y) ho2 t1 (by omega) (by rw [n1]; exact t2) (by rw [n1, n2]; exact d1) t3 (by rw [n1, n2]; exact R1.lt) R1.le (by rw [n3]; exact d2) t4
        unfold nxtM at this
        rw [t4] at this
        exact this
      · have ht : textM (.mk op (0 : Nat) (0 : Nat) [x, y]) = parM (textM x) (rankM x.op) (rankM op) ++ ⟨#[32]⟩ ++ signB op ++ ⟨#[32]⟩ ++ parM (textM y) (rankM y.op) (rankM op + 1) := by
          show joinM op (0 : Nat) (0 : Nat) [(textM x, rankM x.op), (textM y, rankM y.op)] = _
          simp only [joinM]
          rw [if_neg ho2]
        obtain ⟨r, hr1, hr2, hr3, hr4⟩ : ∃ r : Nat, rankM op = (r : Nat) ∧ rkN op = r ∧ r < 3 ∧ signB op = signB (bopM r) ∧ op = bopM r := by
          rcases ho with rfl | rfl | h | h
          · exact ⟨2, rfl, rfl, by omega, rfl, rfl⟩
          · exact ⟨1, rfl, rfl, by omega, rfl, rfl⟩
          · exact absurd (.inl h) ho2
          · exact absurd (.inr h) ho2
        have er1 : (r : Int) + 1 = ((r + 1 : Nat) : Int) := rfl
        rw [ht] at hh hst hlt hadv ⊢
        rw [hr1, er1] at hh hst hlt hadv ⊢
        rw [hr2]
        have px : NBl (parM (textM x) (rankM x.op) (r : Nat)) := par_nb hx
        have py : NBl (parM (textM y) (rankM y.op) ((r + 1 : Nat) : Int)) := par_nb hy
        have Rx := fun k q1 q2 => read_par (s := s) (k := k) (least := r) hx rx q1 q2
        have Ry := fun k q1 q2 => read_par (s := s) (k := k) (least := r + 1) hy ry q1 q2
        generalize parM (textM x) (rankM x.op) (r : Nat) = A at *
        generalize parM (textM y) (rankM y.op) ((r + 1 : Nat) : Int) = B at *
        obtain ⟨p4, qB⟩ := hh.app
        obtain ⟨p3, qb2⟩ := p4.app
        obtain ⟨p2, qs⟩ := p3.app
        obtain ⟨qA, qb1⟩ := p2.app
        simp only [ba_size_append, e32, ← Nat.add_assoc] at qB qb2 qs qb1 hst hlt hadv ⊢
        have lB := qB.le
        have R1 := Rx _ qA (stop_blank qb1)
        rw [adv_blank qb1 qs hsn] at R1
        have t1 := tok_word qs hsn.1 hsl (stop_blank qb2)
        have n1 : nxtM s (k + A.size + 1) = k + A.size + 1 + (signB op).size + 1 := by unfold nxtM; rw [t1]; exact adv_blank qb2 qB py
        have R2 := Ry _ qB hst
        rw [← n1] at R2
        rw [n1] at R2
        generalize advM s (k + A.size + 1 + (signB op).size + 1 + B.size) = K at *
        have hB := py.1
        rw [hr4.2]
        have t1' : tokB s (k + A.size + 1) = signB (bopM r) := t1.trans hr4.1
        have R2lt := R2.lt
        rcases (by omega : r = 2 ∨ r < 2) with h22 | h22
        · subst h22
          have c2 : ∀ z q, LpT s 2 (.mk (bopM 2) 0 0 [x, y]) K z q → RdT s 2 k z q := fun z q hl => R1.c2 (Nat.le_refl _) z q (LpT.step (by omega) t1' (by omega) (by rw [n1]; exact RdT.sing rfl (R2.sg (Nat.le_refl _))) (by rw [n1]; exact R2lt) R2.le hl)
          exact ⟨hlt, hadv.2, fun h => absurd h (by decide), fun _ => c2, fun h5 z q hl => RdT.step (by omega) (c2 _ _ (LpT.stop h5)) hlt hadv.2 hl⟩
        · have hr0 : r = 1 := by
            have := rk_pos op
            omega
          subst hr0
          exact ⟨hlt, hadv.2, fun h => absurd h (by decide), fun h => absurd h (by decide), fun h5 z q hl => R1.c1 (by rw [t1']; decide) z q (LpT.step (by omega) t1' (by omega) (by rw [n1]; exact R2.stop2 (Nat.le_refl _) h5) (by rw [n1]; exact R2lt) R2.le hl)⟩
end
noncomputable def parseM (s : ByteArray) : NodeM × Int × Int :=
  if 65536 < s.size then (.mk 0 0 0 [], 0, 3)
  else match readF s (20 * s.size + 9) 1 (advM s 0) with
    | some (.err k) => (.mk 0 0 0 [], (k : Nat), 4)
    | some (.ok x k) => if tokB s k ≠ ⟨#[]⟩ then (.mk 0 0 0 [], (k : Nat), 4) else if (smallM x 64).1 = false then (.mk 0 0 0 [], 0, 3) else (x, 0, 0)
    | none => (.mk 0 0 0 [], 0, 0)
/-- What was written is read as itself. -/
theorem parse_text {x : NodeM} (hv : validM 10000 10000 10000 x = true) (hs : (smallM x 64).1 = true) (hsz : (textM x).size ≤ 65536) : parseM (textM x) = (x, 0, 0) := by
  have hnb := text_nb _ x (Nat.le_refl _) hv
  have R := read_text (s := textM x) _ x (Nat.le_refl _) hv 0 (Has.self _) (.inl (Nat.zero_add _))
  have a0 : advM (textM x) 0 = 0 := adv_at (Has.self _) hnb
  have a1 : advM (textM x) (0 + (textM x).size) = (textM x).size := by rw [Nat.zero_add]; exact adv_stay (.inl rfl)
  rw [a1] at R
  have te : tokB (textM x) (textM x).size = ⟨#[]⟩ := (tok_empty (Nat.le_refl _)).2 rfl
  have hrd := R.stop1 (by rw [te]; decide) (by rw [te]; decide) (20 * (textM x).size + 9) (by omega)
  unfold parseM
  rw [if_neg (by omega), a0, hrd]
  dsimp only
  rw [if_neg (fun e => e te), if_neg (by rw [hs]; simp)]
end Go.Ai
end

section
namespace Go.Ai
set_option maxRecDepth 10000
set_option maxHeartbeats 4000000
def tokC (s : ByteArray) (k : Nat) : List AV := [.lit (.string (tokB s k)), .lit (.int .i64 (k : Nat))]
def toksC (s : ByteArray) (l : List Nat) : List AV := l.flatMap (tokC s)
/-- What the reference's parser finds in memory. -/
structure RAt (s : ByteArray) (pos : List Nat) (ta : Nat) (g : Nat → Option Blk) (n : Nat) : Prop where
  tan : ta < n
  toks : Row g ta 0 (toksC s pos)
theorem RAt.keep {s : ByteArray} {pos : List Nat} {ta : Nat} {g g' : Nat → Option Blk} {n n' : Nat} (h : RAt s pos ta g n) (hn : n ≤ n') (hg : ∀ a, a < n → g' a = g a) : RAt s pos ta g' n' :=
  ⟨by have := h.tan; omega, h.toks.mono (hg _ h.tan)⟩
end Go.Ai
end

section
namespace Go.Ai
open Go.RowKit (Below)

variable {B G : Nat} {P : Program} {n n0 : Nat} {ρ0 ρ : Rn} {w0 w : World} {fr : Fr} {H : Mem} {a : Act} {W : WF}

/-- A deferred body, told by what its end is good for. -/
noncomputable def execDW (G : Nat) (P : Program) (n : Nat) (O : CallF) : Code → Fr → Mode → Mem → (OutD → Prop) → Prop
  | .seq x y, fr, u, H, Q => execDW G P n O x fr u H fun r => match r with
    | .norm fr u H => execDW G P n O y fr u H Q
    | r => Q r
  | .cond c x y, fr, u, H, Q => match fr.ev c with
    | some (.lit (.bool true)) => execDW G P n O x fr u H Q
    | some (.lit (.bool false)) => execDW G P n O y fr u H Q
    | _ => False
  | .region _ ops false, fr, u, H, Q => match seqOpsD P O ops ops.toList fr u H with
    | .bad => False
    | r => Q r
  | c, fr, u, H, Q => XW G P n c fr H fun o => match o with
    | .norm fr H => Q (.norm fr u H)
    | .ret fr H => Q (.ret fr u H)
    | _ => False
/-- Its end. -/
def EndD (B G n n0 : Nat) (ρ0 : Rn) (w0 : World) (c₀ : Frame) (cs : List Frame) (Q : OutD → Prop) : Exit → Act → List Frame → World → Prop := fun e a' cs' w' => ∃ out, Q out ∧ OutPostD B G n n0 ρ0 w0 c₀ cs out e a' cs' w'

theorem liftDW_sound (c : Code) {c₀ : Frame} {cs : List Frame} {u : Mode} {m : FrameMode} {Q : OutD → Prop} (s : St B G n n0 ρ0 w0 ρ fr H a w) (hm : MR ρ u m)
    (h : XW G P n c fr H fun o => match o with | .norm fr H => Q (.norm fr u H) | .ret fr H => Q (.ret fr u H) | _ => False) :
    c.wpS P (EndD B G n n0 ρ0 w0 c₀ cs Q) a ({ c₀ with mode := m } :: cs) w := by
  have s1 : St B G n H.next ρ w ρ fr H a w := ⟨Ext.refl _ _ _ _, s.sim, s.frel, Nat.le_refl _⟩
  refine wpS_of_wp (Code.wp_mono ?_ (h B H.next ρ w ρ a w s1))
  rintro e a' w' ⟨r, hq, h⟩
  have up : ∀ {ρ' : Rn} {fr' : Fr} {H' : Mem}, St B G n H.next ρ w ρ' fr' H' a' w' → MR ρ' u m ∧ St B G n n0 ρ0 w0 ρ' fr' H' a' w' := fun {ρ' fr' H'} s' =>
    ⟨hm.mono (s'.ext.sub s.sim), s.ext.trans s'.ext s.le, s'.sim, s'.frel, Nat.le_trans s.le s'.le⟩
  cases r with
  | norm fr' H' => cases e <;> first | exact h.elim | (obtain ⟨ρ', s'⟩ := h; exact ⟨_, hq, ρ', m, rfl, (up s').1, (up s').2⟩)
  | ret fr' H' => cases e <;> first | exact h.elim | (obtain ⟨ρ', s'⟩ := h; exact ⟨_, hq, ρ', m, rfl, (up s').1, (up s').2⟩)
  | exit id fr' H' => exact hq.elim
  | panic v fr' H' => exact hq.elim
  | bad => exact hq.elim

theorem wpS_end {c : Code} {R R' : Exit → Act → List Frame → World → Prop} {c₀ : List Frame} (h : ∀ e a w cs, R e a cs w → R' e a cs w) (k : c.wpS P R a c₀ w) : c.wpS P R' a c₀ w := by
  intro b k' hb hro
  obtain ⟨e, a', cs', w', hq, harr⟩ := k b k' hb hro
  exact ⟨e, a', cs', w', h _ _ _ _ hq, harr⟩

theorem execDW_sound {O : CallF} (hc : CallOK B G P O) (hG : G = P.globals.size) {c₀ : Frame} {cs : List Frame} : ∀ (c : Code) (ρ : Rn) (fr : Fr) (u : Mode) (H : Mem) (m : FrameMode) (a : Act) (w : World) (Q : OutD → Prop),
    dstsOk n c = true → St B G n n0 ρ0 w0 ρ fr H a w → MR ρ u m → execDW G P n O c fr u H Q →
    c.wpS P (EndD B G n n0 ρ0 w0 c₀ cs Q) a ({ c₀ with mode := m } :: cs) w := by
  intro c
  induction c with
  | seq x y ihx ihy =>
    intro ρ fr u H m a w Q hd s hm h
    simp only [dstsOk, Bool.and_eq_true] at hd
    simp only [execDW] at h
    refine wpS_seq ?_
    have key := ihx ρ fr u H m a w _ hd.1 s hm h
    intro b k hb hro
    obtain ⟨e, a', cs', w', ⟨out, hq, ho⟩, harr⟩ := key b k hb hro
    refine ⟨e, a', cs', w', ?_, harr⟩
    cases out with
    | norm fr' u' H' =>
      cases e with
      | normal =>
        obtain ⟨ρ', m', rfl, hm', s'⟩ := ho
        exact ihy ρ' fr' u' H' m' a' w' Q hd.2 s' hm' hq
      | _ => exact ho.elim
    | ret fr' u' H' => cases e <;> first | exact ho.elim | exact ⟨_, hq, ho⟩
    | bad => cases e <;> exact ho.elim
  | cond cnd x y ihx ihy =>
    intro ρ fr u H m a w Q hd s hm h
    simp only [dstsOk, Bool.and_eq_true] at hd
    simp only [execDW] at h
    split at h
    · rename_i hev
      have := s.ev _ _ hev
      exact wpS_cond (t := true) this (ihx ρ fr u H m a w Q hd.1 s hm h)
    · rename_i hev
      have := s.ev _ _ hev
      exact wpS_cond (t := false) this (ihy ρ fr u H m a w Q hd.2 s hm h)
    · exact h.elim
  | region id ops draw =>
    intro ρ fr u H m a w Q hd s hm h
    cases draw with
    | true => exact liftDW_sound (.region id ops true) s hm h
    | false =>
      simp only [execDW] at h
      generalize hr : seqOpsD P O ops ops.toList fr u H = r at h
      have hne : r ≠ .bad := by rintro rfl; exact h
      have hq : Q r := by cases r <;> first | exact h | exact absurd rfl hne
      refine wpS_end (R := OutPostD B G n n0 ρ0 w0 c₀ cs r) (fun e a w cs hh => ⟨r, hq, hh⟩) ?_
      refine wpS_region ?_
      have := seqOpsD_sound (c₀ := c₀) (cs := cs) hc hG hne ops.toList 0 fr u H ρ m a w (fun j => by simp) (fun o ho => List.all_eq_true.1 hd o ho) s hm hr
      rw [List.range_eq_range']
      simpa using this
  | _ => intro ρ fr u H m a w Q hd s hm h; exact liftDW_sound _ s hm h

/-- Behind a deferred call. -/
noncomputable def endDW (P : Program) (g : Func) (K : Mode → Mem → Prop) : OutD → Prop
  | .norm fr u H => match fr.defers, resultsA P g fr H, u with
    | [], some _, .recovered _ => K .returning H
    | [], some _, .returning => K .returning H
    | [], some _, .panicking v => K (.panicking v) H
    | _, _, _ => False
  | .ret fr u H => match fr.defers, resultsA P g fr H, u with
    | [], some _, .recovered _ => K .returning H
    | [], some _, .returning => K .returning H
    | [], some _, .panicking v => K (.panicking v) H
    | _, _, _ => False
  | .bad => False
/-- What a frame leaves behind that has no call deferred. -/
noncomputable def lastW (P : Program) (fn : Func) (fr : Fr) (K : COut → Prop) : Mode → Mem → Prop
  | .returning, H => match resultsA P fn fr H with
    | some v => K (.ret v H)
    | none => False
  | .panicking v, H => K (.panic v H)
  | .recovered _, _ => False
noncomputable def deferW (G : Nat) (P : Program) (O : CallF) (fn : Func) (fr : Fr) (K : COut → Prop) (u : Mode) (H : Mem) : Prop :=
  match fr.defers with
  | [] => lastW P fn fr K u H
  | [(.func f, cap, args)] => ∃ g c, P.funcs[f]? = some g ∧ g.body = some c ∧ hasBody P f = true ∧ dstsOk g.ntmps c = true ∧ (args ++ cap).length ≤ g.ntmps ∧
    execDW G P g.ntmps O c (frameW (args ++ cap)) u H (endDW P g (lastW P fn fr K))
  | _ => False
/-- Behind a body, with at most one deferred call. -/
noncomputable def leaveX (G : Nat) (P : Program) (O : CallF) (fn : Func) (K : COut → Prop) : Out → Prop
  | .norm fr H => deferW G P O fn fr K .returning H
  | .ret fr H => deferW G P O fn fr K .returning H
  | .panic v fr H => deferW G P O fn fr K (.panicking v) H
  | _ => False
theorem lastW_sound {fn : Func} {K : COut → Prop} (hG : G = P.globals.size) {u : Mode} {m : FrameMode} (s : St B G n n0 ρ0 w0 ρ fr H a w) (hm : MR ρ u m) (h : lastW P fn fr K u H) :
    Leaves P fn a.tmps (fun e w' => ∃ r, K r ∧ CPost B G n0 ρ0 w0 r e w') [] m w := by
  cases u with
  | returning =>
    cases hm
    simp only [lastW] at h
    split at h
    · rename_i v hv
      obtain ⟨x, hx, hvx⟩ := results_sound s hG hv
      exact ⟨x, hx, _, h, ρ, s.ext, s.sim, hvx, s.le⟩
    · exact h.elim
  | panicking v =>
    obtain ⟨x, rfl, hx⟩ := hm
    exact ⟨_, h, ρ, x, rfl, hx, s.ext, s.sim, s.le⟩
  | recovered v => exact h.elim
theorem deferW_sound {O : CallF} {fn : Func} {K : COut → Prop} (hc : CallOK B G P O) (hG : G = P.globals.size) {u : Mode} {m : FrameMode} (s : St B G n n0 ρ0 w0 ρ fr H a w) (hm : MR ρ u m) (h : deferW G P O fn fr K u H) :
    Leaves P fn a.tmps (fun e w' => ∃ r, K r ∧ CPost B G n0 ρ0 w0 r e w') a.defers m w := by
  have hd := s.frel.dfr
  unfold deferW at h
  split at h
  · rename_i h0
    rw [h0] at hd
    rw [show a.defers = [] from hd]
    exact lastW_sound hG s hm h
  · rename_i f cap args h0
    rw [h0] at hd
    obtain ⟨cs, aa, ds', h1, hcap, hargs, hd'⟩ := hd
    cases hd'
    rw [h1]
    obtain ⟨g, c, hg, hbody, hhas, hdst, hlen, hx⟩ := h
    have hrun : m ≠ .run := by
      cases u with
      | returning => cases hm; simp
      | panicking v => obtain ⟨x, rfl, _⟩ := hm; simp
      | recovered v => obtain ⟨x, rfl, _⟩ := hm; simp
    have hva : VRs ρ (args ++ cap) (aa ++ cs).toList := by simpa using hargs.append hcap
    refine ⟨hrun, .func f, cs, f, aa ++ cs, rfl, ?_, ?_⟩
    · show (callFunc f (aa ++ cs)).run P w = _
      exact hasBody_run hhas _ w
    · refine callsD_of_wpS hg hbody fun c₀ cs0 hmode => ?_
      have s1 : St B G g.ntmps H.next ρ w ρ (frameW (args ++ cap)) H { tmps := (aa ++ cs) ++ Array.replicate (g.ntmps - (aa ++ cs).size) undef, defers := [] } w := ⟨Ext.refl _ _ _ _, s.sim, frameW_entered hva hlen, Nat.le_refl _⟩
      have hc0 : ({ c₀ with mode := m } : Frame) = c₀ := by subst hmode; rfl
      have key := execDW_sound (c₀ := c₀) (cs := cs0) hc hG c ρ _ u H m _ w _ hdst s1 hm hx
      rw [hc0] at key
      intro b k hb hro
      obtain ⟨e, a', cs', w', ⟨r, hq, ho⟩, harr⟩ := key b k hb hro
      refine ⟨e, a', cs', w', ?_, harr⟩
      have fin : ∀ {fr' : Fr} {u' : Mode} {H' : Mem} {ρ' : Rn} {m' : FrameMode}, cs' = { c₀ with mode := m' } :: cs0 → MR ρ' u' m' → St B G g.ntmps H.next ρ w ρ' fr' H' a' w' →
          (match fr'.defers, resultsA P g fr' H', u' with
            | [], some _, .recovered _ => lastW P fn fr K .returning H'
            | [], some _, .returning => lastW P fn fr K .returning H'
            | [], some _, .panicking v => lastW P fn fr K (.panicking v) H'
            | _, _, _ => False) →
          a'.defers = [] ∧ ∃ u2, cs' = { c₀ with mode := u2 } :: cs0 ∧ ∃ v, (results g a'.tmps).run P w' = .ok v w' ∧ Leaves P fn a.tmps (fun e w' => ∃ r, K r ∧ CPost B G n0 ρ0 w0 r e w') [] (settle u2) w' := by
        intro fr' u' H' ρ' m' hcs hm' s' hmatch
        have sub := s'.ext.sub s.sim
        have hs2 : St B G n n0 ρ0 w0 ρ' fr H' a w' := ⟨s.ext.trans s'.ext s.le, s'.sim, s.frel.mono sub, Nat.le_trans s.le s'.le⟩
        have hdf : fr'.defers = [] → a'.defers = [] := fun h0 => by have := s'.frel.dfr; rw [h0] at this; exact this
        split at hmatch
        · rename_i v x h1 h2
          obtain ⟨y, hy, _⟩ := results_sound s' hG h2
          obtain ⟨z, rfl, hz⟩ := hm'
          exact ⟨hdf h1, _, hcs, y, hy, lastW_sound (u := .returning) (m := .returning) hG hs2 rfl hmatch⟩
        · rename_i v h1 h2
          obtain ⟨y, hy, _⟩ := results_sound s' hG h2
          cases hm'
          exact ⟨hdf h1, _, hcs, y, hy, lastW_sound (u := .returning) (m := .returning) hG hs2 rfl hmatch⟩
        · rename_i v x h1 h2
          obtain ⟨y, hy, _⟩ := results_sound s' hG h2
          obtain ⟨z, rfl, hz⟩ := hm'
          exact ⟨hdf h1, _, hcs, y, hy, lastW_sound (u := .panicking _) (m := .panicking [{ v := z, recovered := false }]) hG hs2 ⟨z, rfl, hz⟩ hmatch⟩
        · exact hmatch.elim
      cases r with
      | norm fr' u' H' =>
        cases e with
        | normal => obtain ⟨ρ', m', hcs, hm', s'⟩ := ho; exact fin hcs hm' s' hq
        | _ => exact ho.elim
      | ret fr' u' H' =>
        cases e with
        | ret => obtain ⟨ρ', m', hcs, hm', s'⟩ := ho; exact fin hcs hm' s' hq
        | _ => exact ho.elim
      | bad => exact hq.elim
  · exact h.elim

/-- A CALL, BY ITS BODY AND WHAT IT DEFERS. -/
theorem WC.enterX {f : FuncId} {fn : Func} {c : Code} {args : List AV} {K : COut → Prop} {O : CallF} (hO : ∀ B, CallOK B G P O) (hG : G = P.globals.size) (plan : List (Nat × List It)) (hf : P.funcs[f]? = some fn) (hb : fn.body = some c)
    (hd : (dstsOk fn.ntmps c && codeOk P plan c) = true) (hl : args.length ≤ fn.ntmps) (h : execP P (orW O (WC G P)) (LX G P fn.ntmps) plan c (frameW args) H (leaveX G P O fn K)) : WC G P f args H K := by
  rw [Bool.and_eq_true] at hd
  intro B ρ us w s hv
  have s1 : St B G fn.ntmps H.next ρ w ρ (frameW args) H { tmps := us ++ Array.replicate (fn.ntmps - us.size) undef, defers := [] } w := ⟨Ext.refl _ _ _ _, s, frameW_entered hv hl, Nat.le_refl _⟩
  refine calls_of_wp_defers hf hb (Code.wp_mono ?_ (execP_sound (orW_ok hO) (orW_mono (WC_mono' G P)) hG c _ H _ hd.1 hd.2 h B H.next ρ w ρ _ w s1))
  rintro e a' w' ⟨out, hq, ho⟩
  cases out with
  | norm fr' H' =>
    cases e with
    | normal => obtain ⟨ρ', s'⟩ := ho; exact deferW_sound (hO B) hG (u := .returning) (m := .returning) s' rfl hq
    | _ => exact ho.elim
  | ret fr' H' =>
    cases e with
    | ret => obtain ⟨ρ', s'⟩ := ho; exact deferW_sound (hO B) hG (u := .returning) (m := .returning) s' rfl hq
    | _ => exact ho.elim
  | panic v fr' H' =>
    cases e with
    | panic chain => obtain ⟨ρ', x, rfl, hx, s'⟩ := ho; exact deferW_sound (hO B) hG (u := .panicking v) s' ⟨x, rfl, hx⟩ hq
    | _ => exact ho.elim
  | exit id fr' H' => exact hq.elim
  | bad => exact hq.elim
end Go.Ai
end

section
namespace Go.Ai
/-- A graph: how many states, and where edges lead. -/
structure GraphM where
  n : Nat
  succ : Nat → List Nat
abbrev SetS := Nat → Bool
def GraphM.ok (G : GraphM) : Prop := ∀ s, s < G.n → ∀ t ∈ G.succ s, t < G.n
/-- At most, over the graph's states. -/
def leS (n : Nat) (X Y : SetS) : Prop := ∀ s, s < n → X s = true → Y s = true
def eqS (n : Nat) (X Y : SetS) : Prop := ∀ s, s < n → X s = Y s
theorem eqS.le {n : Nat} {X Y : SetS} (h : eqS n X Y) : leS n X Y := fun s hs hx => by rw [← h s hs]; exact hx
theorem eqS.symm {n : Nat} {X Y : SetS} (h : eqS n X Y) : eqS n Y X := fun s hs => (h s hs).symm
theorem eqS.trans {n : Nat} {X Y Z : SetS} (h : eqS n X Y) (h' : eqS n Y Z) : eqS n X Z := fun s hs => (h s hs).trans (h' s hs)
def GraphM.ends (G : GraphM) : SetS := fun s => (G.succ s).isEmpty
/-- Where some edge leads to a state of a set. -/
def GraphM.pre (G : GraphM) (X : SetS) : SetS := fun s => (G.succ s).any X
/-- Where all edges lead to states of a set. -/
def GraphM.post (G : GraphM) (X : SetS) : SetS := fun s => (G.succ s).all X
/-- A least fixed point. -/
structure IsL (n : Nat) (F : SetS → SetS) (L : SetS) : Prop where
  fix : eqS n (F L) L
  least : ∀ Z, leS n (F Z) Z → leS n L Z
end Go.Ai
end

section
namespace Go.Ai
/-- A machine as data: rows of edges (the next state, the output). -/
structure MachM where
  inp : Int
  out : Int
  rows : List (List (Int × Int))
def MachM.edge (M : MachM) (s : Nat) (i : Nat) : Int × Int := ((M.rows.getD s []).getD i (-1, -1))
def succL : List (Int × Int) → List Nat
  | [] => []
  | e :: l => if e.1 < 0 then succL l else e.1.toNat :: succL l
def MachM.gr (M : MachM) : GraphM := ⟨M.rows.length, fun s => succL (M.rows.getD s [])⟩
/-- Is it valid? -/
def edgeOK (n : Nat) (out : Int) (e : Int × Int) : Bool := decide (e = (-1, -1)) || (decide (0 ≤ e.1) && (decide (e.1 < n) && (decide (0 ≤ e.2) && decide (e.2 < out))))
def MachM.ok (M : MachM) : Prop := 1 ≤ M.inp ∧ M.inp ≤ 16 ∧ 1 ≤ M.out ∧ M.out ≤ 16 ∧ 1 ≤ M.rows.length ∧ M.rows.length ≤ 64 ∧ ∀ r ∈ M.rows, (r.length : Int) = M.inp ∧ ∀ e ∈ r, edgeOK M.rows.length M.out e = true
theorem eqS.refl (n : Nat) (X : SetS) : eqS n X X := fun _ _ => rfl
end Go.Ai
end

section
namespace Go.Ai
set_option maxRecDepth 10000
theorem Row.ext {g g' : Nat → Option Blk} {a off : Nat} {cs : List AV} (hr : Row g a off cs) (h : ∀ x, g a = some x → g' a = some x) : Row g' a off cs :=
  let ⟨l, own, z, h1, h2, h3⟩ := hr; ⟨l, own, z, h _ h1, h2, h3⟩
theorem SliceV.ext {g g' : Nat → Option Blk} {b b' len : Nat} {sv : AV} {cs : List AV} (hb : b ≤ b') (h : ∀ a x, a < b → g a = some x → g' a = some x) : SliceV g b sv len cs → SliceV g' b' sv len cs :=
  fun hs => hs.imp id fun ⟨a, off, h1, h2, h3⟩ => ⟨a, off, by omega, h2, h3.ext fun x hx => h a x h1 hx⟩
theorem SliceV.one {g : Nat → Option Blk} {b len : Nat} {sv : AV} {cs : List AV} : SliceV g b sv len cs → oneC sv = true := by
  rintro (⟨_, _, rfl | rfl⟩ | ⟨a, off, _, ⟨c, rfl⟩ | ⟨c, rfl⟩, _⟩) <;> rfl
/-- A slice as an argument holds it. -/
def SliceA (g : Nat → Option Blk) (b : Nat) (sv : AV) (len : Nat) (cs : List AV) : Prop :=
  (len = 0 ∧ (sv = .lit (.slice none 0 0) ∨ sv = .es)) ∨ ∃ a off c, a < b ∧ sv = .sl a off len c ∧ Row g a off cs
theorem SliceA.mono {g g' : Nat → Option Blk} {b b' len : Nat} {sv : AV} {cs : List AV} (hb : b ≤ b') (h : ∀ a, a < b → g' a = g a) : SliceA g b sv len cs → SliceA g' b' sv len cs :=
  fun hs => hs.imp id fun ⟨a, off, c, h1, h2, h3⟩ => ⟨a, off, c, by omega, h2, h3.mono (h a h1)⟩
theorem SliceA.one {g : Nat → Option Blk} {b len : Nat} {sv : AV} {cs : List AV} : SliceA g b sv len cs → oneC sv = true := by
  rintro (⟨_, rfl | rfl⟩ | ⟨a, off, c, _, rfl, _⟩) <;> rfl
/-- The cells of a row of edges. -/
def rowC (r : List (Int × Int)) : List AV := r.flatMap fun e => [.lit (.int .i64 e.1), .lit (.int .i64 e.2)]
theorem rowC_snoc (r : List (Int × Int)) (e : Int × Int) : rowC (r ++ [e]) = rowC r ++ [.lit (.int .i64 e.1), .lit (.int .i64 e.2)] := by
  unfold rowC
  rw [List.flatMap_append]
  simp
/-- Rows of edges, by their slices. -/
def RowsE (g : Nat → Option Blk) (b : Nat) : List (List (Int × Int)) → List AV → Prop
  | [], cs => cs = []
  | r :: l, cs => ∃ c t, cs = c :: t ∧ SliceV g b c r.length (rowC r) ∧ RowsE g b l t
theorem RowsE.ext {g g' : Nat → Option Blk} {b b' : Nat} (hb : b ≤ b') (h : ∀ a x, a < b → g a = some x → g' a = some x) : ∀ {l : List (List (Int × Int))} {cs : List AV}, RowsE g b l cs → RowsE g' b' l cs
  | [], _, h0 => h0
  | _ :: _, _, ⟨c, t, h1, h2, h3⟩ => ⟨c, t, h1, h2.ext hb h, h3.ext hb h⟩
theorem RowsE.len {g : Nat → Option Blk} {b : Nat} : ∀ {l : List (List (Int × Int))} {cs : List AV}, RowsE g b l cs → cs.length = l.length
  | [], cs, h => by have h' : cs = [] := h; rw [h']; rfl
  | r :: l, cs, ⟨c, t, h1, h2, h3⟩ => by rw [h1, List.length_cons, List.length_cons, h3.len]
theorem RowsE.at {g : Nat → Option Blk} {b : Nat} : ∀ {l : List (List (Int × Int))} {cs : List AV}, RowsE g b l cs → ∀ (k : Nat) (h : k < l.length) (h' : k < cs.length), SliceV g b cs[k] l[k].length (rowC l[k])
  | r :: l, cs, ⟨c, t, h1, h2, h3⟩, 0, h, h' => by subst h1; exact h2
  | r :: l, cs, ⟨c, t, h1, h2, h3⟩, k + 1, h, h' => by subst h1; exact h3.at k (by simpa using h) (by simpa using h')
theorem RowsE.snoc {g : Nat → Option Blk} {b : Nat} {r : List (Int × Int)} {c : AV} (hr : SliceV g b c r.length (rowC r)) : ∀ {l : List (List (Int × Int))} {cs : List AV}, RowsE g b l cs → RowsE g b (l ++ [r]) (cs ++ [c])
  | [], cs, h => by have h' : cs = [] := h; subst h'; exact ⟨c, [], rfl, hr, rfl⟩
  | _ :: _, _, ⟨d, t, h1, h2, h3⟩ => ⟨d, t ++ [c], by rw [h1]; rfl, h2, h3.snoc hr⟩
/-- A machine, by its three cells. -/
def RepM (g : Nat → Option Blk) (b : Nat) (M : MachM) (cs : List AV) : Prop :=
  ∃ sv svs, cs = [.lit (.int .i64 M.inp), .lit (.int .i64 M.out), sv] ∧ RowsE g b M.rows svs ∧ SliceV g b sv M.rows.length svs
theorem RepM.ext {g g' : Nat → Option Blk} {b b' : Nat} (hb : b ≤ b') (h : ∀ a x, a < b → g a = some x → g' a = some x) {M : MachM} {cs : List AV} : RepM g b M cs → RepM g' b' M cs :=
  fun ⟨sv, svs, h1, h2, h3⟩ => ⟨sv, svs, h1, h2.ext hb h, h3.ext hb h⟩
theorem RepM.mono {g g' : Nat → Option Blk} {b b' : Nat} (hb : b ≤ b') (h : ∀ a, a < b → g' a = g a) {M : MachM} {cs : List AV} (hr : RepM g b M cs) : RepM g' b' M cs := hr.ext hb fun a x ha hx => (h a ha).trans hx
theorem RepM.one {g : Nat → Option Blk} {b : Nat} {M : MachM} {cs : List AV} (h : RepM g b M cs) : ∃ sv, cs = [.lit (.int .i64 M.inp), .lit (.int .i64 M.out), sv] ∧ oneC sv = true :=
  let ⟨sv, _, h1, _, h3⟩ := h; ⟨sv, h1, h3.one⟩
/-- A machine in blocks from n on. -/
def FreshM (g : Nat → Option Blk) (n n' : Nat) (M : MachM) (cs : List AV) : Prop := ∃ gk : Nat → Option Blk, (∀ a z, gk a = some z → g a = some z ∧ n ≤ a ∧ a < n') ∧ RepM gk n' M cs
theorem FreshM.keep {g g' : Nat → Option Blk} {n0 n n' n2 : Nat} {M : MachM} {cs : List AV} (h : FreshM g n n' M cs) (h0 : n0 ≤ n) (h2 : n' ≤ n2) (hg : ∀ a, n ≤ a → a < n' → g' a = g a) : FreshM g' n0 n2 M cs := by
  obtain ⟨gk, h1, h3⟩ := h
  refine ⟨gk, fun a z hz => ?_, h3.ext h2 fun a z _ hz => hz⟩
  obtain ⟨e1, e2, e3⟩ := h1 a z hz
  exact ⟨(hg a e2 e3).trans e1, by omega, by omega⟩
theorem FreshM.rep {g : Nat → Option Blk} {n n' : Nat} {M : MachM} {cs : List AV} (h : FreshM g n n' M cs) : RepM g n' M cs :=
  let ⟨_, h1, h3⟩ := h; h3.ext (Nat.le_refl _) fun a z _ hz => (h1 a z hz).1
/-- A slice that grows by append: nothing yet, or a block of its own. -/
def GrowV (g : Nat → Option Blk) (lo n' B : Nat) (sv : AV) (len sz : Nat) (cs : List AV) : Prop :=
  (len = 0 ∧ cs = [] ∧ sv = .lit (.slice none 0 0)) ∨ (0 < len ∧ sv = .slq B 0 len 0 ∧ lo ≤ B ∧ B < n' ∧ g B = some (.cells cs true sz) ∧ cs.length = len * sz)
theorem GrowV.keep {g g' : Nat → Option Blk} {lo n' n2 B len sz : Nat} {sv : AV} {cs : List AV} (h : GrowV g lo n' B sv len sz cs) (hn : n' ≤ n2) (hg : lo ≤ B → B < n' → g' B = g B) : GrowV g' lo n2 B sv len sz cs :=
  h.imp id fun ⟨h0, h1, h2, h3, h4, h5⟩ => ⟨h0, h1, h2, by omega, (hg h2 h3).trans h4, h5⟩
theorem GrowV.mk {g : Nat → Option Blk} {lo n' B len sz : Nat} {cs : List AV} (h : g B = some (.cells cs true sz)) (h1 : lo ≤ B) (h2 : B < n') (h3 : cs.length = (len + 1) * sz) : GrowV g lo n' B (.slq B 0 (len + 1) 0) (len + 1) sz cs :=
  .inr ⟨by omega, rfl, h1, h2, h, h3⟩
theorem GrowV.one {g : Nat → Option Blk} {lo n' B len sz : Nat} {sv : AV} {cs : List AV} : GrowV g lo n' B sv len sz cs → oneC sv = true := by
  rintro (⟨_, _, rfl⟩ | ⟨_, rfl, _⟩) <;> rfl
/-- Seen as a slice. -/
theorem GrowV.slice {g : Nat → Option Blk} {lo n' B len sz : Nat} {sv : AV} {cs : List AV} (h : GrowV g lo n' B sv len sz cs) : SliceV (fun a => if a = B ∧ lo ≤ B ∧ B < n' then g a else none) n' sv len cs := by
  rcases h with ⟨h1, h2, h3⟩ | ⟨h0, h1, h2, h3, h4, h5⟩
  · exact .inl ⟨h1, h2, .inl h3⟩
  · exact .inr ⟨B, 0, h3, .inr ⟨0, h1⟩, cs, true, sz, (if_pos ⟨rfl, h2, h3⟩).trans h4, by simp, by simp⟩
/-- The machine that a machine as data is. -/
def edgeM (part : Bool) (n O v : Nat) : Int × Int := if part = true ∧ v % 4 = 3 then (-1, -1) else (((v / 4 % n : Nat) : Int), ((v / 4 / n % O : Nat) : Int))
def rowM (part : Bool) (es : List Nat) (n I O s : Nat) : List (Int × Int) := (List.range I).map fun i => edgeM part n O (es.getD (s * I + i) 0)
def machOf (st inp out : Nat) (part : Bool) (es : List Nat) : MachM :=
  ⟨1 + ((inp % 3 : Nat) : Int), 1 + ((out % 3 : Nat) : Int), (List.range (1 + st % 6)).map (rowM part es (1 + st % 6) (1 + inp % 3) (1 + out % 3))⟩
end Go.Ai
end

section
namespace Go.Ai
set_option maxRecDepth 10000
theorem repL_append {g : Nat → Option Blk} {b : Nat} : ∀ {l m : List NodeM} {r s : List AV}, repL g b l r → repL g b m s → repL g b (l ++ m) (r ++ s)
  | [], m, r, s, h, k => by have h' : r = [] := h; subst h'; exact k
  | x :: l, m, r, s, ⟨c, q, h1, h2, h3⟩, k => ⟨c, q ++ s, by rw [h1, List.append_assoc], h2, repL_append h3 k⟩
theorem repL_split {g : Nat → Option Blk} {b : Nat} : ∀ {l m : List NodeM} {r : List AV}, repL g b (l ++ m) r → ∃ r1 r2, r = r1 ++ r2 ∧ repL g b l r1 ∧ repL g b m r2
  | [], m, r, h => ⟨[], r, rfl, rfl, h⟩
  | x :: l, m, r, ⟨c, q, h1, h2, h3⟩ => by
    obtain ⟨r1, r2, h4, h5, h6⟩ := repL_split h3
    exact ⟨c ++ r1, r2, by rw [h1, h4, List.append_assoc], ⟨c, r1, rfl, h2, h5⟩, h6⟩
theorem repL_one' {g : Nat → Option Blk} {b : Nat} {x : NodeM} {cs : List AV} (h : repL g b [x] cs) : repN g b x cs := by
  obtain ⟨c, r, h1, h2, h3⟩ := h
  have h3' : r = [] := h3
  subst h3'
  rw [h1, List.append_nil]; exact h2
/-- Nodes in a row that grows, the last one first; what they have is in gk. -/
structure StkR (g gk : Nat → Option Blk) (lo n A : Nat) (sv : AV) (l : List NodeM) (r : List AV) : Prop where
  grow : GrowV g lo n A sv l.length 4 r
  rep : repL gk n l.reverse r
  kk : ∀ q z, gk q = some z → g q = some z ∧ q ≠ A ∧ lo ≤ q ∧ q < n
theorem StkR.start {g : Nat → Option Blk} {lo n : Nat} : StkR g (fun _ => none) lo n 0 (.lit (.slice none 0 0)) [] [] := ⟨.inl ⟨rfl, rfl, rfl⟩, rfl, fun _ _ h => by cases h⟩
theorem StkR.push {g gk g2 : Nat → Option Blk} {lo n n2 A B : Nat} {sv : AV} {l : List NodeM} {r X : List AV} {x : NodeM} (h : StkR g gk lo n A sv l r) (h1 : n ≤ B) (h2 : B < n2) (hlo : lo ≤ n) (hg : ∀ q, lo ≤ q → q < n → q ≠ A → g2 q = g q)
    (hB : g2 B = some (.cells (r ++ X) true 4)) (hX : X.length = 4) (hx : ∀ q b, repN q b x X) : StkR g2 gk lo n2 B (.slq B 0 (l.length + 1) 0) (x :: l) (r ++ X) := by
  have hl := repL_len h.rep
  rw [List.length_reverse] at hl
  refine ⟨.mk hB (by omega) h2 ?_, ?_, fun q z hz => ?_⟩
  · rw [List.length_append, hl, hX]; omega
  · rw [List.reverse_cons]
    exact repL_append (repL_ext (by omega) (fun _ _ _ h => h) h.rep) (repL_one (hx _ _))
  · obtain ⟨k1, k2, k3, k4⟩ := h.kk q z hz
    exact ⟨(hg q k3 k4 k2).trans k1, by omega, k3, by omega⟩
theorem StkR.pop {g gk g2 : Nat → Option Blk} {lo n n2 A B S op k : Nat} {sv : AV} {l t subs : List NodeM} {r r0 cs : List AV} (h : StkR g gk lo n A sv l r) (h1 : n ≤ S) (h2 : S < n2) (h3 : n ≤ B) (h4 : B < n2) (h5 : S ≠ B) (hlo : lo ≤ n)
    (hg : ∀ q, lo ≤ q → q < n → q ≠ A → g2 q = g q) (hS : g2 S = some (.cells cs true 0)) (hB : g2 B = some (.cells (r0 ++ [.lit (.int .u8 op), .lit (.int .i64 0), .lit (.int .i64 0), .sl S 0 k k]) true 4))
    (h0 : repL gk n t.reverse r0) (hs : repL gk n subs cs) (hk : subs.length = k) (hop : op < 256) :
    StkR g2 (gput gk S (some (.cells cs true 0))) lo n2 B (.slq B 0 (t.length + 1) 0) (.mk op 0 0 subs :: t) (r0 ++ [.lit (.int .u8 op), .lit (.int .i64 0), .lit (.int .i64 0), .sl S 0 k k]) := by
  have hl := repL_len h0
  rw [List.length_reverse] at hl
  have hext : ∀ a z, a < n → gk a = some z → gput gk S (some (.cells cs true 0)) a = some z := fun a z ha hz => by rw [gput_lt (by omega)]; exact hz
  refine ⟨.mk hB (by omega) h4 ?_, ?_, fun q z hz => ?_⟩
  · rw [List.length_append, hl]; simp; omega
  · rw [List.reverse_cons]
    exact repL_append (repL_ext (by omega) hext h0) (repL_one (node_rep hs hk hop h1 h2))
  · rcases gput_v hz with ⟨rfl, h⟩ | ⟨_, hz⟩
    · cases h; exact ⟨hS, h5, by omega, h2⟩
    · obtain ⟨k1, k2, k3, k4⟩ := h.kk q z hz
      exact ⟨(hg q k3 k4 k2).trans k1, by omega, k3, by omega⟩
/-- The last one of a row. -/
theorem StkR.last {g gk : Nat → Option Blk} {lo n A : Nat} {sv : AV} {x : NodeM} {t : List NodeM} {r : List AV} (h : StkR g gk lo n A sv (x :: t) r) : ∃ r0 cx, sv = .slq A 0 (t.length + 1) 0 ∧ lo ≤ A ∧ A < n ∧ g A = some (.cells r true 4) ∧ r.length = (t.length + 1) * 4 ∧
    r.take (t.length * 4) = r0 ∧ (r.drop (t.length * 4)).take 4 = cx ∧ repL gk n t.reverse r0 ∧ repN gk n x cx := by
  rcases h.grow with ⟨h9, _⟩ | ⟨_, h1, hA0, hA1, hA, hrl⟩
  · simp at h9
  · have hrep := h.rep
    rw [List.reverse_cons] at hrep
    obtain ⟨r1, r2, rfl, h2, h3⟩ := repL_split hrep
    have h4 := repL_len h2
    have h5 := repL_len h3
    rw [List.length_reverse] at h4
    refine ⟨r1, r2, h1, hA0, hA1, hA, hrl, ?_, ?_, h2, repL_one' h3⟩
    · rw [List.take_left' h4]
    · rw [List.drop_left' h4, List.take_of_length_le (by rw [h5]; simp)]
/-- The last two of a row. -/
theorem StkR.last2 {g gk : Nat → Option Blk} {lo n A : Nat} {sv : AV} {x y : NodeM} {t : List NodeM} {r : List AV} (h : StkR g gk lo n A sv (y :: x :: t) r) : ∃ r0 cx cy, sv = .slq A 0 (t.length + 1 + 1) 0 ∧ lo ≤ A ∧ A < n ∧ g A = some (.cells r true 4) ∧ r.length = (t.length + 1 + 1) * 4 ∧
    r.take (t.length * 4) = r0 ∧ (r.drop (t.length * 4)).take 4 = cx ∧ (r.drop ((t.length + 1) * 4)).take 4 = cy ∧ repL gk n t.reverse r0 ∧ repN gk n x cx ∧ repN gk n y cy := by
  obtain ⟨r0, cy, h1, h2, h3, h4, h5, h6, h7, h8, h9⟩ := h.last
  rw [List.reverse_cons] at h8
  obtain ⟨r1, r2, rfl, k2, k3⟩ := repL_split h8
  have k4 := repL_len k2
  have k5 := repL_len k3
  rw [List.length_reverse] at k4
  have k6 : r = (r1 ++ r2) ++ r.drop ((t.length + 1) * 4) := by
    have := List.take_append_drop ((t.length + 1) * 4) r
    have h6' : r.take ((t.length + 1) * 4) = r1 ++ r2 := h6
    rw [h6'] at this
    exact this.symm
  refine ⟨r1, r2, cy, h1, h2, h3, h4, h5, ?_, ?_, h7, k2, repL_one' k3, h9⟩
  · rw [k6, List.append_assoc, List.take_left' k4]
  · rw [k6, List.append_assoc, List.drop_left' k4, List.take_left' (by rw [k5]; simp)]
/-- One step: the formulas that stand, the last one first. -/
def stepG (o : Nat) (kN kI kO : Int) (l : List NodeM) : List NodeM :=
  if o = 5 ∨ o = 6 ∨ o = 10 ∨ o = 14 then match l with | y :: x :: t => .mk o 0 0 [x, y] :: t | l => .mk 1 kN 0 [] :: l
  else if 4 ≤ o then match l with | x :: t => .mk o 0 0 [x] :: t | [] => [.mk 1 kN 0 []]
  else if o = 2 then .mk 2 kI 0 [] :: l
  else if o = 3 then .mk 3 kI kO [] :: l
  else if o = 0 then .mk 0 0 0 [] :: l
  else .mk 1 kN 0 [] :: l
def stepF (N I O c : Nat) (l : List NodeM) : List NodeM := stepG (c % 15) ((c / 15 % N : Nat) : Int) ((c / 15 % I : Nat) : Int) ((c / 15 / 3 % O : Nat) : Int) l
def ofS (N I O : Nat) : List Nat → List NodeM → List NodeM
  | [], l => l
  | c :: cs, l => ofS N I O cs (stepF N I O c l)
def topN : List NodeM → NodeM
  | x :: _ => x
  | [] => .mk 0 0 0 []
/-- The formula. -/
def ofF (st inp out : Nat) (codes : List Nat) : NodeM := topN (ofS (1 + st % 6) (1 + inp % 3) (1 + out % 3) (codes.take 12) [])
end Go.Ai
end

section
namespace Go.Ai
set_option maxRecDepth 10000
/-- What stands on the stack: each formula is valid, and their sizes add up. -/
def StkOK (st inp out : Int) (m : Nat) (l : List NodeM) : Prop := (∀ x ∈ l, validM st inp out x = true) ∧ sizeL l ≤ m
theorem valid_mk {st inp out : Int} {o : Nat} {a b : Int} {l : List NodeM} (h1 : o < 15) (h2 : l.length = subsM o) (h3 : 0 ≤ a) (h4 : 0 ≤ b) (h5 : a < if o = 1 then st else if o = 2 ∨ o = 3 then inp else 1) (h6 : b < if o = 3 then out else 1)
    (h7 : ∀ x ∈ l, validM st inp out x = true) : validM st inp out (.mk o a b l) = true := by
  have h8 : validL st inp out l = true := by
    clear h2 h3 h4 h5 h6 h1
    induction l with
    | nil => rfl
    | cons x l ih =>
      unfold validL
      rw [h7 x (List.mem_cons_self ..), ih (fun y hy => h7 y (List.mem_cons_of_mem _ hy))]
      rfl
  unfold validM
  simp only [Bool.and_eq_true, decide_eq_true_eq]
  exact ⟨h1, h2, h3, h4, h5, h6, h8⟩
theorem stepF_ok {N I O : Nat} (hN : 0 < N) (hI : 0 < I) (hO : 0 < O) (c m : Nat) {l : List NodeM} (h : StkOK N I O m l) : StkOK N I O (m + 1) (stepF N I O c l) := by
  have ho : c % 15 < 15 := Nat.mod_lt _ (by omega)
  have kN := Nat.mod_lt (c / 15) hN
  have kI := Nat.mod_lt (c / 15) hI
  have kO := Nat.mod_lt (c / 15 / 3) hO
  have h1 : validM N I O (.mk 1 ((c / 15 % N : Nat) : Int) 0 []) = true := valid_mk (by omega) rfl (by omega) (by omega) (by rw [if_pos rfl]; exact Int.ofNat_lt.2 kN) (by rw [if_neg (by decide)]; decide) (by simp)
  have push : ∀ {x : NodeM} {t : List NodeM}, validM N I O x = true → sizeN x + sizeL t ≤ m + 1 → (∀ y ∈ t, y ∈ l) → StkOK N I O (m + 1) (x :: t) := fun {x t} hx hs ht =>
    ⟨fun y hy => by
      rcases List.mem_cons.1 hy with rfl | hy
      · exact hx
      · exact h.1 y (ht y hy), by unfold sizeL; exact hs⟩
  have hsz := h.2
  unfold stepF stepG
  split
  · rename_i hb
    have hsub : subsM (c % 15) = 2 := by unfold subsM; rw [if_neg (by omega)]; rw [if_pos hb]
    split
    · rename_i y x t
      simp only [sizeL] at hsz
      refine push (valid_mk ho (by rw [hsub]; rfl) (by omega) (by omega) ?_ ?_ fun z hz => ?_) ?_ (fun z hz => by simp [hz])
      · rw [if_neg (by omega), if_neg (by omega)]; omega
      · rw [if_neg (by omega)]; omega
      · rcases List.mem_cons.1 hz with rfl | hz
        · exact h.1 _ (by simp)
        · rcases List.mem_cons.1 hz with rfl | hz
          · exact h.1 _ (by simp)
          · cases hz
      · simp only [sizeN, sizeL]; omega
    · exact push h1 (by simp only [sizeN, sizeL]; omega) (fun _ hy => hy)
  split
  · rename_i hb h4
    have hsub : subsM (c % 15) = 1 := by unfold subsM; rw [if_neg (by omega), if_neg hb]
    split
    · rename_i x t
      simp only [sizeL] at hsz
      refine push (valid_mk ho (by rw [hsub]; rfl) (by omega) (by omega) ?_ ?_ fun z hz => ?_) ?_ (fun z hz => by simp [hz])
      · rw [if_neg (by omega), if_neg (by omega)]; omega
      · rw [if_neg (by omega)]; omega
      · rcases List.mem_cons.1 hz with rfl | hz
        · exact h.1 _ (by simp)
        · cases hz
      · simp only [sizeN, sizeL]; omega
    · exact push h1 (by simp only [sizeN, sizeL]; omega) (fun _ hy => by cases hy)
  have leaf : ∀ {x : NodeM}, validM N I O x = true → sizeN x = 1 → StkOK N I O (m + 1) (x :: l) := fun hx h1 => push hx (by omega) (fun _ hy => hy)
  split
  · exact leaf (valid_mk (by omega) rfl (by omega) (by omega) (by rw [if_neg (by decide), if_pos (by decide)]; exact Int.ofNat_lt.2 kI) (by rw [if_neg (by decide)]; decide) (by simp)) rfl
  split
  · exact leaf (valid_mk (by omega) rfl (by omega) (by omega) (by rw [if_neg (by decide), if_pos (by decide)]; exact Int.ofNat_lt.2 kI) (by rw [if_pos rfl]; exact Int.ofNat_lt.2 kO) (by simp)) rfl
  split
  · exact leaf (valid_mk (by omega) rfl (by omega) (by omega) (by rw [if_neg (by decide), if_neg (by decide)]; decide) (by rw [if_neg (by decide)]; decide) (by simp)) rfl
  · exact leaf h1 rfl
theorem ofS_ok {N I O : Nat} (hN : 0 < N) (hI : 0 < I) (hO : 0 < O) : ∀ (cs : List Nat) (m : Nat) {l : List NodeM}, StkOK N I O m l → StkOK N I O (m + cs.length) (ofS N I O cs l)
  | [], m, l, h => h
  | c :: cs, m, l, h => by
    have := ofS_ok hN hI hO cs (m + 1) (stepF_ok hN hI hO c m h)
    unfold ofS
    rw [List.length_cons, show m + (cs.length + 1) = m + 1 + cs.length by omega]
    exact this
theorem ofF_ok (st inp out : Nat) (codes : List Nat) : validM ((1 + st % 6 : Nat) : Int) ((1 + inp % 3 : Nat) : Int) ((1 + out % 3 : Nat) : Int) (ofF st inp out codes) = true ∧ sizeN (ofF st inp out codes) ≤ 12 := by
  have h := ofS_ok (N := 1 + st % 6) (I := 1 + inp % 3) (O := 1 + out % 3) (by omega) (by omega) (by omega) (codes.take 12) 0 (l := []) ⟨fun _ h => (by cases h), Nat.le_refl _⟩
  unfold ofF
  cases hl : ofS (1 + st % 6) (1 + inp % 3) (1 + out % 3) (codes.take 12) [] with
  | nil => exact ⟨valid_mk (by omega) rfl (by omega) (by omega) (by rw [if_neg (by decide), if_neg (by decide)]; decide) (by rw [if_neg (by decide)]; decide) (by simp), by show sizeN (.mk 0 0 0 []) ≤ 12; decide⟩
  | cons x l =>
    rw [hl] at h
    refine ⟨h.1 x (List.mem_cons_self ..), ?_⟩
    have h2 := h.2
    rw [List.length_take] at h2
    unfold sizeL at h2
    show sizeN x ≤ 12
    omega
mutual
theorem valid_mono {a b c a' b' c' : Int} (h1 : a ≤ a') (h2 : b ≤ b') (h3 : c ≤ c') : ∀ (x : NodeM), validM a b c x = true → validM a' b' c' x = true
  | .mk op p q l => fun h => by
    unfold validM at h ⊢
    simp only [Bool.and_eq_true, decide_eq_true_eq] at h ⊢
    obtain ⟨e1, e2, e3, e4, e5, e6, e7⟩ := h
    refine ⟨e1, e2, e3, e4, ?_, ?_, validL_mono h1 h2 h3 l e7⟩
    · split at e5
      · rw [if_pos (by assumption)]; omega
      · rename_i hn
        rw [if_neg hn]
        split at e5
        · rw [if_pos (by assumption)]; omega
        · rw [if_neg (by assumption)]; omega
    · split at e6
      · rw [if_pos (by assumption)]; omega
      · rw [if_neg (by assumption)]; omega
theorem validL_mono {a b c a' b' c' : Int} (h1 : a ≤ a') (h2 : b ≤ b') (h3 : c ≤ c') : ∀ (l : List NodeM), validL a b c l = true → validL a' b' c' l = true
  | [], h => h
  | x :: l, h => by
    unfold validL at h ⊢
    rw [Bool.and_eq_true] at h ⊢
    exact ⟨valid_mono h1 h2 h3 x h.1, validL_mono h1 h2 h3 l h.2⟩
end
end Go.Ai
end
