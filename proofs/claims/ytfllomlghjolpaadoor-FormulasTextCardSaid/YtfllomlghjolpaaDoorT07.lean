/- A small verified interpreter over names, its proofs, and what was proved with it. No condition. -/
import Derived.ProofKit
import Derived.Deep.DeepHandedRow
import Derived.Test.YtfllomlghjolpaaDoorT06
import Derived.Test.YtfllomlghjolpaaDoorT03
import Derived.Test.YtfllomlghjolpaaDoorT05
set_option linter.all false
set_option linter.deprecated false
section
namespace Go.Ai
open Go.ChangeShapes Go.WideShapes Go.ChangeAt Go.RowKit
variable {H : Type} {enc : TypeId × Value → H} {P : Program}

/-- Behind a call that left all as it was. -/
theorem post_below {f : Func} {s : ChangeSpec} {apart fresh handsOn again : Bool} {W W' : World} {args : Array Value} {v : Value} {ds gs : List (DataW H)} {before pa pv : List MemPlace}
    (hW : DataW.Whole enc P f.params.toList s.vars apart W args.toList ds gs before)
    (hres : ∀ (b : Nat) (sp : Nat → Bool) (hd : Bool), DataW.TrodAll enc P W' b sp hd f.resultTypes.toList (v.resultList f.resultTypes.size) (s.fn H (ds ++ gs)).results [])
    (hargs : ∀ sp : Nat → Bool, (∀ p ∈ before, sp p.block = true) → DataW.TrodAll enc P W' 0 sp true f.params.toList args.toList (s.fn H (ds ++ gs)).args pa)
    (hvars : ∀ sp : Nat → Bool, (∀ p ∈ before, sp p.block = true) → DataW.TrodVars enc P W' sp s.vars (s.fn H (ds ++ gs)).vars pv)
    (hps : before = pa ++ pv) (hB : Below W.heap.size W W')
    (hok : ∀ (j : Nat) (t : TypeId) (r : Value), f.resultTypes[j]? = some t → (v.resultList f.resultTypes.size)[j]? = some r → Value.okWide P W' .any 0 t r) :
    s.post enc P f apart fresh handsOn again W args v W' := by
  have hlt : ∀ p ∈ before, p.block < W.heap.size := fun p hp => hW.lt p hp
  have hold : ∀ p ∈ before, (fun b => decide (b < W.heap.size)) p.block = true := fun p hp => by simpa using hlt p hp
  refine ⟨ds, gs, before, [], pa, pv, hW, hres _ _ _, hargs _ hold, hvars _ hold, World.keptBut_mono (fun p hp => ⟨hp, ?_⟩) (hB.frame (· ∈ before)), fun _ => ?_⟩
  · rw [hps, List.mem_append] at hp
    exact Or.inr hp
  · obtain ⟨_, _, _, _, _, hz, hn⟩ := hW
    refine ⟨hok, _, _, ([] ++ pa) ++ pv, ⟨[] ++ pa, pv, trodAll_append (hargs _ (fun _ _ => rfl)) (hres _ _ _), hvars _ (fun _ _ => rfl), rfl, ?_, ?_⟩, ?_⟩
    · intro b off hp
      have hp' : MemPlace.cell b off ∈ before := by rw [hps]; simpa using hp
      rw [hB.frozen (p := ⟨b, off, none⟩) (hlt _ hp')]
      exact hz b off hp'
    · intro ha
      have := hn ha
      rw [hps] at this
      simpa using this
    · intro p hp _
      rw [hps]
      simpa using hp

end Go.Ai
end

section
namespace Go.Ai
open Go.ChangeShapes Go.WideShapes Go.ChangeAt Go.RowKit
variable {B G : Nat} {P : Program} {ρ : Rn} {w : World}

theorem vrs_lits {ρ : Rn} {k : IntKind} : ∀ (zs : List Int), VRs ρ (zs.map fun z => .lit (.int k z)) (zs.map fun z => .int k z)
  | [] => rfl
  | z :: zs => ⟨.int k z, _, rfl, rfl, vrs_lits zs⟩
/-- A slice of numbers gets a name. -/
theorem name_ints {k : IntKind} {g : Nat → Option Blk} {n : Nat} {v : Value} (s : Sim B G ρ ⟨.fn g, n⟩ w) (hno : NoOwn ⟨.fn g, n⟩)
    (h : v = .slice none 0 0 ∨ ∃ (a : Addr) (len cap : Nat) (zs : List Int), v = .slice (some a) len cap ∧ len ≤ cap ∧ zs.length = cap ∧ ∀ i, i < zs.length → w.cell? (a.add i) = some (.int k (zs.getD i 0))) :
    ∃ (ρ' : Rn) (g' : Nat → Option Blk) (n' : Nat) (av : AV) (zs : List Int), Sim B G ρ' ⟨.fn g', n'⟩ w ∧ NoOwn ⟨.fn g', n'⟩ ∧ VR ρ' av v ∧ Sub ρ ρ' ∧ oneC av = true ∧ n ≤ n' ∧ (∀ a, a < n → g' a = g a) ∧
      ((zs.length = 0 ∧ (av = .lit (.slice none 0 0) ∨ av = .es)) ∨ ∃ c, av = .sl n 0 zs.length c ∧ n < n' ∧ Row g' n 0 (zs.map fun z => .lit (.int k z))) ∧
      (v = .slice none 0 0 → zs = []) ∧ (∀ (a : Addr) (len cap : Nat) (ys : List Int), v = .slice (some a) len cap → (∀ i, i < ys.length → w.cell? (a.add i) = some (.int k (ys.getD i 0))) → ys.length = cap → len ≤ cap → zs = ys.take len) := by
  rcases h with rfl | ⟨a, len, cap, zs, rfl, hlen, hz, hc⟩
  · exact ⟨ρ, g, n, .lit (.slice none 0 0), [], s, hno, rfl, fun _ _ h => h, rfl, Nat.le_refl _, fun _ _ => rfl, .inl ⟨rfl, .inl rfl⟩, fun _ => rfl, fun a len cap ys h => by cases h⟩
  · have hys : ∀ ys : List Int, (∀ i, i < ys.length → w.cell? (a.add i) = some (.int k (ys.getD i 0))) → ys.length = cap → ys = zs := by
      intro ys h1 h2
      refine List.ext_getElem (by omega) fun i h3 h4 => ?_
      have e := (h1 i h3).symm.trans (hc i h4)
      simp only [Option.some.injEq, Value.int.injEq, true_and] at e
      rw [List.getD_eq_getElem?_getD, List.getD_eq_getElem?_getD, List.getElem?_eq_getElem h3, List.getElem?_eq_getElem h4] at e
      exact e
    by_cases h0 : cap = 0
    · subst h0
      have hl0 : len = 0 := by omega
      subst hl0
      exact ⟨ρ, g, n, .es, [], s, hno, ⟨a, 0, rfl⟩, fun _ _ h => h, rfl, Nat.le_refl _, fun _ _ => rfl, .inl ⟨rfl, .inr rfl⟩, fun _ => rfl, fun a' len' cap' ys h1 h2 h3 h4 => by
        cases h1; rw [List.take_zero]⟩
    · obtain ⟨b, o, spt⟩ := a
      have hsp : spt = none := by
        have h1 := hc 0 (by omega)
        have h2 : (Addr.mk b o spt).add 0 = ⟨b, o, spt⟩ := by unfold Addr.add; rw [if_pos rfl]
        rw [h2] at h1
        exact spot_of_cell h1
      subst hsp
      have hbr : ∀ ρ' : Rn, BR B ρ' (.cells (zs.map fun z => .lit (.int k z)) false 0) b o 0 w := fun ρ' =>
        br_of_cells (vrs_lits zs) (by intro e; have := congrArg List.length e; simp at this; subst this; simp at hz; omega) (fun i hi => by
          have hi' : i < zs.length := by simpa using hi
          have h1 := hc i hi'
          rw [Addr.add_eq] at h1
          rw [h1, List.getElem?_map, List.getElem?_eq_getElem hi', List.getD_eq_getElem?_getD, List.getElem?_eq_getElem hi']
          rfl)
      have s2 := s.see hno (x := .cells (zs.map fun z => .lit (.int k z)) false 0) (b := b) (o := o) (k := 0) rfl (hbr _)
      refine ⟨_, gput g n (some (.cells (zs.map fun z => .lit (.int k z)) false 0)), n + 1, .sl n 0 len cap, zs.take len, s2, hno.add rfl, ⟨b, o, 0, upd_same _ _ _, hlen, rfl⟩, sub_upd s.none, rfl, Nat.le_succ _, fun a ha => gput_lt ha, .inr ⟨cap, ?_, Nat.lt_succ_self _, ?_⟩, (fun h => by cases h), fun a' len' cap' ys h1 h2 h3 h4 => ?_⟩
      · rw [List.length_take, Nat.min_eq_left (by omega)]
      · refine ⟨zs.map fun z => .lit (.int k z), false, 0, if_pos rfl, ?_, ?_⟩
        · simp; omega
        · rw [List.drop_zero, List.length_map, ← List.map_take, List.length_take, Nat.min_eq_left (by omega)]
      · cases h1
        rw [hys ys h2 h3]
end Go.Ai
end
