/- GuardsLaws OF CHAPTER 28 HOLDS as its card says it: for every two expressions and all values the call returns true, and the arguments read as before. No condition. -/
import Derived.Test.YtfhkfifjbgcpiaaDoorD2
import Derived.Test.YtfhkfifjbgcpiaaDoorK4
import Derived.Test.YtfhkfifjbgcpiaaDoorK1
set_option linter.all false
set_option linter.deprecated false
section
namespace Go.Ai
open Go.Proofs Go.ChangeShapes Go.WideShapes Go.ChangeAt Go.RowKit
set_option maxRecDepth 10000
variable {H : Type} {enc : TypeId × Value → H} {w : World} {base : Nat}
theorem calls_laws (hl : retIs (.lit (.bool true)) (callF Tryd.prog O5 10000 16 [] H0) = true) {W : World} {v0 v1 v2 : Value} {d0 d1 d2 : DataW H} {p0 p1 p2 : List MemPlace} {base : Nat} (hL : laidMetH Tryd.prog YtfhkfifjbgcpiaaDoor.Rows.guardsKnownRow.laid W)
    (h0 : DataW.Trod enc Tryd.prog W 0 (fun _ => true) true 25 v0 d0 p0) (h1 : DataW.Trod enc Tryd.prog W 0 (fun _ => true) true 25 v1 d1 p1) (h2 : DataW.Trod enc Tryd.prog W 0 (fun _ => true) true 43 v2 d2 p2) (k0 : Value.okWide Tryd.prog W .any base 25 v0) (k1 : Value.okWide Tryd.prog W .any base 25 v1) (k2 : Value.okWide Tryd.prog W .any base 43 v2) :
    Calls Tryd.prog 5 #[v0, v1, v2] W fun e W' => e = .returned (.bool true) ∧ Below W.heap.size W W' := by
  obtain ⟨cs, s1, s2, rfl, e1, i1, i2⟩ := read_E h0 k0
  obtain ⟨ct, s3, s4, rfl, e3, i3, i4⟩ := read_E h1 k1
  obtain ⟨cv, a, b, c, rfl, e2, ha, hb, hc⟩ := read_V h2 k2
  obtain ⟨ρ, s, hno⟩ := start_sound hL YtfhkfifjbgcpiaaDoor.kinds lay0
  have s' : Sim W.heap.size 6 ρ ⟨.fn H0.get, 8⟩ W := by rw [← hG6] at s; exact s.toFn
  have hno' : NoOwn ⟨.fn H0.get, 8⟩ := fun a x hx => hno a x hx
  obtain ⟨ρ1, g1, n1, av1, z1, t1, t2, t3, t4, t5, t6, t7, t8, t9⟩ := name_sl s' hno' i1
  obtain ⟨ρ2, g2, n2, av2, z2, u1, u2, u3, u4, u5, u6, u7, u8, u9⟩ := name_sl t1 t2 i2
  obtain ⟨ρ3, g3, n3, av3, z3, x1, x2, x3, x4, x5, x6, x7, x8, x9⟩ := name_sl u1 u2 i3
  obtain ⟨ρ4, g4, n4, av4, z4, y1, y2, y3, y4, y5, y6, y7, y8, y9⟩ := name_sl x1 x2 i4
  rw [u8_cells t9] at t8
  rw [u8_cells x9] at x8
  have hw := guardsLaws_w hl (z1.map Int.toNat) z2 (z3.map Int.toNat) z4 a b c g4 n4 av1 av2 av3 av4 (fun i x hx => ?_) (by omega) ?_ ?_ ?_ (fun z hz => wf32 (u9 z hz)) t5 u5 ?_ ?_ ?_ (fun z hz => wf32 (y9 z hz)) x5 y5 (wf32 ha) (wf32 hb) (wf32 hc)
  · refine (hw W.heap.size ρ4 #[.agg cs, .agg ct, .agg cv] W y1 ?_).mono ?_
    · refine ⟨_, _, rfl, ⟨cs, rfl, ?_⟩, _, _, rfl, ⟨ct, rfl, ?_⟩, _, _, rfl, ⟨cv, rfl, ?_⟩, rfl⟩
      · rw [e1]; exact ⟨s1, _, rfl, ((t3.mono u4).mono x4).mono y4, s2, _, rfl, (u3.mono x4).mono y4, rfl⟩
      · rw [e3]; exact ⟨s3, _, rfl, x3.mono y4, s4, _, rfl, y3, rfl⟩
      · rw [e2]; exact ⟨_, _, rfl, rfl, _, _, rfl, rfl, _, _, rfl, rfl, rfl⟩
    · rintro e W' ⟨r, ⟨H', rfl⟩, hcp⟩
      cases e with
      | returned u => obtain ⟨ρ', q1, q2, q3, q4⟩ := hcp; exact ⟨congrArg _ q3, q1.below⟩
      | _ => exact hcp.elim
  · have h8 : i < 8 := (List.getElem?_eq_some_iff.1 hx).1
    rw [y7 i (by omega), x7 i (by omega), u7 i (by omega), t7 i h8]
    have h9 := holds_spec (H := H0) (l := blks0) (i := 0) (by kernel_rfl) i x hx
    rwa [Nat.zero_add] at h9
  · rw [List.length_map]
    exact t8.mono (by omega) (fun a ha => by rw [y7 a (by omega), x7 a (by omega), u7 a ha])
  · intro q hq
    obtain ⟨z, hz, rfl⟩ := List.mem_map.1 hq
    have := wf8 (t9 z hz)
    omega
  · exact u8.mono (by omega) (fun a ha => by rw [y7 a (by omega), x7 a ha])
  · rw [List.length_map]
    exact x8.mono y6 y7
  · intro q hq
    obtain ⟨z, hz, rfl⟩ := List.mem_map.1 hq
    have := wf8 (x9 z hz)
    omega
  · exact y8
end Go.Ai
namespace Go.Proofs.YtfhkfifjbgcpiaaDoor
open Go Go.Ai Go.ChangeShapes Go.WideShapes Go.ChangeAt Go.RowKit
theorem readsL (os : Os) {H : Type} (enc : TypeId × Value → H) : ∃ places, DataW.whole enc Tryd.prog ((World.doorLaid Tryd.prog 200 os).forCall (fun _ _ => 0) ⟨#[], #[.agg #[.slice none 0 0, .slice none 0 0], .agg #[.slice none 0 0, .slice none 0 0], .agg #[.int .i32 0, .int .i32 0, .int .i32 0]], []⟩).memory Tryd.f5.params.toList Rows.guardsLawsSpec.vars false (#[.agg #[.slice none 0 0, .slice none 0 0], .agg #[.slice none 0 0, .slice none 0 0], .agg #[.int .i32 0, .int .i32 0, .int .i32 0]] : Array Value).toList 8 = some ([.agg [.nil, .nil], .agg [.nil, .nil], .agg [.lit (.int .i32 0), .lit (.int .i32 0), .lit (.int .i32 0)]], [], places) :=
  ⟨[], by kernel_rfl⟩
theorem door_metL (os : Os) (args : Array Value) : laidMetH Tryd.prog Rows.guardsLawsRow.laid ((World.doorLaid Tryd.prog 200 os).forCall (fun _ _ => 0) ⟨#[], args, []⟩).memory := door_met os args
set_option maxRecDepth 100000 in
theorem liftedL (hl : retIs (.lit (.bool true)) (callF Tryd.prog O5 10000 16 [] H0) = true) (os : Os) (started : os.Started) (H : Type) (enc : TypeId × Value → H) (F : Stop.Interp) :
    ReturnsInHanded {} Tryd.checked os 5 .any ((OpenSpec.ofChange Rows.guardsLawsSpec).preRow enc Tryd.prog Tryd.f5 Rows.guardsLawsRow.domain false Rows.guardsLawsRow.laid) (((OpenSpec.ofChange Rows.guardsLawsSpec).at F).post enc Tryd.prog Tryd.f5 false true false false) := by
  obtain ⟨places, hx⟩ := readsL os enc
  refine returnsInHanded_of_row (C := Tryd.checked) (s := OpenSpec.ofChange Rows.guardsLawsSpec) own started (by kernel_rfl) Tryd.func5
    (witness_row_at (enc := enc) (C := Tryd.checked) false (World.doorLaid Tryd.prog 200 os) #[.agg #[.slice none 0 0, .slice none 0 0], .agg #[.slice none 0 0, .slice none 0 0], .agg #[.int .i32 0, .int .i32 0, .int .i32 0]] rfl (by kernel_rfl) (by kernel_rfl) (by kernel_rfl)
      (OpenSpec.preRow_of_cond 8 hx (by kernel_rfl) (fun k hk => by cases hk) (by kernel_rfl) (door_metL os _))) ?_
  intro W base args ds gs before hval0 hW _ _ _ hL _ _
  have hval : ∀ (j : Nat) t v, Tryd.f5.params[j]? = some t → args[j]? = some v → Value.okWide Tryd.prog W .any base t v := hval0
  have hW' := hW
  obtain ⟨p, q, hA0, hV, rfl, hfz, hnd⟩ := hW
  have hA : DataW.TrodAll enc Tryd.prog W 0 (fun _ => true) true Tryd.f5.params.toList args.toList ds p := hA0
  rw [Tryd.params5] at hA hval
  obtain ⟨v0, v1, v2, d0, d1, d2, p0, p1, p2, rfl, rfl, rfl, h0, h1, h2⟩ := trodAll_three hA
  obtain ⟨rfl, rfl⟩ := trodVars_none hV
  clear hA0
  have hlt : ∀ x ∈ p0 ++ (p1 ++ p2), x.block < W.heap.size := fun x hx => by
    have := hW'.lt x (by simpa using hx)
    exact this
  refine (calls_laws (enc := enc) hl hL h0 h1 h2 (hval 0 25 v0 rfl rfl) (hval 1 25 v1 rfl rfl) (hval 2 43 v2 rfl rfl)).mono fun e W' ⟨he, hB⟩ => ?_
  subst he
  simp only [List.append_nil, List.append_assoc] at hW'
  refine ⟨_, rfl, post_below (pa := p0 ++ (p1 ++ p2)) (pv := []) hW' (fun _ _ _ => trodAll_cons_mk (shut_bool Tryd.underlying4 _) trodAll_mk0) (fun sp hsp => ?_) (fun _ _ => rfl) (by simp) hB (ok_one (by kernel_rfl) rfl (okWide_bool_mk Tryd.underlying4 _))⟩
  have g0 := WideElems.Trod_stays (sp' := sp) laidOut (by kernel_rfl) (of_decide_eq_true (by kernel_rfl)) h0 (fun x hx => hB.same (hlt x (List.mem_append_left _ hx))) (fun x hx => hsp x (List.mem_append_left _ hx))
  have g1 := WideElems.Trod_stays (sp' := sp) laidOut (by kernel_rfl) (of_decide_eq_true (by kernel_rfl)) h1 (fun x hx => hB.same (hlt x (List.mem_append_right _ (List.mem_append_left _ hx)))) (fun x hx => hsp x (List.mem_append_right _ (List.mem_append_left _ hx)))
  have g2 := WideElems.Trod_stays (sp' := sp) laidOut (by kernel_rfl) (of_decide_eq_true (by kernel_rfl)) h2 (fun x hx => hB.same (hlt x (List.mem_append_right _ (List.mem_append_right _ hx)))) (fun x hx => hsp x (List.mem_append_right _ (List.mem_append_right _ hx)))
  exact trodAll_mk3 g0 g1 g2
theorem saidL (hl : retIs (.lit (.bool true)) (callF Tryd.prog O5 10000 16 [] H0) = true) : Rows.GuardsLawsSaid :=
  OpenClaim.holds_of_cond 5 Tryd.f5 rfl rfl rfl rfl rfl rfl rfl ⟨rfl, rfl, rfl, rfl, rfl⟩ rfl rfl rfl rfl rfl (by kernel_rfl) Tryd.func5 (by kernel_rfl)
    (of_decide_eq_true (by kernel_rfl)) (by unfold Func.isWrapper; first | (rw [if_pos (by decide +kernel)]; kernel_rfl) | (rw [if_neg (by decide +kernel)]; exact ⟨rfl, rfl⟩))
    (fun os started H enc _ F => by rw [OpenClaim.pre_eq_preRow]; exact liftedL hl os started H enc F)
theorem plainL (f : FuncId) (fn : Func) (hf : Tryd.pinned.checked.prog.funcNamed "gauntlet/gauntletlaw28.GuardsLaws" = some f) (hfn : Tryd.pinned.checked.prog.funcs[f]? = some fn) :
    true = Tryd.pinned.checked.prog.looks [] ∧ ∀ (j : Nat) t, fn.params[j]? = some t → Tryd.pinned.checked.prog.wantsStandIn t = false := by
  obtain rfl : f = 5 := Option.some.inj ((show Tryd.prog.funcNamed "gauntlet/gauntletlaw28.GuardsLaws" = some 5 by kernel_rfl).symm.trans hf) |>.symm
  obtain rfl : fn = Tryd.f5 := (Option.some.inj (Tryd.func5.symm.trans hfn)).symm
  refine ⟨by kernel_rfl, fun j t ht => ?_⟩
  rw [Tryd.params5] at ht
  have hm : t ∈ [25, 25, 43] := by simpa using Array.mem_of_getElem? ht
  have hall : ([25, 25, 43].all fun u => !Tryd.prog.wantsStandIn u) = true := by kernel_rfl
  exact (show Tryd.prog.wantsStandIn t = false by simpa using List.all_eq_true.1 hall t hm)
theorem cardL (hl : retIs (.lit (.bool true)) (callF Tryd.prog O5 10000 16 [] H0) = true) : Rows.GuardsLawsCardSaid :=
  Claim7.holds_tied_plain_at .later [] _ _ _ _ (saidL hl) (fun _ h => by cases h) (by kernel_rfl) (fun _ h => by cases h) guardsLaws_row_tie rfl ⟨rfl, rfl⟩ (by kernel_rfl) rfl plainL (by kernel_rfl)
end Go.Proofs.YtfhkfifjbgcpiaaDoor
end

section
namespace Go.Proofs.YtfhkfifjbgcpiaaDoor
open Go Go.Ai
theorem guardsLaws_holds : Rows.GuardsLawsCardSaid := cardL lives_run
end Go.Proofs.YtfhkfifjbgcpiaaDoor
end
