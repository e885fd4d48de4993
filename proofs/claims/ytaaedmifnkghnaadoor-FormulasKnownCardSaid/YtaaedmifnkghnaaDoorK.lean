/- THE CLOSED STATEMENT FormulasKnown of chapter 33 holds as its card says it: the call returns true. No condition. -/
import Derived.Test.YtaaedmifnkghnaaDoorCards
import Derived.Test.YtaaedmifnkghnaaDoorTie
import Derived.WalkKit
import Derived.OpenShut
import Derived.Deep.DeepHandedRow
import Derived.LaidOnce
import Derived.Test.YtaaedmifnkghnaaDoorA4
import Derived.Test.YtaaedmifnkghnaaDoorB0
import Derived.Test.YtaaedmifnkghnaaDoorB13
set_option linter.all false
set_option linter.deprecated false
section
namespace Go.Proofs.YtaaedmifnkghnaaDoor
open Go Go.Ai Go.ChangeShapes Go.WideShapes Go.ChangeAt Go.RowKit

theorem lay0 : layG Tryd.prog Rows.formulasKnownRow.laid (mem0 Tryd.prog) = some H0 := by kernel_rfl
theorem own : ownKnob Tryd.prog.godebug = none := by kernel_rfl
theorem door_met (os : Os) (args : Array Value) : laidMetH Tryd.prog Rows.formulasKnownRow.laid ((World.doorLaid Tryd.prog 200 os).forCall (fun _ _ => 0) ⟨#[], args, []⟩).memory :=
  laidMetH_of_parts3 (fuel := 8) (laidMet_of_run' 8 (by kernel_rfl) (by kernel_rfl)) (by kernel_rfl) (by kernel_rfl)
theorem kinds : (Rows.formulasKnownRow.laid.all fun x => x.2.handleName?.isNone || x.2.funcsIn?.isSome) = true := by kernel_rfl
theorem reads (os : Os) {H : Type} (enc : TypeId × Value → H) : ∃ places, DataW.whole enc Tryd.prog ((World.doorLaid Tryd.prog 200 os).forCall (fun _ _ => 0) ⟨#[], #[], []⟩).memory Tryd.f3.params.toList Rows.formulasKnownSpec.vars false (#[] : Array Value).toList 8 = some ([], [], places) :=
  ⟨[], by kernel_rfl⟩

set_option maxRecDepth 100000 in
theorem lifted {O : CallF} (hO : ∀ B, CallOK B Tryd.prog.globals.size Tryd.prog O) (hrun : retIs (.lit (.bool true)) (O 3 [] H0) = true) (os : Os) (started : os.Started) (H : Type) (enc : TypeId × Value → H) (F : Stop.Interp) :
    ReturnsInHanded {} Tryd.checked os 3 .any ((OpenSpec.ofChange Rows.formulasKnownSpec).preRow enc Tryd.prog Tryd.f3 Rows.formulasKnownRow.domain false Rows.formulasKnownRow.laid) (((OpenSpec.ofChange Rows.formulasKnownSpec).at F).post enc Tryd.prog Tryd.f3 false true false false) := by
  obtain ⟨places, hx⟩ := reads os enc
  refine returnsInHanded_of_row (C := Tryd.checked) (s := OpenSpec.ofChange Rows.formulasKnownSpec) own started (by kernel_rfl) Tryd.func3
    (witness_row_at (enc := enc) (C := Tryd.checked) false (World.doorLaid Tryd.prog 200 os) #[] rfl (by kernel_rfl) (by kernel_rfl) (by kernel_rfl)
      (OpenSpec.preRow_of_cond 8 hx (by kernel_rfl) (fun k hk => by cases hk) (by kernel_rfl) (door_met os #[]))) ?_
  intro W base args ds gs before hval hW _ _ _ hL _ _
  have hW' := hW
  obtain ⟨p, q, hA0, hV, rfl, hfz, hnd⟩ := hW
  have hA : DataW.TrodAll enc Tryd.prog W 0 (fun _ => true) true Tryd.f3.params.toList args.toList ds p := hA0
  rw [Tryd.params3] at hA
  obtain ⟨hargs, rfl, rfl⟩ := trodAll_nil hA
  obtain rfl : args = #[] := by cases args; simp_all
  obtain ⟨rfl, rfl⟩ := trodVars_none hV
  clear hA0
  refine (calls_true (W := W) hO kinds lay0 hrun hL).mono fun e W' ⟨he, hB⟩ => ?_
  subst he
  exact ⟨_, rfl, post_below (pa := []) (pv := []) hW' (fun _ _ _ => trodAll_cons_mk (shut_bool Tryd.underlying4 _) trodAll_mk0) (fun _ _ => trodAll_mk0) (fun _ _ => rfl) rfl
    hB (ok_one (by kernel_rfl) rfl (okWide_bool_mk Tryd.underlying4 _))⟩
theorem said {O : CallF} (hO : ∀ B, CallOK B Tryd.prog.globals.size Tryd.prog O) (hrun : retIs (.lit (.bool true)) (O 3 [] H0) = true) : Rows.FormulasKnownSaid :=
  OpenClaim.holds_of_cond 3 Tryd.f3 rfl rfl rfl rfl rfl rfl rfl ⟨rfl, rfl, rfl, rfl, rfl⟩ rfl rfl rfl rfl rfl (by kernel_rfl) Tryd.func3 (by kernel_rfl)
    (of_decide_eq_true (by kernel_rfl)) (by unfold Func.isWrapper; first | (rw [if_pos (by decide +kernel)]; kernel_rfl) | (rw [if_neg (by decide +kernel)]; exact ⟨rfl, rfl⟩))
    (fun os started H enc _ F => by rw [OpenClaim.pre_eq_preRow]; exact lifted hO hrun os started H enc F)
theorem plain (f : FuncId) (fn : Func) (hf : Tryd.pinned.checked.prog.funcNamed "gauntlet/gauntletlaw33.FormulasKnown" = some f) (hfn : Tryd.pinned.checked.prog.funcs[f]? = some fn) :
    true = Tryd.pinned.checked.prog.looks [] ∧ ∀ (j : Nat) t, fn.params[j]? = some t → Tryd.pinned.checked.prog.wantsStandIn t = false := by
  obtain rfl : f = 3 := Option.some.inj ((show Tryd.prog.funcNamed "gauntlet/gauntletlaw33.FormulasKnown" = some 3 by kernel_rfl).symm.trans hf) |>.symm
  obtain rfl : fn = Tryd.f3 := (Option.some.inj (Tryd.func3.symm.trans hfn)).symm
  refine ⟨by kernel_rfl, fun j t ht => ?_⟩
  rw [Tryd.params3] at ht
  simp at ht
theorem card {O : CallF} (hO : ∀ B, CallOK B Tryd.prog.globals.size Tryd.prog O) (hrun : retIs (.lit (.bool true)) (O 3 [] H0) = true) : Rows.FormulasKnownCardSaid :=
  Claim7.holds_tied_plain_at .later [] _ _ _ _ (said hO hrun) (fun _ h => by cases h) (by kernel_rfl) (fun _ h => by cases h) formulasKnown_row_tie rfl ⟨rfl, rfl⟩ (by kernel_rfl) rfl plain (by kernel_rfl)
end Go.Proofs.YtaaedmifnkghnaaDoor
end

section
namespace Go.Proofs.YtaaedmifnkghnaaDoor
open Go Go.Ai
theorem formulasKnown_holds : Rows.FormulasKnownCardSaid := card (O := Otop) (fun B => hG0 ▸ Otop_ok B) top_run
end Go.Proofs.YtaaedmifnkghnaaDoor
end
