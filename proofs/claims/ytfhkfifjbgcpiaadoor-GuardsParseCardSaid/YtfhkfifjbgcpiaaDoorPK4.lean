/- GuardsEval OF CHAPTER 28 HOLDS as its card says it: for every expression and all values the call returns true, and the arguments read as before. No condition. -/
import Derived.Test.YtfhkfifjbgcpiaaDoorCards
import Derived.Test.YtfhkfifjbgcpiaaDoorTie
import Derived.WalkKit
import Derived.OpenShut
import Derived.Deep.DeepHandedRow
import Derived.LaidOnce
import Derived.Test.YtfhkfifjbgcpiaaDoorPA4
import Derived.Test.YtfhkfifjbgcpiaaDoorPC1
import Derived.Test.YtfhkfifjbgcpiaaDoorPC6
import Derived.Test.YtfhkfifjbgcpiaaDoorPK1
set_option linter.all false
set_option linter.deprecated false
section
namespace Go.Proofs.YtfhkfifjbgcpiaaDoor
open Go Go.Ai Go.ChangeShapes Go.WideShapes Go.ChangeAt Go.RowKit
theorem own:ownKnob Tryd.prog.godebug=none:=by kernel_rfl
theorem door_met (os:Os) (args:Array Value) : laidMetH Tryd.prog Rows.guardsKnownRow.laid ((World.doorLaid Tryd.prog 200 os).forCall (fun _ _=>0) ⟨#[],args,[]⟩).memory :=
  laidMetH_of_parts3 (fuel:=8) (laidMet_of_run' 8 (by kernel_rfl) (by kernel_rfl)) (by kernel_rfl) (by kernel_rfl)
theorem kinds:(Rows.guardsKnownRow.laid.all fun x=>x.2.handleName?.isNone || x.2.funcsIn?.isSome)=true:=by kernel_rfl
theorem reads (os:Os) {H:Type} (enc:TypeId×Value→H) : ∃ places,DataW.whole enc Tryd.prog ((World.doorLaid Tryd.prog 200 os).forCall (fun _ _=>0) ⟨#[],#[],[]⟩).memory Tryd.f9.params.toList Rows.guardsKnownSpec.vars false (#[] : Array Value).toList 8=some ([],[],places) :=
  ⟨[],by kernel_rfl⟩
set_option maxRecDepth 100000 in
theorem lifted {O:CallF} (hO:∀ B,CallOK B Tryd.prog.globals.size Tryd.prog O) (hrun:retIs (.lit (.bool true)) (O 9 [] H0)=true) (os:Os) (started:os.Started) (H:Type) (enc:TypeId×Value→H) (F:Stop.Interp) :
    ReturnsInHanded {} Tryd.checked os 9 .any ((OpenSpec.ofChange Rows.guardsKnownSpec).preRow enc Tryd.prog Tryd.f9 Rows.guardsKnownRow.domain false Rows.guardsKnownRow.laid) (((OpenSpec.ofChange Rows.guardsKnownSpec).at F).post enc Tryd.prog Tryd.f9 false true false false):=by
  obtain ⟨places,hx⟩:=reads os enc
  refine returnsInHanded_of_row (C:=Tryd.checked) (s:=OpenSpec.ofChange Rows.guardsKnownSpec) own started (by kernel_rfl) Tryd.func9
    (witness_row_at (enc:=enc) (C:=Tryd.checked) false (World.doorLaid Tryd.prog 200 os) #[] rfl (by kernel_rfl) (by kernel_rfl) (by kernel_rfl)
      (OpenSpec.preRow_of_cond 8 hx (by kernel_rfl) (fun k hk=>by cases hk) (by kernel_rfl) (door_met os #[]))) ?_
  intro W base args ds gs before hval hW _ _ _ hL _ _
  have hW':=hW
  obtain ⟨p,q,hA0,hV,rfl,hfz,hnd⟩:=hW
  have hA:DataW.TrodAll enc Tryd.prog W 0 (fun _=>true) true Tryd.f9.params.toList args.toList ds p:=hA0
  rw [Tryd.params9] at hA
  obtain ⟨hargs,rfl,rfl⟩:=trodAll_nil hA
  obtain rfl:args=#[]:=by cases args; simp_all
  obtain ⟨rfl,rfl⟩:=trodVars_none hV
  clear hA0
  refine (calls_true (W:=W) hO kinds lay0 hrun hL).mono fun e W' ⟨he,hB⟩=>?_
  subst he
  exact ⟨_,rfl,post_below (pa:=[]) (pv:=[]) hW' (fun _ _ _=>trodAll_cons_mk (shut_bool Tryd.underlying4 _) trodAll_mk0) (fun _ _=>trodAll_mk0) (fun _ _=>rfl) rfl
    hB (ok_one (by kernel_rfl) rfl (okWide_bool_mk Tryd.underlying4 _))⟩
theorem said {O:CallF} (hO:∀ B,CallOK B Tryd.prog.globals.size Tryd.prog O) (hrun:retIs (.lit (.bool true)) (O 9 [] H0)=true) : Rows.GuardsKnownSaid :=
  OpenClaim.holds_of_cond 9 Tryd.f9 rfl rfl rfl rfl rfl rfl rfl ⟨rfl,rfl,rfl,rfl,rfl⟩ rfl rfl rfl rfl rfl (by kernel_rfl) Tryd.func9 (by kernel_rfl)
    (of_decide_eq_true (by kernel_rfl)) (by unfold Func.isWrapper; first | (rw [if_pos (by decide +kernel)]; kernel_rfl) | (rw [if_neg (by decide +kernel)]; exact ⟨rfl,rfl⟩))
    (fun os started H enc _ F=>by rw [OpenClaim.pre_eq_preRow]; exact lifted hO hrun os started H enc F)
theorem plain (f:FuncId) (fn:Func) (hf:Tryd.pinned.checked.prog.funcNamed "gauntlet/gauntletlaw28.GuardsKnown" = some f) (hfn:Tryd.pinned.checked.prog.funcs[f]?=some fn) :
    true=Tryd.pinned.checked.prog.looks []∧∀ (j:Nat) t,fn.params[j]?=some t→Tryd.pinned.checked.prog.wantsStandIn t=false:=by
  obtain rfl:f=9:=Option.some.inj ((show Tryd.prog.funcNamed "gauntlet/gauntletlaw28.GuardsKnown" = some 9 by kernel_rfl).symm.trans hf) |>.symm
  obtain rfl:fn=Tryd.f9:=(Option.some.inj (Tryd.func9.symm.trans hfn)).symm
  refine ⟨by kernel_rfl,fun j t ht=>?_⟩
  rw [Tryd.params9] at ht
  simp at ht
theorem card {O:CallF} (hO:∀ B,CallOK B Tryd.prog.globals.size Tryd.prog O) (hrun:retIs (.lit (.bool true)) (O 9 [] H0)=true) : Rows.GuardsKnownCardSaid :=
  Claim7.holds_tied_plain_at .later [] _ _ _ _ (said hO hrun) (fun _ h=>by cases h) (by kernel_rfl) (fun _ h=>by cases h) guardsKnown_row_tie rfl ⟨rfl,rfl⟩ (by kernel_rfl) rfl plain (by kernel_rfl)
end Go.Proofs.YtfhkfifjbgcpiaaDoor
end
section
namespace Go.Ai
open Go.Proofs Go.ChangeShapes Go.WideShapes Go.ChangeAt Go.RowKit
set_option maxRecDepth 10000
variable {H:Type} {enc:TypeId×Value→H} {w:World} {base:Nat}
theorem c5:Tryd.prog.cellsOf 5=1:=by kernel_rfl
theorem c21:Tryd.prog.cellsOf 21=1:=by kernel_rfl
end Go.Ai
end
section
namespace Go.Proofs.YtfhkfifjbgcpiaaDoor
open Go Go.Ai Go.ChangeShapes Go.WideShapes Go.ChangeAt Go.RowKit
theorem laidOut:laidOutB Tryd.prog=true:=by kernel_rfl
end Go.Proofs.YtfhkfifjbgcpiaaDoor
end
section
namespace Go.Proofs.YtfhkfifjbgcpiaaDoor
open Go Go.Ai
end Go.Proofs.YtfhkfifjbgcpiaaDoor
end
