/- TracesBack: the row and the card, from the walk. No condition. -/
import Derived.Test.YtiddfilinnbhaaaGreatDoorB21
set_option linter.all false
set_option linter.deprecated false
section
namespace Go.Proofs.YtiddfilinnbhaaaGreatDoor
open Go Go.Ai Go.ChangeShapes Go.WideShapes Go.ChangeAt Go.RowKit
theorem readsB (os:Os) {H:Type} (enc:TypeId×Value→H) : ∃ places,DataW.whole enc Tryz.prog ((door os).forCall (fun _ _=>0) ⟨#[],#[.agg #[.int .u8 0,.int .u8 0,.int .u8 0,.bool false,.slice none 0 0,.slice none 0 0,.int .u8 0,.int .u8 0,.int .u8 0]],[]⟩).memory Tryz.f8.params.toList Rows.tracesBackSpec.vars false (#[.agg #[.int .u8 0,.int .u8 0,.int .u8 0,.bool false,.slice none 0 0,.slice none 0 0,.int .u8 0,.int .u8 0,.int .u8 0]] : Array Value).toList 8=some ([.agg [.agg [.lit (.int .u8 0),.lit (.int .u8 0),.lit (.int .u8 0),.lit (.bool false),.nil],.nil,.lit (.int .u8 0),.lit (.int .u8 0),.lit (.int .u8 0)]],[],places) :=
 ⟨[],by kernel_rfl⟩
theorem door_metB (os:Os) (args:Array Value) : laidMetH Tryz.prog Rows.tracesBackRow.laid ((door os).forCall (fun _ _=>0) ⟨#[],args,[]⟩).memory:=door_met os args
set_option maxRecDepth 100000 in
theorem liftedB (os:Os) (started:os.Started) (H:Type) (enc:TypeId×Value→H) (F:Stop.Interp) :
  ReturnsInHanded {} Tryz.checked os 8 .any ((OpenSpec.ofChange Rows.tracesBackSpec).preRow enc Tryz.prog Tryz.f8 Rows.tracesBackRow.domain false Rows.tracesBackRow.laid) (((OpenSpec.ofChange Rows.tracesBackSpec).at F).post enc Tryz.prog Tryz.f8 false true false false):=by
 obtain ⟨places,hx⟩:=readsB os enc
 refine returnsInHanded_of_row (C:=Tryz.checked) (s:=OpenSpec.ofChange Rows.tracesBackSpec) own started (by kernel_rfl) Tryz.func8
  (witness_row_at (enc:=enc) (C:=Tryz.checked) false (door os) #[.agg #[.int .u8 0,.int .u8 0,.int .u8 0,.bool false,.slice none 0 0,.slice none 0 0,.int .u8 0,.int .u8 0,.int .u8 0]] (World.laidAll_os _ _ _) (by kernel_rfl) (by kernel_rfl) (by kernel_rfl)
   (OpenSpec.preRow_of_cond 8 hx (by kernel_rfl) (fun k hk=>by cases hk) (by kernel_rfl) (door_metB os _))) ?_
 intro W base args ds gs before hval0 hW _ _ _ _ hL _
 have hval:∀ (j:Nat) t v,Tryz.f8.params[j]?=some t→args[j]?=some v→Value.okWide Tryz.prog W .any base t v:=hval0
 have hW':=hW
 obtain ⟨p,q,hA0,hV,rfl,hfz,hnd⟩:=hW
 have hA:DataW.TrodAll enc Tryz.prog W 0 (fun _=>true) true Tryz.f8.params.toList args.toList ds p:=hA0
 rw [Tryz.params8] at hA hval
 obtain ⟨v0,d0,rfl,rfl,h0⟩:=trodAll_one hA
 obtain ⟨rfl,rfl⟩:=trodVars_none hV
 clear hA0
 have hlt:∀ x∈p,x.block < W.heap.size:=fun x hx=>by
  have:=hW'.lt x (by simpa using hx)
  exact this
 refine (calls_B (enc:=enc) hL h0 (hval 0 52 v0 rfl rfl)).mono fun e W' ⟨he,hB⟩=>?_
 subst he
 simp only [List.append_nil] at hW'
 refine ⟨_,rfl,post_below (pa:=p) (pv:=[]) hW' (fun _ _ _=>trodAll_cons_mk (shut_bool Tryz.underlying4 _) trodAll_mk0) (fun sp hsp=>?_) (fun _ _=>rfl) (by simp) hB (ok_one (by kernel_rfl) rfl (okWide_bool_mk Tryz.underlying4 _))⟩
 have g0:=WideElems.Trod_stays (sp':=sp) laidOut (by kernel_rfl) (of_decide_eq_true (by kernel_rfl)) h0 (fun x hx=>hB.same (hlt x hx)) (fun x hx=>hsp x hx)
 exact trodAll_mk1 g0
theorem saidB:Rows.TracesBackSaid :=
 OpenClaim.holds_of_cond 8 Tryz.f8 rfl rfl rfl rfl rfl rfl rfl ⟨rfl,rfl,rfl,rfl,rfl⟩ rfl rfl rfl rfl rfl (by kernel_rfl) Tryz.func8 (by kernel_rfl)
  (of_decide_eq_true (by kernel_rfl)) (by unfold Func.isWrapper; first | (rw [if_pos (by decide +kernel)]; kernel_rfl) | (rw [if_neg (by decide +kernel)]; exact ⟨rfl,rfl⟩))
  (fun os started H enc _ F=>by rw [OpenClaim.pre_eq_preRow]; exact liftedB os started H enc F)
theorem plainB (f:FuncId) (fn:Func) (hf:Tryz.pinned.checked.prog.funcNamed "gauntlet/gauntletlaw34.TracesBack" = some f) (hfn:Tryz.pinned.checked.prog.funcs[f]?=some fn) :
  false=Tryz.pinned.checked.prog.looks []∧∀ (j:Nat) t,fn.params[j]?=some t→Tryz.pinned.checked.prog.wantsStandIn t=false:=by
 obtain rfl:f=8:=Option.some.inj ((show Tryz.prog.funcNamed "gauntlet/gauntletlaw34.TracesBack" = some 8 by kernel_rfl).symm.trans hf) |>.symm
 obtain rfl:fn=Tryz.f8:=(Option.some.inj (Tryz.func8.symm.trans hfn)).symm
 refine ⟨by kernel_rfl,fun j t ht=>?_⟩
 rw [Tryz.params8] at ht
 have hm:t∈[52]:=by simpa using Array.mem_of_getElem? ht
 have hall:([52].all fun u=>!Tryz.prog.wantsStandIn u)=true:=by kernel_rfl
 exact (show Tryz.prog.wantsStandIn t=false by simpa using List.all_eq_true.1 hall t hm)
theorem cardB:Rows.TracesBackCardSaid :=
 Claim7.holds_tied_plain_at .later [] _ _ _ _ (saidB) (fun _ h=>by cases h) (by kernel_rfl) (fun _ h=>by cases h) tracesBack_row_tie rfl ⟨rfl,rfl⟩ (by kernel_rfl) rfl plainB (by kernel_rfl)
theorem tracesBack_holds:Rows.TracesBackCardSaid:=cardB
end Go.Proofs.YtiddfilinnbhaaaGreatDoor
end
