/- TracesAnswer: the row and the card, from the walk. No condition. -/
import Derived.Test.YtiddfilinnbhaaaGreatDoorW15
set_option linter.all false
set_option linter.deprecated false
section
namespace Go.Proofs.YtiddfilinnbhaaaGreatDoor
open Go Go.Ai Go.ChangeShapes Go.WideShapes Go.ChangeAt Go.RowKit
theorem readsW (os:Os) {H:Type} (enc:TypeId×Value→H) : ∃ places,DataW.whole enc Tryz.prog ((door os).forCall (fun _ _=>0) ⟨#[],#[.agg #[.int .u8 0,.int .u8 0,.int .u8 0,.bool false,.slice none 0 0,.slice none 0 0,.int .u8 0,.int .u8 0,.int .u8 0],.slice none 0 0],[]⟩).memory Tryz.f7.params.toList Rows.tracesAnswerSpec.vars false (#[.agg #[.int .u8 0,.int .u8 0,.int .u8 0,.bool false,.slice none 0 0,.slice none 0 0,.int .u8 0,.int .u8 0,.int .u8 0],.slice none 0 0] : Array Value).toList 8=some ([.agg [.agg [.lit (.int .u8 0),.lit (.int .u8 0),.lit (.int .u8 0),.lit (.bool false),.nil],.nil,.lit (.int .u8 0),.lit (.int .u8 0),.lit (.int .u8 0)],.nil],[],places) :=
 ⟨[],by kernel_rfl⟩
theorem door_metW (os:Os) (args:Array Value) : laidMetH Tryz.prog Rows.tracesAnswerRow.laid ((door os).forCall (fun _ _=>0) ⟨#[],args,[]⟩).memory:=door_met os args
set_option maxRecDepth 100000 in
theorem liftedW (os:Os) (started:os.Started) (H:Type) (enc:TypeId×Value→H) (F:Stop.Interp) :
  ReturnsInHanded {} Tryz.checked os 7 .any ((OpenSpec.ofChange Rows.tracesAnswerSpec).preRow enc Tryz.prog Tryz.f7 Rows.tracesAnswerRow.domain false Rows.tracesAnswerRow.laid) (((OpenSpec.ofChange Rows.tracesAnswerSpec).at F).post enc Tryz.prog Tryz.f7 false true false false):=by
 obtain ⟨places,hx⟩:=readsW os enc
 refine returnsInHanded_of_row (C:=Tryz.checked) (s:=OpenSpec.ofChange Rows.tracesAnswerSpec) own started (by kernel_rfl) Tryz.func7
  (witness_row_at (enc:=enc) (C:=Tryz.checked) false (door os) #[.agg #[.int .u8 0,.int .u8 0,.int .u8 0,.bool false,.slice none 0 0,.slice none 0 0,.int .u8 0,.int .u8 0,.int .u8 0],.slice none 0 0] (World.laidAll_os _ _ _) (by kernel_rfl) (by kernel_rfl) (by kernel_rfl)
   (OpenSpec.preRow_of_cond 8 hx (by kernel_rfl) (fun k hk=>by cases hk) (by kernel_rfl) (door_metW os _))) ?_
 intro W base args ds gs before hval0 hW _ _ _ _ hL _
 have hval:∀ (j:Nat) t v,Tryz.f7.params[j]?=some t→args[j]?=some v→Value.okWide Tryz.prog W .any base t v:=hval0
 have hW':=hW
 obtain ⟨p,q,hA0,hV,rfl,hfz,hnd⟩:=hW
 have hA:DataW.TrodAll enc Tryz.prog W 0 (fun _=>true) true Tryz.f7.params.toList args.toList ds p:=hA0
 rw [Tryz.params7] at hA hval
 obtain ⟨v0,v1,d0,d1,p0,p1,rfl,rfl,rfl,h0,h1⟩:=trodAll_two hA
 obtain ⟨rfl,rfl⟩:=trodVars_none hV
 clear hA0
 have hlt:∀ x∈p0++p1,x.block < W.heap.size:=fun x hx=>by
  have:=hW'.lt x (by simpa using hx)
  exact this
 refine (calls_W (enc:=enc) hL h0 h1 (hval 0 52 v0 rfl rfl) (hval 1 67 v1 rfl rfl)).mono fun e W' ⟨he,hB⟩=>?_
 subst he
 simp only [List.append_nil] at hW'
 refine ⟨_,rfl,post_below (pa:=p0++p1) (pv:=[]) hW' (fun _ _ _=>trodAll_cons_mk (shut_bool Tryz.underlying4 _) trodAll_mk0) (fun sp hsp=>?_) (fun _ _=>rfl) (by simp) hB (ok_one (by kernel_rfl) rfl (okWide_bool_mk Tryz.underlying4 _))⟩
 have g0:=WideElems.Trod_stays (sp':=sp) laidOut (by kernel_rfl) (of_decide_eq_true (by kernel_rfl)) h0 (fun x hx=>hB.same (hlt x (List.mem_append_left _ hx))) (fun x hx=>hsp x (List.mem_append_left _ hx))
 have g1:=WideElems.Trod_stays (sp':=sp) laidOut (by kernel_rfl) (of_decide_eq_true (by kernel_rfl)) h1 (fun x hx=>hB.same (hlt x (List.mem_append_right _ hx))) (fun x hx=>hsp x (List.mem_append_right _ hx))
 exact trodAll_mk2 g0 g1
theorem saidW:Rows.TracesAnswerSaid :=
 OpenClaim.holds_of_cond 7 Tryz.f7 rfl rfl rfl rfl rfl rfl rfl ⟨rfl,rfl,rfl,rfl,rfl⟩ rfl rfl rfl rfl rfl (by kernel_rfl) Tryz.func7 (by kernel_rfl)
  (of_decide_eq_true (by kernel_rfl)) (by unfold Func.isWrapper; first | (rw [if_pos (by decide +kernel)]; kernel_rfl) | (rw [if_neg (by decide +kernel)]; exact ⟨rfl,rfl⟩))
  (fun os started H enc _ F=>by rw [OpenClaim.pre_eq_preRow]; exact liftedW os started H enc F)
theorem plainW (f:FuncId) (fn:Func) (hf:Tryz.pinned.checked.prog.funcNamed "gauntlet/gauntletlaw34.TracesAnswer" = some f) (hfn:Tryz.pinned.checked.prog.funcs[f]?=some fn) :
  false=Tryz.pinned.checked.prog.looks []∧∀ (j:Nat) t,fn.params[j]?=some t→Tryz.pinned.checked.prog.wantsStandIn t=false:=by
 obtain rfl:f=7:=Option.some.inj ((show Tryz.prog.funcNamed "gauntlet/gauntletlaw34.TracesAnswer" = some 7 by kernel_rfl).symm.trans hf) |>.symm
 obtain rfl:fn=Tryz.f7:=(Option.some.inj (Tryz.func7.symm.trans hfn)).symm
 refine ⟨by kernel_rfl,fun j t ht=>?_⟩
 rw [Tryz.params7] at ht
 have hm:t∈[52,67]:=by simpa using Array.mem_of_getElem? ht
 have hall:([52,67].all fun u=>!Tryz.prog.wantsStandIn u)=true:=by kernel_rfl
 exact (show Tryz.prog.wantsStandIn t=false by simpa using List.all_eq_true.1 hall t hm)
theorem cardW:Rows.TracesAnswerCardSaid :=
 Claim7.holds_tied_plain_at .later [] _ _ _ _ (saidW) (fun _ h=>by cases h) (by kernel_rfl) (fun _ h=>by cases h) tracesAnswer_row_tie rfl ⟨rfl,rfl⟩ (by kernel_rfl) rfl plainW (by kernel_rfl)
theorem tracesAnswer_holds:Rows.TracesAnswerCardSaid:=cardW
end Go.Proofs.YtiddfilinnbhaaaGreatDoor
end
