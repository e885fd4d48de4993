/- TracesTrees: the row and the card, from the walk. No condition. -/
import Derived.Test.YtiddfilinnbhaaaGreatDoorJ19
set_option linter.all false
set_option linter.deprecated false
section
namespace Go.Proofs.YtiddfilinnbhaaaGreatDoor
open Go Go.Ai Go.ChangeShapes Go.WideShapes Go.ChangeAt Go.RowKit
theorem readsJ (os:Os) {H:Type} (enc:TypeId×Value→H) : ∃ places,DataW.whole enc Tryz.prog ((door os).forCall (fun _ _=>0) ⟨#[],#[.agg #[.int .i64 0,.int .i64 0,.slice none 0 0],.slice none 0 0],[]⟩).memory Tryz.f9.params.toList Rows.tracesTreesSpec.vars false (#[.agg #[.int .i64 0,.int .i64 0,.slice none 0 0],.slice none 0 0] : Array Value).toList 8=some ([.agg [.lit (.int .i64 0),.lit (.int .i64 0),.nil],.nil],[],places) :=
 ⟨[],by kernel_rfl⟩
theorem door_metJ (os:Os) (args:Array Value) : laidMetH Tryz.prog Rows.tracesTreesRow.laid ((door os).forCall (fun _ _=>0) ⟨#[],args,[]⟩).memory:=door_met os args
set_option maxRecDepth 100000 in
theorem liftedJ (os:Os) (started:os.Started) (H:Type) (enc:TypeId×Value→H) (F:Stop.Interp) :
  ReturnsInHanded {} Tryz.checked os 9 .any ((OpenSpec.ofChange Rows.tracesTreesSpec).preRow enc Tryz.prog Tryz.f9 Rows.tracesTreesRow.domain false Rows.tracesTreesRow.laid) (((OpenSpec.ofChange Rows.tracesTreesSpec).at F).post enc Tryz.prog Tryz.f9 false true false false):=by
 obtain ⟨places,hx⟩:=readsJ os enc
 refine returnsInHanded_of_row (C:=Tryz.checked) (s:=OpenSpec.ofChange Rows.tracesTreesSpec) own started (by kernel_rfl) Tryz.func9
  (witness_row_at (enc:=enc) (C:=Tryz.checked) false (door os) #[.agg #[.int .i64 0,.int .i64 0,.slice none 0 0],.slice none 0 0] (World.laidAll_os _ _ _) (by kernel_rfl) (by kernel_rfl) (by kernel_rfl)
   (OpenSpec.preRow_of_cond 8 hx (by kernel_rfl) (fun k hk=>by cases hk) (by kernel_rfl) (door_metJ os _))) ?_
 intro W base args ds gs before hval0 hW _ _ _ _ hL _
 have hval:∀ (j:Nat) t v,Tryz.f9.params[j]?=some t→args[j]?=some v→Value.okWide Tryz.prog W .any base t v:=hval0
 have hW':=hW
 obtain ⟨p,q,hA0,hV,rfl,hfz,hnd⟩:=hW
 have hA:DataW.TrodAll enc Tryz.prog W 0 (fun _=>true) true Tryz.f9.params.toList args.toList ds p:=hA0
 rw [Tryz.params9] at hA hval
 obtain ⟨v0,v1,d0,d1,p0,p1,rfl,rfl,rfl,h0,h1⟩:=trodAll_two hA
 obtain ⟨rfl,rfl⟩:=trodVars_none hV
 clear hA0
 have hlt:∀ x∈p0++p1,x.block < W.heap.size:=fun x hx=>by
  have:=hW'.lt x (by simpa using hx)
  exact this
 refine (calls_J (enc:=enc) hL h0 h1 (hval 0 44 v0 rfl rfl) (hval 1 57 v1 rfl rfl)).mono fun e W' ⟨he,hB⟩=>?_
 subst he
 simp only [List.append_nil] at hW'
 refine ⟨_,rfl,post_below (pa:=p0++p1) (pv:=[]) hW' (fun _ _ _=>trodAll_cons_mk (shut_bool Tryz.underlying4 _) trodAll_mk0) (fun sp hsp=>?_) (fun _ _=>rfl) (by simp) hB (ok_one (by kernel_rfl) rfl (okWide_bool_mk Tryz.underlying4 _))⟩
 have g0:=WideElems.Trod_stays (sp':=sp) laidOut (by kernel_rfl) (of_decide_eq_true (by kernel_rfl)) h0 (fun x hx=>hB.same (hlt x (List.mem_append_left _ hx))) (fun x hx=>hsp x (List.mem_append_left _ hx))
 have g1:=WideElems.Trod_stays (sp':=sp) laidOut (by kernel_rfl) (of_decide_eq_true (by kernel_rfl)) h1 (fun x hx=>hB.same (hlt x (List.mem_append_right _ hx))) (fun x hx=>hsp x (List.mem_append_right _ hx))
 exact trodAll_mk2 g0 g1
theorem saidJ:Rows.TracesTreesSaid :=
 OpenClaim.holds_of_cond 9 Tryz.f9 rfl rfl rfl rfl rfl rfl rfl ⟨rfl,rfl,rfl,rfl,rfl⟩ rfl rfl rfl rfl rfl (by kernel_rfl) Tryz.func9 (by kernel_rfl)
  (of_decide_eq_true (by kernel_rfl)) (by unfold Func.isWrapper; first | (rw [if_pos (by decide +kernel)]; kernel_rfl) | (rw [if_neg (by decide +kernel)]; exact ⟨rfl,rfl⟩))
  (fun os started H enc _ F=>by rw [OpenClaim.pre_eq_preRow]; exact liftedJ os started H enc F)
theorem plainJ (f:FuncId) (fn:Func) (hf:Tryz.pinned.checked.prog.funcNamed "gauntlet/gauntletlaw34.TracesTrees" = some f) (hfn:Tryz.pinned.checked.prog.funcs[f]?=some fn) :
  false=Tryz.pinned.checked.prog.looks []∧∀ (j:Nat) t,fn.params[j]?=some t→Tryz.pinned.checked.prog.wantsStandIn t=false:=by
 obtain rfl:f=9:=Option.some.inj ((show Tryz.prog.funcNamed "gauntlet/gauntletlaw34.TracesTrees" = some 9 by kernel_rfl).symm.trans hf) |>.symm
 obtain rfl:fn=Tryz.f9:=(Option.some.inj (Tryz.func9.symm.trans hfn)).symm
 refine ⟨by kernel_rfl,fun j t ht=>?_⟩
 rw [Tryz.params9] at ht
 have hm:t∈[44,57]:=by simpa using Array.mem_of_getElem? ht
 have hall:([44,57].all fun u=>!Tryz.prog.wantsStandIn u)=true:=by kernel_rfl
 exact (show Tryz.prog.wantsStandIn t=false by simpa using List.all_eq_true.1 hall t hm)
theorem cardJ:Rows.TracesTreesCardSaid :=
 Claim7.holds_tied_plain_at .later [] _ _ _ _ (saidJ) (fun _ h=>by cases h) (by kernel_rfl) (fun _ h=>by cases h) tracesTrees_row_tie rfl ⟨rfl,rfl⟩ (by kernel_rfl) rfl plainJ (by kernel_rfl)
theorem tracesTrees_holds:Rows.TracesTreesCardSaid:=cardJ
end Go.Proofs.YtiddfilinnbhaaaGreatDoor
end
