/- GuardsParse OF CHAPTER 28 HOLDS as its card says it: for every text the call returns true, and the argument reads as before. No condition. -/
import Derived.Test.YtfhkfifjbgcpiaaDoorPDD
import Derived.Test.YtfhkfifjbgcpiaaDoorPK4
import Derived.Test.YtfhkfifjbgcpiaaDoorPK1
set_option linter.all false
set_option linter.deprecated false
section
namespace Go.Ai
open Go.Proofs Go.ChangeShapes Go.WideShapes Go.ChangeAt Go.RowKit
set_option maxRecDepth 10000
variable {H:Type} {enc:TypeId×Value→H} {w:World} {base:Nat}
theorem calls_parse (hl:retIs (.lit (.bool true)) (callF Tryd.prog O5 10000 16 [] H0)=true) {W:World} {v0:Value} {d0:DataW H} {p0:List MemPlace} {base:Nat} (hL:laidMetH Tryd.prog YtfhkfifjbgcpiaaDoor.Rows.guardsKnownRow.laid W)
    (h0:DataW.Trod enc Tryd.prog W 0 (fun _=>true) true 9 v0 d0 p0) (k0:Value.okWide Tryd.prog W .any base 9 v0) :
    Calls Tryd.prog 4 #[v0] W fun e W'=>e=.returned (.bool true)∧Below W.heap.size W W':=by
  obtain ⟨fuel,h0⟩:=h0
  obtain ⟨t,e0,_,_⟩:=DataW.trod_string Tryd.underlying9 h0
  have c0:v0.cells.toList=[v0]:=okWide_cells k0 (by intro fs; rw [Tryd.underlying9]; simp) (by intro n e; rw [Tryd.underlying9]; simp)
  have hv:v0=.string t:=by
    rw [c0] at e0
    cases e0; rfl
  subst hv
  obtain ⟨ρ,s,hno⟩:=start_sound hL YtfhkfifjbgcpiaaDoor.kinds lay0
  have s' : Sim W.heap.size 6 ρ ⟨.fn H0.get,8⟩ W:=by rw [← hG6] at s; exact s.toFn
  have hw:=guardsParse_w hl t H0.get 8 (fun i x hx=>?_) (by omega)
  · refine (hw W.heap.size ρ #[.string t] W s' ?_).mono ?_
    · exact ⟨_,_,rfl,rfl,rfl⟩
    · rintro e W' ⟨r,⟨H',rfl⟩,hcp⟩
      cases e with
      | returned u=>obtain ⟨ρ',q1,q2,q3,q4⟩:=hcp; exact ⟨congrArg _ q3,q1.below⟩
      | _=>exact hcp.elim
  · have h9:=holds_spec (H:=H0) (l:=blks0) (i:=0) (by kernel_rfl) i x hx
    rwa [Nat.zero_add] at h9
end Go.Ai
namespace Go.Proofs.YtfhkfifjbgcpiaaDoor
open Go Go.Ai Go.ChangeShapes Go.WideShapes Go.ChangeAt Go.RowKit
theorem readsP (os:Os) {H:Type} (enc:TypeId×Value→H) : ∃ places,DataW.whole enc Tryd.prog ((World.doorLaid Tryd.prog 200 os).forCall (fun _ _=>0) ⟨#[],#[.string ⟨#[]⟩],[]⟩).memory Tryd.f4.params.toList Rows.guardsParseSpec.vars false (#[.string ⟨#[]⟩] : Array Value).toList 8=some ([.lit (.string [])],[],places) :=
  ⟨[],by kernel_rfl⟩
theorem door_metP (os:Os) (args:Array Value) : laidMetH Tryd.prog Rows.guardsParseRow.laid ((World.doorLaid Tryd.prog 200 os).forCall (fun _ _=>0) ⟨#[],args,[]⟩).memory:=door_met os args
set_option maxRecDepth 100000 in
theorem liftedP (hl:retIs (.lit (.bool true)) (callF Tryd.prog O5 10000 16 [] H0)=true) (os:Os) (started:os.Started) (H:Type) (enc:TypeId×Value→H) (F:Stop.Interp) :
    ReturnsInHanded {} Tryd.checked os 4 .any ((OpenSpec.ofChange Rows.guardsParseSpec).preRow enc Tryd.prog Tryd.f4 Rows.guardsParseRow.domain false Rows.guardsParseRow.laid) (((OpenSpec.ofChange Rows.guardsParseSpec).at F).post enc Tryd.prog Tryd.f4 false true false false):=by
  obtain ⟨places,hx⟩:=readsP os enc
  refine returnsInHanded_of_row (C:=Tryd.checked) (s:=OpenSpec.ofChange Rows.guardsParseSpec) own started (by kernel_rfl) Tryd.func4
    (witness_row_at (enc:=enc) (C:=Tryd.checked) false (World.doorLaid Tryd.prog 200 os) #[.string ⟨#[]⟩] rfl (by kernel_rfl) (by kernel_rfl) (by kernel_rfl)
      (OpenSpec.preRow_of_cond 8 hx (by kernel_rfl) (fun k hk=>by cases hk) (by kernel_rfl) (door_metP os _))) ?_
  intro W base args ds gs before hval0 hW _ _ _ hL _ _
  have hval:∀ (j:Nat) t v,Tryd.f4.params[j]?=some t→args[j]?=some v→Value.okWide Tryd.prog W .any base t v:=hval0
  have hW':=hW
  obtain ⟨p,q,hA0,hV,rfl,hfz,hnd⟩:=hW
  have hA:DataW.TrodAll enc Tryd.prog W 0 (fun _=>true) true Tryd.f4.params.toList args.toList ds p:=hA0
  rw [Tryd.params4] at hA hval
  obtain ⟨v0,d0,rfl,rfl,h0⟩:=trodAll_one hA
  obtain ⟨rfl,rfl⟩:=trodVars_none hV
  clear hA0
  have hlt:∀ x∈p,x.block < W.heap.size:=fun x hx=>by
    have:=hW'.lt x (by simpa using hx)
    exact this
  refine (calls_parse (enc:=enc) hl hL h0 (hval 0 9 v0 rfl rfl)).mono fun e W' ⟨he,hB⟩=>?_
  subst he
  simp only [List.append_nil] at hW'
  refine ⟨_,rfl,post_below (pa:=p) (pv:=[]) hW' (fun _ _ _=>trodAll_cons_mk (shut_bool Tryd.underlying4 _) trodAll_mk0) (fun sp hsp=>?_) (fun _ _=>rfl) (by simp) hB (ok_one (by kernel_rfl) rfl (okWide_bool_mk Tryd.underlying4 _))⟩
  have g0:=WideElems.Trod_stays (sp':=sp) laidOut (by kernel_rfl) (of_decide_eq_true (by kernel_rfl)) h0 (fun x hx=>hB.same (hlt x hx)) (fun x hx=>hsp x hx)
  exact trodAll_mk1 g0
theorem saidP (hl:retIs (.lit (.bool true)) (callF Tryd.prog O5 10000 16 [] H0)=true) : Rows.GuardsParseSaid :=
  OpenClaim.holds_of_cond 4 Tryd.f4 rfl rfl rfl rfl rfl rfl rfl ⟨rfl,rfl,rfl,rfl,rfl⟩ rfl rfl rfl rfl rfl (by kernel_rfl) Tryd.func4 (by kernel_rfl)
    (of_decide_eq_true (by kernel_rfl)) (by unfold Func.isWrapper; first | (rw [if_pos (by decide +kernel)]; kernel_rfl) | (rw [if_neg (by decide +kernel)]; exact ⟨rfl,rfl⟩))
    (fun os started H enc _ F=>by rw [OpenClaim.pre_eq_preRow]; exact liftedP hl os started H enc F)
theorem plainP (f:FuncId) (fn:Func) (hf:Tryd.pinned.checked.prog.funcNamed "gauntlet/gauntletlaw28.GuardsParse" = some f) (hfn:Tryd.pinned.checked.prog.funcs[f]?=some fn) :
    true=Tryd.pinned.checked.prog.looks []∧∀ (j:Nat) t,fn.params[j]?=some t→Tryd.pinned.checked.prog.wantsStandIn t=false:=by
  obtain rfl:f=4:=Option.some.inj ((show Tryd.prog.funcNamed "gauntlet/gauntletlaw28.GuardsParse" = some 4 by kernel_rfl).symm.trans hf) |>.symm
  obtain rfl:fn=Tryd.f4:=(Option.some.inj (Tryd.func4.symm.trans hfn)).symm
  refine ⟨by kernel_rfl,fun j t ht=>?_⟩
  rw [Tryd.params4] at ht
  have hm:t∈[9]:=by simpa using Array.mem_of_getElem? ht
  have hall:([9].all fun u=>!Tryd.prog.wantsStandIn u)=true:=by kernel_rfl
  exact (show Tryd.prog.wantsStandIn t=false by simpa using List.all_eq_true.1 hall t hm)
theorem cardP (hl:retIs (.lit (.bool true)) (callF Tryd.prog O5 10000 16 [] H0)=true) : Rows.GuardsParseCardSaid :=
  Claim7.holds_tied_plain_at .later [] _ _ _ _ (saidP hl) (fun _ h=>by cases h) (by kernel_rfl) (fun _ h=>by cases h) guardsParse_row_tie rfl ⟨rfl,rfl⟩ (by kernel_rfl) rfl plainP (by kernel_rfl)
end Go.Proofs.YtfhkfifjbgcpiaaDoor
end
section
namespace Go.Proofs.YtfhkfifjbgcpiaaDoor
open Go Go.Ai
theorem guardsParse_holds:Rows.GuardsParseCardSaid:=cardP lives_run
end Go.Proofs.YtfhkfifjbgcpiaaDoor
end
