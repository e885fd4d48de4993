/- GuardsText OF CHAPTER 28 HOLDS as its card says it: for every expression the call returns true, and the argument reads as before. No condition. -/
import Derived.Test.YtfhkfifjbgcpiaaDoorTD9
import Derived.Test.YtfhkfifjbgcpiaaDoorTK4
import Derived.Test.YtfhkfifjbgcpiaaDoorTK1
set_option linter.all false
set_option linter.deprecated false
section
namespace Go.Ai
open Go.Proofs Go.ChangeShapes Go.WideShapes Go.ChangeAt Go.RowKit
set_option maxRecDepth 10000
variable {H:Type} {enc:TypeId×Value→H} {w:World} {base:Nat}
theorem calls_text (hl:retIs (.lit (.bool true)) (callF Tryd.prog O5 10000 16 [] H0)=true) {W:World} {v0:Value} {d0:DataW H} {p0:List MemPlace} {base:Nat} (hL:laidMetH Tryd.prog YtfhkfifjbgcpiaaDoor.Rows.guardsKnownRow.laid W)
    (h0:DataW.Trod enc Tryd.prog W 0 (fun _=>true) true 25 v0 d0 p0) (k0:Value.okWide Tryd.prog W .any base 25 v0) :
    Calls Tryd.prog 3 #[v0] W fun e W'=>e=.returned (.bool true)∧Below W.heap.size W W':=by
  obtain ⟨cs,s1,s2,rfl,e1,i1,i2⟩:=read_E h0 k0
  obtain ⟨ρ,s,hno⟩:=start_sound hL YtfhkfifjbgcpiaaDoor.kinds lay0
  have s' : Sim W.heap.size 6 ρ ⟨.fn H0.get,8⟩ W:=by rw [← hG6] at s; exact s.toFn
  have hno' : NoOwn ⟨.fn H0.get,8⟩:=fun a x hx=>hno a x hx
  obtain ⟨ρ1,g1,n1,av1,z1,t1,t2,t3,t4,t5,t6,t7,t8,t9⟩:=name_sl s' hno' i1
  obtain ⟨ρ2,g2,n2,av2,z2,u1,u2,u3,u4,u5,u6,u7,u8,u9⟩:=name_sl t1 t2 i2
  rw [u8_cells t9] at t8
  have hw:=guardsText_w hl (z1.map Int.toNat) z2 g2 n2 av1 av2 (fun i x hx=>?_) (by omega) ?_ ?_ ?_ (fun z hz=>wf32 (u9 z hz)) t5 u5
  · refine (hw W.heap.size ρ2 #[.agg cs] W u1 ?_).mono ?_
    · refine ⟨_,_,rfl,⟨cs,rfl,?_⟩,rfl⟩
      rw [e1]; exact ⟨s1,_,rfl,t3.mono u4,s2,_,rfl,u3,rfl⟩
    · rintro e W' ⟨r,⟨H',rfl⟩,hcp⟩
      cases e with
      | returned u=>obtain ⟨ρ',q1,q2,q3,q4⟩:=hcp; exact ⟨congrArg _ q3,q1.below⟩
      | _=>exact hcp.elim
  · have h8:i < 8:=(List.getElem?_eq_some_iff.1 hx).1
    rw [u7 i (by omega),t7 i h8]
    have h9:=holds_spec (H:=H0) (l:=blks0) (i:=0) (by kernel_rfl) i x hx
    rwa [Nat.zero_add] at h9
  · rw [List.length_map]
    exact t8.mono u6 u7
  · intro q hq
    obtain ⟨z,hz,rfl⟩:=List.mem_map.1 hq
    have:=wf8 (t9 z hz)
    omega
  · exact u8
end Go.Ai
namespace Go.Proofs.YtfhkfifjbgcpiaaDoor
open Go Go.Ai Go.ChangeShapes Go.WideShapes Go.ChangeAt Go.RowKit
theorem readsT (os:Os) {H:Type} (enc:TypeId×Value→H) : ∃ places,DataW.whole enc Tryd.prog ((World.doorLaid Tryd.prog 200 os).forCall (fun _ _=>0) ⟨#[],#[.agg #[.slice none 0 0,.slice none 0 0]],[]⟩).memory Tryd.f3.params.toList Rows.guardsTextSpec.vars false (#[.agg #[.slice none 0 0,.slice none 0 0]] : Array Value).toList 8=some ([.agg [.nil,.nil]],[],places) :=
  ⟨[],by kernel_rfl⟩
theorem door_metT (os:Os) (args:Array Value) : laidMetH Tryd.prog Rows.guardsTextRow.laid ((World.doorLaid Tryd.prog 200 os).forCall (fun _ _=>0) ⟨#[],args,[]⟩).memory:=door_met os args
set_option maxRecDepth 100000 in
theorem liftedT (hl:retIs (.lit (.bool true)) (callF Tryd.prog O5 10000 16 [] H0)=true) (os:Os) (started:os.Started) (H:Type) (enc:TypeId×Value→H) (F:Stop.Interp) :
    ReturnsInHanded {} Tryd.checked os 3 .any ((OpenSpec.ofChange Rows.guardsTextSpec).preRow enc Tryd.prog Tryd.f3 Rows.guardsTextRow.domain false Rows.guardsTextRow.laid) (((OpenSpec.ofChange Rows.guardsTextSpec).at F).post enc Tryd.prog Tryd.f3 false true false false):=by
  obtain ⟨places,hx⟩:=readsT os enc
  refine returnsInHanded_of_row (C:=Tryd.checked) (s:=OpenSpec.ofChange Rows.guardsTextSpec) own started (by kernel_rfl) Tryd.func3
    (witness_row_at (enc:=enc) (C:=Tryd.checked) false (World.doorLaid Tryd.prog 200 os) #[.agg #[.slice none 0 0,.slice none 0 0]] rfl (by kernel_rfl) (by kernel_rfl) (by kernel_rfl)
      (OpenSpec.preRow_of_cond 8 hx (by kernel_rfl) (fun k hk=>by cases hk) (by kernel_rfl) (door_metT os _))) ?_
  intro W base args ds gs before hval0 hW _ _ _ hL _ _
  have hval:∀ (j:Nat) t v,Tryd.f3.params[j]?=some t→args[j]?=some v→Value.okWide Tryd.prog W .any base t v:=hval0
  have hW':=hW
  obtain ⟨p,q,hA0,hV,rfl,hfz,hnd⟩:=hW
  have hA:DataW.TrodAll enc Tryd.prog W 0 (fun _=>true) true Tryd.f3.params.toList args.toList ds p:=hA0
  rw [Tryd.params3] at hA hval
  obtain ⟨v0,d0,rfl,rfl,h0⟩:=trodAll_one hA
  obtain ⟨rfl,rfl⟩:=trodVars_none hV
  clear hA0
  have hlt:∀ x∈p,x.block < W.heap.size:=fun x hx=>by
    have:=hW'.lt x (by simpa using hx)
    exact this
  refine (calls_text (enc:=enc) hl hL h0 (hval 0 25 v0 rfl rfl)).mono fun e W' ⟨he,hB⟩=>?_
  subst he
  simp only [List.append_nil] at hW'
  refine ⟨_,rfl,post_below (pa:=p) (pv:=[]) hW' (fun _ _ _=>trodAll_cons_mk (shut_bool Tryd.underlying4 _) trodAll_mk0) (fun sp hsp=>?_) (fun _ _=>rfl) (by simp) hB (ok_one (by kernel_rfl) rfl (okWide_bool_mk Tryd.underlying4 _))⟩
  have g0:=WideElems.Trod_stays (sp':=sp) laidOut (by kernel_rfl) (of_decide_eq_true (by kernel_rfl)) h0 (fun x hx=>hB.same (hlt x hx)) (fun x hx=>hsp x hx)
  exact trodAll_mk1 g0
theorem saidT (hl:retIs (.lit (.bool true)) (callF Tryd.prog O5 10000 16 [] H0)=true) : Rows.GuardsTextSaid :=
  OpenClaim.holds_of_cond 3 Tryd.f3 rfl rfl rfl rfl rfl rfl rfl ⟨rfl,rfl,rfl,rfl,rfl⟩ rfl rfl rfl rfl rfl (by kernel_rfl) Tryd.func3 (by kernel_rfl)
    (of_decide_eq_true (by kernel_rfl)) (by unfold Func.isWrapper; first | (rw [if_pos (by decide +kernel)]; kernel_rfl) | (rw [if_neg (by decide +kernel)]; exact ⟨rfl,rfl⟩))
    (fun os started H enc _ F=>by rw [OpenClaim.pre_eq_preRow]; exact liftedT hl os started H enc F)
theorem plainT (f:FuncId) (fn:Func) (hf:Tryd.pinned.checked.prog.funcNamed "gauntlet/gauntletlaw28.GuardsText" = some f) (hfn:Tryd.pinned.checked.prog.funcs[f]?=some fn) :
    true=Tryd.pinned.checked.prog.looks []∧∀ (j:Nat) t,fn.params[j]?=some t→Tryd.pinned.checked.prog.wantsStandIn t=false:=by
  obtain rfl:f=3:=Option.some.inj ((show Tryd.prog.funcNamed "gauntlet/gauntletlaw28.GuardsText" = some 3 by kernel_rfl).symm.trans hf) |>.symm
  obtain rfl:fn=Tryd.f3:=(Option.some.inj (Tryd.func3.symm.trans hfn)).symm
  refine ⟨by kernel_rfl,fun j t ht=>?_⟩
  rw [Tryd.params3] at ht
  have hm:t∈[25]:=by simpa using Array.mem_of_getElem? ht
  have hall:([25].all fun u=>!Tryd.prog.wantsStandIn u)=true:=by kernel_rfl
  exact (show Tryd.prog.wantsStandIn t=false by simpa using List.all_eq_true.1 hall t hm)
theorem cardT (hl:retIs (.lit (.bool true)) (callF Tryd.prog O5 10000 16 [] H0)=true) : Rows.GuardsTextCardSaid :=
  Claim7.holds_tied_plain_at .later [] _ _ _ _ (saidT hl) (fun _ h=>by cases h) (by kernel_rfl) (fun _ h=>by cases h) guardsText_row_tie rfl ⟨rfl,rfl⟩ (by kernel_rfl) rfl plainT (by kernel_rfl)
end Go.Proofs.YtfhkfifjbgcpiaaDoor
end
section
namespace Go.Proofs.YtfhkfifjbgcpiaaDoor
open Go Go.Ai
theorem guardsText_holds:Rows.GuardsTextCardSaid:=cardT lives_run
end Go.Proofs.YtfhkfifjbgcpiaaDoor
end
