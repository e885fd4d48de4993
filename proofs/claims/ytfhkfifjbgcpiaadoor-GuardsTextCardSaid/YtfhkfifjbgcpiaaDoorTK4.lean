/- GuardsEval OF CHAPTER 28 HOLDS as its card says it: for every expression and all values the call returns true, and the arguments read as before. No condition. -/
import Derived.Test.YtfhkfifjbgcpiaaDoorCards
import Derived.Test.YtfhkfifjbgcpiaaDoorTie
import Derived.WalkKit
import Derived.OpenShut
import Derived.Deep.DeepHandedRow
import Derived.LaidOnce
import Derived.Test.YtfhkfifjbgcpiaaDoorTA4
import Derived.Test.YtfhkfifjbgcpiaaDoorTC1
import Derived.Test.YtfhkfifjbgcpiaaDoorTC6
import Derived.Test.YtfhkfifjbgcpiaaDoorTK1
set_option linter.all false
set_option linter.deprecated false
section
namespace Go.Proofs.YtfhkfifjbgcpiaaDoor
open Go Go.Ai Go.ChangeShapes Go.WideShapes Go.ChangeAt Go.RowKit
theorem own:ownKnob Tryd.prog.godebug=none:=by kernel_rfl
theorem door_met (os:Os) (args:Array Value) : laidMetH Tryd.prog Rows.guardsKnownRow.laid ((World.doorLaid Tryd.prog 200 os).forCall (fun _ _=>0) ⟨#[],args,[]⟩).memory :=
  laidMetH_of_parts3 (fuel:=8) (laidMet_of_run' 8 (by kernel_rfl) (by kernel_rfl)) (by kernel_rfl) (by kernel_rfl)
theorem kinds:(Rows.guardsKnownRow.laid.all fun x=>x.2.handleName?.isNone || x.2.funcsIn?.isSome)=true:=by kernel_rfl
theorem reads (os:Os) {H:Type} (enc:TypeId×Value→H) : ∃ places,DataW.whole enc Tryd.prog ((World.doorLaid Tryd.prog 200 os).forCall (fun _ _=>0) ⟨#[],#[],[]⟩).memory Tryd.f9.params.toList Rows.guardsKnownSpec.vars false (#[] : Array Value).toList 8=some ([],[],places) :=
  ⟨[],by kernel_rfl⟩
set_option maxRecDepth 100000 in
theorem lifted {O:CallF} (hO:∀ B,CallOK B Tryd.prog.globals.size Tryd.prog O) (hrun:retIs (.lit (.bool true)) (O 9 [] H0)=true) (os:Os) (started:os.Started) (H:Type) (enc:TypeId×Value→H) (F:Stop.Interp) :
    ReturnsInHanded {} Tryd.checked os 9 .any ((OpenSpec.ofChange Rows.guardsKnownSpec).preRow enc Tryd.prog Tryd.f9 Rows.guardsKnownRow.domain false Rows.guardsKnownRow.laid) (((OpenSpec.ofChange Rows.guardsKnownSpec).at F).post enc Tryd.prog Tryd.f9 false true false false):=by
  obtain ⟨places,hx⟩:=reads os enc
  refine returnsInHanded_of_row (C:=Tryd.checked) (s:=OpenSpec.ofChange Rows.guardsKnownSpec) own started (by kernel_rfl) Tryd.func9
    (witness_row_at (enc:=enc) (C:=Tryd.checked) false (World.doorLaid Tryd.prog 200 os) #[] rfl (by kernel_rfl) (by kernel_rfl) (by kernel_rfl)
      (OpenSpec.preRow_of_cond 8 hx (by kernel_rfl) (fun k hk=>by cases hk) (by kernel_rfl) (door_met os #[]))) ?_
  intro W base args ds gs before hval hW _ _ _ hL _ _
  have hW':=hW
  obtain ⟨p,q,hA0,hV,rfl,hfz,hnd⟩:=hW
  have hA:DataW.TrodAll enc Tryd.prog W 0 (fun _=>true) true Tryd.f9.params.toList args.toList ds p:=hA0
  rw [Tryd.params9] at hA
  obtain ⟨hargs,rfl,rfl⟩:=trodAll_nil hA
  obtain rfl:args=#[]:=by cases args; simp_all
  obtain ⟨rfl,rfl⟩:=trodVars_none hV
  clear hA0
  refine (calls_true (W:=W) hO kinds lay0 hrun hL).mono fun e W' ⟨he,hB⟩=>?_
  subst he
  exact ⟨_,rfl,post_below (pa:=[]) (pv:=[]) hW' (fun _ _ _=>trodAll_cons_mk (shut_bool Tryd.underlying4 _) trodAll_mk0) (fun _ _=>trodAll_mk0) (fun _ _=>rfl) rfl
    hB (ok_one (by kernel_rfl) rfl (okWide_bool_mk Tryd.underlying4 _))⟩
theorem said {O:CallF} (hO:∀ B,CallOK B Tryd.prog.globals.size Tryd.prog O) (hrun:retIs (.lit (.bool true)) (O 9 [] H0)=true) : Rows.GuardsKnownSaid :=
  OpenClaim.holds_of_cond 9 Tryd.f9 rfl rfl rfl rfl rfl rfl rfl ⟨rfl,rfl,rfl,rfl,rfl⟩ rfl rfl rfl rfl rfl (by kernel_rfl) Tryd.func9 (by kernel_rfl)
    (of_decide_eq_true (by kernel_rfl)) (by unfold Func.isWrapper; first | (rw [if_pos (by decide +kernel)]; kernel_rfl) | (rw [if_neg (by decide +kernel)]; exact ⟨rfl,rfl⟩))
    (fun os started H enc _ F=>by rw [OpenClaim.pre_eq_preRow]; exact lifted hO hrun os started H enc F)
theorem plain (f:FuncId) (fn:Func) (hf:Tryd.pinned.checked.prog.funcNamed "gauntlet/gauntletlaw28.GuardsKnown" = some f) (hfn:Tryd.pinned.checked.prog.funcs[f]?=some fn) :
    true=Tryd.pinned.checked.prog.looks []∧∀ (j:Nat) t,fn.params[j]?=some t→Tryd.pinned.checked.prog.wantsStandIn t=false:=by
  obtain rfl:f=9:=Option.some.inj ((show Tryd.prog.funcNamed "gauntlet/gauntletlaw28.GuardsKnown" = some 9 by kernel_rfl).symm.trans hf) |>.symm
  obtain rfl:fn=Tryd.f9:=(Option.some.inj (Tryd.func9.symm.trans hfn)).symm
  refine ⟨by kernel_rfl,fun j t ht=>?_⟩
  rw [Tryd.params9] at ht
  simp at ht
theorem card {O:CallF} (hO:∀ B,CallOK B Tryd.prog.globals.size Tryd.prog O) (hrun:retIs (.lit (.bool true)) (O 9 [] H0)=true) : Rows.GuardsKnownCardSaid :=
  Claim7.holds_tied_plain_at .later [] _ _ _ _ (said hO hrun) (fun _ h=>by cases h) (by kernel_rfl) (fun _ h=>by cases h) guardsKnown_row_tie rfl ⟨rfl,rfl⟩ (by kernel_rfl) rfl plain (by kernel_rfl)
end Go.Proofs.YtfhkfifjbgcpiaaDoor
end
section
namespace Go.Ai
open Go.Proofs Go.ChangeShapes Go.WideShapes Go.ChangeAt Go.RowKit
set_option maxRecDepth 10000
variable {H:Type} {enc:TypeId×Value→H} {w:World} {base:Nat}
def IntSl (k:IntKind) (w:World) (s:Value) : Prop:=s=.slice none 0 0∨∃ (a:Addr) (len cap:Nat) (zs:List Int),s=.slice (some a) len cap∧len≤cap∧zs.length=cap∧(∀ i,i < zs.length→w.cell? (a.add i)=some (.int k (zs.getD i 0)))∧∀ z∈zs,(Lit.int k z).wf=true
theorem intSl_of {t e:TypeId} {k:IntKind} {fuel:Nat} {s:Value} {x:DataW H×List MemPlace} (ht:Tryd.prog.underlying t=some (.slice e)) (he:Tryd.prog.underlying e=some (.int k)) (hc:Tryd.prog.cellsOf e=1)
    (h:DataW.trod enc Tryd.prog w 0 (fun _=>true) true fuel t [s]=some x) : IntSl k w s:=by
  rcases open_ints ht he hc h with ⟨h1,_⟩ | ⟨a,len,cap,zs,h1,_,h2,_,h3,_,h4,h5⟩
  · exact .inl (by simpa using h1)
  · exact .inr ⟨a,len,cap,zs,by simpa using h1,h2,by simpa using h3,h4,h5⟩
theorem c25:Tryd.prog.cellsOf 25=2:=by kernel_rfl
theorem c22:Tryd.prog.cellsOf 22=1:=by kernel_rfl
theorem c23:Tryd.prog.cellsOf 23=1:=by kernel_rfl
theorem c5:Tryd.prog.cellsOf 5=1:=by kernel_rfl
theorem c21:Tryd.prog.cellsOf 21=1:=by kernel_rfl
theorem read_E {v:Value} {d:DataW H} {p:List MemPlace} (h:DataW.Trod enc Tryd.prog w 0 (fun _=>true) true 25 v d p) (hok:Value.okWide Tryd.prog w .any base 25 v) :
    ∃ cs s1 s2,v=.agg cs∧cs.toList=[s1,s2]∧IntSl .u8 w s1∧IntSl .i32 w s2:=by
  obtain ⟨fuel,h⟩:=h
  simp only [Value.okWide,Tryd.underlying25] at hok
  obtain ⟨cs,rfl,_⟩:=hok
  obtain ⟨y0,y1,m,_,hl,h1,h2⟩:=trod_struct2 Tryd.underlying25 h
  rw [c25] at hl
  have hl' : cs.toList.length=2:=hl
  obtain ⟨s1,s2,e⟩ : ∃ s1 s2,cs.toList=[s1,s2]:=by
    match cs.toList,hl' with
    | [s1,s2],_=>exact ⟨s1,s2,rfl⟩
  have h1' : DataW.trod enc Tryd.prog w 0 (fun _=>true) true m 22 ((cs.toList.drop 0).take (Tryd.prog.cellsOf 22))=some y0:=h1
  have h2' : DataW.trod enc Tryd.prog w 0 (fun _=>true) true m 23 ((cs.toList.drop 1).take (Tryd.prog.cellsOf 23))=some y1:=h2
  rw [e,c22] at h1'
  rw [e,c23] at h2'
  exact ⟨cs,s1,s2,rfl,e,intSl_of Tryd.underlying22 Tryd.underlying5 c5 h1',intSl_of Tryd.underlying23 Tryd.underlying21 c21 h2'⟩
theorem wf8 {z:Int} (h:(Lit.int .u8 z).wf=true) : 0≤z∧z≤255:=by
  simp only [Lit.wf,Bool.and_eq_true,decide_eq_true_eq] at h
  exact h
theorem wf32 {z:Int} (h:(Lit.int .i32 z).wf=true) : -2147483648≤z∧z≤2147483647:=by
  simp only [Lit.wf,Bool.and_eq_true,decide_eq_true_eq] at h
  exact h
theorem name_sl {B:Nat} {ρ:Rn} {k:IntKind} {g:Nat→Option Blk} {n:Nat} {v:Value} (s:Sim B 6 ρ ⟨.fn g,n⟩ w) (hno:NoOwn ⟨.fn g,n⟩) (h:IntSl k w v) :
    ∃ (ρ' : Rn) (g' : Nat→Option Blk) (n' : Nat) (av:AV) (zs:List Int),Sim B 6 ρ' ⟨.fn g',n'⟩ w∧NoOwn ⟨.fn g',n'⟩∧VR ρ' av v∧Sub ρ ρ'∧oneC av=true∧n≤n'∧(∀ a,a < n→g' a=g a) ∧
      SliceA g' n' av zs.length (zs.map fun z=>.lit (.int k z))∧∀ z∈zs,(Lit.int k z).wf=true:=by
  obtain ⟨ρ',g',n',av,zs,h1,h2,h3,h4,h5,h6,h7,h8,h9,h10⟩:=name_ints (k:=k) s hno (h.imp id fun ⟨a,len,cap,zs,e1,e2,e3,e4,_⟩=>⟨a,len,cap,zs,e1,e2,e3,e4⟩)
  refine ⟨ρ',g',n',av,zs,h1,h2,h3,h4,h5,h6,h7,?_,?_⟩
  · rcases h8 with h8 | ⟨c,e1,e2,e3⟩
    · exact .inl h8
    · exact .inr ⟨n,0,c,e2,e1,e3⟩
  · rcases h with rfl | ⟨a,len,cap,ys,e1,e2,e3,e4,e5⟩
    · rw [h9 rfl]; intro z hz; cases hz
    · rw [h10 a len cap ys e1 e4 e3 e2]
      exact fun z hz=>e5 z (List.mem_of_mem_take hz)
theorem u8_cells {zs:List Int} (h:∀ z∈zs,(Lit.int .u8 z).wf=true) : (zs.map fun z=>(.lit (.int .u8 z) : AV))=u8Cells (zs.map Int.toNat):=by
  unfold u8Cells
  rw [List.map_map]
  refine List.map_congr_left fun z hz=>?_
  have:=(wf8 (h z hz)).1
  simp [Function.comp,Int.toNat_of_nonneg this]
end Go.Ai
end
section
namespace Go.Proofs.YtfhkfifjbgcpiaaDoor
open Go Go.Ai Go.ChangeShapes Go.WideShapes Go.ChangeAt Go.RowKit
theorem laidOut:laidOutB Tryd.prog=true:=by kernel_rfl
end Go.Proofs.YtfhkfifjbgcpiaaDoor
end
section
namespace Go.Proofs.YtfhkfifjbgcpiaaDoor
open Go Go.Ai
end Go.Proofs.YtfhkfifjbgcpiaaDoor
end
