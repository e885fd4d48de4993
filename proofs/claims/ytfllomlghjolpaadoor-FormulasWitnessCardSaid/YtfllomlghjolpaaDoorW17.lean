/- A small verified interpreter over names, its proofs, and what was proved with it. No condition. -/
import Derived.Test.YtfllomlghjolpaaDoorCards
import Derived.Test.YtfllomlghjolpaaDoorTie
import Derived.WalkKit
import Derived.OpenShut
import Derived.Deep.DeepHandedRow
import Derived.LaidOnce
import Derived.Test.YtfllomlghjolpaaDoorW07
import Derived.Test.YtfllomlghjolpaaDoorW08
import Derived.Test.YtfllomlghjolpaaDoorW12
import Derived.Test.YtfllomlghjolpaaDoorW10
import Derived.Test.YtfllomlghjolpaaDoorW11
import Derived.Test.YtfllomlghjolpaaDoorW13
import Derived.Test.YtfllomlghjolpaaDoorW16
set_option linter.all false
set_option linter.deprecated false
section
namespace Go.Proofs.YtfllomlghjolpaaDoor
open Go Go.Ai Go.ChangeShapes Go.WideShapes Go.ChangeAt Go.RowKit
theorem own:ownKnob Tryd.prog.godebug=none:=by kernel_rfl
theorem laidOut:laidOutB Tryd.prog=true:=by kernel_rfl
theorem door_met (os:Os) (args:Array Value) : laidMetH Tryd.prog Rows.formulasKnownRow.laid ((World.doorLaid Tryd.prog 200 os).forCall (fun _ _=>0) ⟨#[],args,[]⟩).memory :=
 laidMetH_of_parts3 (fuel:=8) (laidMet_of_run' 8 (by kernel_rfl) (by kernel_rfl)) (by kernel_rfl) (by kernel_rfl)
theorem kinds:(Rows.formulasKnownRow.laid.all fun x=>x.2.handleName?.isNone || x.2.funcsIn?.isSome)=true:=by kernel_rfl
end Go.Proofs.YtfllomlghjolpaaDoor
end
section
namespace Go.Ai
open Go.Proofs Go.ChangeShapes Go.WideShapes Go.ChangeAt Go.RowKit
set_option maxRecDepth 10000
variable {H:Type} {enc:TypeId×Value→H} {w:World} {base:Nat}
def IntSl (k:IntKind) (w:World) (s:Value) : Prop:=s=.slice none 0 0∨∃ (a:Addr) (len cap:Nat) (zs:List Int),s=.slice (some a) len cap∧len≤cap∧zs.length=cap∧(∀ i,i < zs.length→w.cell? (a.add i)=some (.int k (zs.getD i 0)))∧∀ z∈zs,(Lit.int k z).wf=true
theorem intSl_of {t e:TypeId} {k:IntKind} {fuel:Nat} {s:Value} {x:DataW H×List MemPlace} (ht:Tryd.prog.underlying t=some (.slice e)) (he:Tryd.prog.underlying e=some (.int k)) (hc:Tryd.prog.cellsOf e=1)
  (h:DataW.trod enc Tryd.prog w 0 (fun _=>true) true fuel t [s]=some x) : IntSl k w s:=by
 rcases open_ints ht he hc h with ⟨h1,_⟩ | ⟨a,len,cap,zs,h1,_,h2,_,h3,_,h4,h5⟩
 ·exact .inl (by simpa using h1)
 ·exact .inr ⟨a,len,cap,zs,by simpa using h1,h2,by simpa using h3,h4,h5⟩
theorem c27:Tryd.prog.cellsOf 27=6:=by kernel_rfl
theorem c24:Tryd.prog.cellsOf 24=5:=by kernel_rfl
theorem c25:Tryd.prog.cellsOf 25=1:=by kernel_rfl
theorem c22:Tryd.prog.cellsOf 22=1:=by kernel_rfl
theorem c5:Tryd.prog.cellsOf 5=1:=by kernel_rfl
theorem c4:Tryd.prog.cellsOf 4=1:=by kernel_rfl
theorem c113:Tryd.prog.cellsOf 113=1:=by kernel_rfl
theorem six_of {cs:List Value} (h:cs.length=6) : ∃ a b c d e f,cs=[a,b,c,d,e,f]:=by
 match cs,h with
 | [a,b,c,d,e,f],_=>exact ⟨a,b,c,d,e,f,rfl⟩
theorem read_M {m:Nat} {a b c d e:Value} {x:DataW H×List MemPlace} (h:DataW.trod enc Tryd.prog w 0 (fun _=>true) true m 24 [a,b,c,d,e]=some x) :
  ∃ st inp out part,[a,b,c,d,e]=[.int .u8 st,.int .u8 inp,.int .u8 out,.bool part,e]∧(Lit.int .u8 st).wf=true∧(Lit.int .u8 inp).wf=true∧(Lit.int .u8 out).wf=true∧IntSl .u16 w e:=by
 obtain ⟨xs,m,rfl,_,hl,hn,he⟩:=DataW.trod_struct Tryd.underlying24 h
 have h0:DataW.trod enc Tryd.prog w 0 (fun _=>true) true m 5 (([a,b,c,d,e].drop 0).take (Tryd.prog.cellsOf 5))=xs[0]?:=he 0 _ rfl
 have h1:DataW.trod enc Tryd.prog w 0 (fun _=>true) true m 5 (([a,b,c,d,e].drop 1).take (Tryd.prog.cellsOf 5))=xs[1]?:=he 1 _ rfl
 have h2:DataW.trod enc Tryd.prog w 0 (fun _=>true) true m 5 (([a,b,c,d,e].drop 2).take (Tryd.prog.cellsOf 5))=xs[2]?:=he 2 _ rfl
 have h3:DataW.trod enc Tryd.prog w 0 (fun _=>true) true m 4 (([a,b,c,d,e].drop 3).take (Tryd.prog.cellsOf 4))=xs[3]?:=he 3 _ rfl
 have h4:DataW.trod enc Tryd.prog w 0 (fun _=>true) true m 22 (([a,b,c,d,e].drop 4).take (Tryd.prog.cellsOf 22))=xs[4]?:=he 4 _ rfl
 rw [c5] at h0 h1 h2
 rw [c4] at h3
 rw [c22] at h4
 have hn' : xs.length=5:=hn
 rw [List.getElem?_eq_getElem (by omega)] at h0 h1 h2 h3 h4
 obtain ⟨st,e0,_,w0⟩:=DataW.trod_int Tryd.underlying5 h0
 obtain ⟨inp,e1,_,w1⟩:=DataW.trod_int Tryd.underlying5 h1
 obtain ⟨out,e2,_,w2⟩:=DataW.trod_int Tryd.underlying5 h2
 obtain ⟨part,e3,_⟩:=DataW.trod_bool Tryd.underlying4 h3
 cases e0; cases e1; cases e2; cases e3
 exact ⟨st,inp,out,part,rfl,w0,w1,w2,intSl_of Tryd.underlying22 Tryd.underlying113 c113 h4⟩
theorem read_F {v:Value} {d:DataW H} {p:List MemPlace} (h:DataW.Trod enc Tryd.prog w 0 (fun _=>true) true 27 v d p) (hok:Value.okWide Tryd.prog w .any base 27 v) :
  ∃ cs st inp out part s1 s2,v=.agg cs∧cs.toList=[.int .u8 st,.int .u8 inp,.int .u8 out,.bool part,s1,s2]∧(Lit.int .u8 st).wf=true∧(Lit.int .u8 inp).wf=true∧(Lit.int .u8 out).wf=true∧IntSl .u16 w s1∧IntSl .u8 w s2:=by
 obtain ⟨fuel,h⟩:=h
 simp only [Value.okWide,Tryd.underlying27] at hok
 obtain ⟨cs,rfl,_⟩:=hok
 obtain ⟨y0,y1,m,_,hl,h1,h2⟩:=trod_struct2 Tryd.underlying27 h
 rw [c27] at hl
 have hl' : cs.toList.length=6:=hl
 obtain ⟨a,b,c,d,s1,s2,e⟩:=six_of hl'
 have h1' : DataW.trod enc Tryd.prog w 0 (fun _=>true) true m 24 ((cs.toList.drop 0).take (Tryd.prog.cellsOf 24))=some y0:=h1
 have h2' : DataW.trod enc Tryd.prog w 0 (fun _=>true) true m 25 ((cs.toList.drop 5).take (Tryd.prog.cellsOf 25))=some y1:=h2
 rw [e,c24] at h1'
 rw [e,c25] at h2'
 obtain ⟨st,inp,out,part,e1,w0,w1,w2,hs⟩:=read_M h1'
 cases e1
 exact ⟨cs,st,inp,out,part,s1,s2,rfl,e,w0,w1,w2,hs,intSl_of Tryd.underlying25 Tryd.underlying5 c5 h2'⟩
theorem wf8 {z:Int} (h:(Lit.int .u8 z).wf=true) : 0≤z∧z≤255:=by
 simp only [Lit.wf,Bool.and_eq_true,decide_eq_true_eq] at h
 exact h
theorem wf16 {z:Int} (h:(Lit.int .u16 z).wf=true) : 0≤z∧z≤65535:=by
 simp only [Lit.wf,Bool.and_eq_true,decide_eq_true_eq] at h
 exact h
theorem wf_nat {z:Int} (h:(Lit.int .u8 z).wf=true) : ∃ n:Nat,z=n∧n < 256:=⟨z.toNat,by have:=wf8 h; omega,by have:=wf8 h; omega⟩
theorem name_sl {B:Nat} {ρ:Rn} {k:IntKind} {g:Nat→Option Blk} {n:Nat} {v:Value} (s:Sim B 6 ρ ⟨.fn g,n⟩ w) (hno:NoOwn ⟨.fn g,n⟩) (h:IntSl k w v) :
  ∃ (ρ' : Rn) (g' : Nat→Option Blk) (n' : Nat) (av:AV) (zs:List Int),Sim B 6 ρ' ⟨.fn g',n'⟩ w∧NoOwn ⟨.fn g',n'⟩∧VR ρ' av v∧Sub ρ ρ'∧oneC av=true∧n≤n'∧(∀ a,a < n→g' a=g a) ∧
   SliceA g' n' av zs.length (zs.map fun z=>.lit (.int k z))∧∀ z∈zs,(Lit.int k z).wf=true:=by
 obtain ⟨ρ',g',n',av,zs,h1,h2,h3,h4,h5,h6,h7,h8,h9,h10⟩:=name_ints (k:=k) s hno (h.imp id fun ⟨a,len,cap,zs,e1,e2,e3,e4,_⟩=>⟨a,len,cap,zs,e1,e2,e3,e4⟩)
 refine ⟨ρ',g',n',av,zs,h1,h2,h3,h4,h5,h6,h7,?_,?_⟩
 ·rcases h8 with h8 | ⟨c,e1,e2,e3⟩
  ·exact .inl h8
  ·exact .inr ⟨n,0,c,e2,e1,e3⟩
 ·rcases h with rfl | ⟨a,len,cap,ys,e1,e2,e3,e4,e5⟩
  ·rw [h9 rfl]; intro z hz; cases hz
  ·rw [h10 a len cap ys e1 e4 e3 e2]
   exact fun z hz=>e5 z (List.mem_of_mem_take hz)
theorem u8_cells {zs:List Int} (h:∀ z∈zs,(Lit.int .u8 z).wf=true) : (zs.map fun z=>(.lit (.int .u8 z) : AV))=u8Cells (zs.map Int.toNat):=by
 unfold u8Cells
 rw [List.map_map]
 refine List.map_congr_left fun z hz=>?_
 have:=(wf8 (h z hz)).1
 simp [Function.comp,Int.toNat_of_nonneg this]
theorem u16_cells {zs:List Int} (h:∀ z∈zs,(Lit.int .u16 z).wf=true) : (zs.map fun z=>(.lit (.int .u16 z) : AV))=u16Cells (zs.map Int.toNat):=by
 unfold u16Cells
 rw [List.map_map]
 refine List.map_congr_left fun z hz=>?_
 have:=(wf16 (h z hz)).1
 simp [Function.comp,Int.toNat_of_nonneg this]
theorem name_F {B:Nat} {ρ:Rn} {g:Nat→Option Blk} {n:Nat} {v:Value} {d:DataW H} {p:List MemPlace} (s:Sim B 6 ρ ⟨.fn g,n⟩ w) (hno:NoOwn ⟨.fn g,n⟩)
  (h:DataW.Trod enc Tryd.prog w 0 (fun _=>true) true 27 v d p) (hok:Value.okWide Tryd.prog w .any base 27 v) :
  ∃ (ρ' : Rn) (g' : Nat→Option Blk) (n' : Nat) (st inp out:Nat) (part:Bool) (es codes:List Nat) (ev cv:AV),Sim B 6 ρ' ⟨.fn g',n'⟩ w∧NoOwn ⟨.fn g',n'⟩∧Sub ρ ρ'∧n≤n'∧(∀ a,a < n→g' a=g a) ∧
   (∀ ρ2,Sub ρ' ρ2→VR ρ2 (.agg [.lit (.int .u8 st),.lit (.int .u8 inp),.lit (.int .u8 out),.lit (.bool part),ev,cv]) v)∧st < 256∧inp < 256∧out < 256 ∧
   SliceA g' n' ev es.length (u16Cells es)∧(∀ c∈es,c < 65536)∧SliceA g' n' cv codes.length (u8Cells codes)∧∀ c∈codes,c < 256:=by
 obtain ⟨cs,st,inp,out,part,s1,s2,rfl,e,w0,w1,w2,i1,i2⟩:=read_F h hok
 obtain ⟨st,rfl,b0⟩:=wf_nat w0
 obtain ⟨inp,rfl,b1⟩:=wf_nat w1
 obtain ⟨out,rfl,b2⟩:=wf_nat w2
 obtain ⟨ρ1,g1,n1,av1,z1,t1,t2,t3,t4,t5,t6,t7,t8,t9⟩:=name_sl s hno i1
 obtain ⟨ρ2,g2,n2,av2,z2,u1,u2,u3,u4,u5,u6,u7,u8,u9⟩:=name_sl t1 t2 i2
 rw [u16_cells t9] at t8
 rw [u8_cells u9] at u8
 refine ⟨ρ2,g2,n2,st,inp,out,part,z1.map Int.toNat,z2.map Int.toNat,av1,av2,u1,u2,fun a x hx=>u4 a x (t4 a x hx),by omega,fun a ha=>by rw [u7 a (by omega),t7 a ha],fun ρ3 h3=>⟨cs,rfl,?_⟩,b0,b1,b2,?_,?_,?_,?_⟩
 ·rw [e]
  exact ⟨_,_,rfl,rfl,_,_,rfl,rfl,_,_,rfl,rfl,_,_,rfl,rfl,s1,_,rfl,(t3.mono u4).mono h3,s2,_,rfl,u3.mono h3,rfl⟩
 ·rw [List.length_map]
  exact t8.mono u6 u7
 ·intro c hc
  obtain ⟨z,hz,rfl⟩:=List.mem_map.1 hc
  have:=wf16 (t9 z hz)
  omega
 ·rw [List.length_map]; exact u8
 ·intro c hc
  obtain ⟨z,hz,rfl⟩:=List.mem_map.1 hc
  have:=wf8 (u9 z hz)
  omega
end Go.Ai
end
section
namespace Go.Ai
open Go.Proofs
set_option maxRecDepth 10000
set_option maxHeartbeats 40000000
end Go.Ai
end
section
namespace Go.Ai
open Go.Proofs Go.ChangeShapes Go.WideShapes Go.ChangeAt Go.RowKit
set_option maxRecDepth 10000
variable {H:Type} {enc:TypeId×Value→H} {w:World} {base:Nat}
theorem h0_get (i:Nat) (x:Blk) (hx:blks0[i]?=some x) : H0.get i=some x:=by
 have h9:=holds_spec (H:=H0) (l:=blks0) (i:=0) (by kernel_rfl) i x hx
 rwa [Nat.zero_add] at h9
end Go.Ai
end
section
namespace Go.Ai
open Go.Proofs Go.ChangeShapes Go.WideShapes Go.ChangeAt Go.RowKit
set_option maxRecDepth 10000
variable {H:Type} {enc:TypeId×Value→H} {w:World} {base:Nat}
theorem calls_W (hl:retIs (.lit (.bool true)) (callF Tryd.prog noO 10000 14 [] H0)=true) {W:World} {v0 v1 v2:Value} {d0 d1 d2:DataW H} {p0 p1 p2:List MemPlace} {base:Nat} (hL:laidMetH Tryd.prog YtfllomlghjolpaaDoor.Rows.formulasKnownRow.laid W)
  (h0:DataW.Trod enc Tryd.prog W 0 (fun _=>true) true 27 v0 d0 p0) (h1:DataW.Trod enc Tryd.prog W 0 (fun _=>true) true 5 v1 d1 p1) (h2:DataW.Trod enc Tryd.prog W 0 (fun _=>true) true 3 v2 d2 p2)
  (k0:Value.okWide Tryd.prog W .any base 27 v0) (k1:Value.okWide Tryd.prog W .any base 5 v1) (k2:Value.okWide Tryd.prog W .any base 3 v2) :
  Calls Tryd.prog 7 #[v0,v1,v2] W fun e W'=>e=.returned (.bool true)∧Below W.heap.size W W':=by
 obtain ⟨ρ,s,hno⟩:=start_sound hL YtfllomlghjolpaaDoor.kinds lay0
 have s' : Sim W.heap.size 6 ρ ⟨.fn H0.get,8⟩ W:=by rw [← hG] at s; exact s.toFn
 have hno' : NoOwn ⟨.fn H0.get,8⟩:=fun a x hx=>hno a x hx
 obtain ⟨wz,rfl,_,_,hwf⟩:=open_int Tryd.underlying5 k1 h1
 obtain ⟨sz,rfl,_,_,_⟩:=open_int Tryd.underlying3 k2 h2
 obtain ⟨wh,rfl,hwh⟩:=wf_nat hwf
 obtain ⟨ρ1,g1,n1,st,inp,out,part,es,codes,ev,cv,t1,t2,t3,t4,t5,t6,b0,b1,b2,c1,c2,c3,c4⟩:=name_F s' hno' h0 k0
 have hw:=formulasWitness_w hl st inp out part es codes ev cv wh sz g1 n1 (fun i x hx=>by rw [t5 i (List.getElem?_eq_some_iff.1 hx).1]; exact h0_get i x hx) t4 b0 b1 b2 c1 c2 c3 c4 hwh
 refine (hw W.heap.size ρ1 #[v0,.int .u8 wh,.int .i64 sz] W t1 ?_).mono ?_
 ·exact ⟨_,_,rfl,t6 ρ1 fun _ _ h=>h,_,_,rfl,rfl,_,_,rfl,rfl,rfl⟩
 ·rintro e W' ⟨r,⟨H',rfl⟩,hcp⟩
  cases e with
  | returned u=>obtain ⟨ρ',q1,q2,q3,q4⟩:=hcp; exact ⟨congrArg _ q3,q1.below⟩
  | _=>exact hcp.elim
end Go.Ai
end
section
namespace Go.Proofs.YtfllomlghjolpaaDoor
open Go Go.Ai Go.ChangeShapes Go.WideShapes Go.ChangeAt Go.RowKit
theorem readsW (os:Os) {H:Type} (enc:TypeId×Value→H) : ∃ places,DataW.whole enc Tryd.prog ((World.doorLaid Tryd.prog 200 os).forCall (fun _ _=>0) ⟨#[],#[.agg #[.int .u8 0,.int .u8 0,.int .u8 0,.bool false,.slice none 0 0,.slice none 0 0],.int .u8 0,.int .i64 0],[]⟩).memory Tryd.f7.params.toList Rows.formulasWitnessSpec.vars false (#[.agg #[.int .u8 0,.int .u8 0,.int .u8 0,.bool false,.slice none 0 0,.slice none 0 0],.int .u8 0,.int .i64 0] : Array Value).toList 8=some ([.agg [.agg [.lit (.int .u8 0),.lit (.int .u8 0),.lit (.int .u8 0),.lit (.bool false),.nil],.nil],.lit (.int .u8 0),.lit (.int .i64 0)],[],places) :=
 ⟨[],by kernel_rfl⟩
theorem door_metW (os:Os) (args:Array Value) : laidMetH Tryd.prog Rows.formulasWitnessRow.laid ((World.doorLaid Tryd.prog 200 os).forCall (fun _ _=>0) ⟨#[],args,[]⟩).memory:=door_met os args
set_option maxRecDepth 100000 in
theorem liftedW (hl:retIs (.lit (.bool true)) (callF Tryd.prog noO 10000 14 [] H0)=true) (os:Os) (started:os.Started) (H:Type) (enc:TypeId×Value→H) (F:Stop.Interp) :
  ReturnsInHanded {} Tryd.checked os 7 .any ((OpenSpec.ofChange Rows.formulasWitnessSpec).preRow enc Tryd.prog Tryd.f7 Rows.formulasWitnessRow.domain false Rows.formulasWitnessRow.laid) (((OpenSpec.ofChange Rows.formulasWitnessSpec).at F).post enc Tryd.prog Tryd.f7 false true false false):=by
 obtain ⟨places,hx⟩:=readsW os enc
 refine returnsInHanded_of_row (C:=Tryd.checked) (s:=OpenSpec.ofChange Rows.formulasWitnessSpec) own started (by kernel_rfl) Tryd.func7
  (witness_row_at (enc:=enc) (C:=Tryd.checked) false (World.doorLaid Tryd.prog 200 os) #[.agg #[.int .u8 0,.int .u8 0,.int .u8 0,.bool false,.slice none 0 0,.slice none 0 0],.int .u8 0,.int .i64 0] rfl (by kernel_rfl) (by kernel_rfl) (by kernel_rfl)
   (OpenSpec.preRow_of_cond 8 hx (by kernel_rfl) (fun k hk=>by cases hk) (by kernel_rfl) (door_metW os _))) ?_
 intro W base args ds gs before hval0 hW _ _ _ hL _ _
 have hval:∀ (j:Nat) t v,Tryd.f7.params[j]?=some t→args[j]?=some v→Value.okWide Tryd.prog W .any base t v:=hval0
 have hW':=hW
 obtain ⟨p,q,hA0,hV,rfl,hfz,hnd⟩:=hW
 have hA:DataW.TrodAll enc Tryd.prog W 0 (fun _=>true) true Tryd.f7.params.toList args.toList ds p:=hA0
 rw [Tryd.params7] at hA hval
 obtain ⟨v0,v1,v2,d0,d1,d2,p0,p1,p2,rfl,rfl,rfl,h0,h1,h2⟩:=trodAll_three hA
 obtain ⟨rfl,rfl⟩:=trodVars_none hV
 clear hA0
 have hlt:∀ x∈p0++(p1++p2),x.block < W.heap.size:=fun x hx=>by
  have:=hW'.lt x (by simpa using hx)
  exact this
 refine (calls_W (enc:=enc) hl hL h0 h1 h2 (hval 0 27 v0 rfl rfl) (hval 1 5 v1 rfl rfl) (hval 2 3 v2 rfl rfl)).mono fun e W' ⟨he,hB⟩=>?_
 subst he
 simp only [List.append_nil] at hW'
 refine ⟨_,rfl,post_below (pa:=p0++(p1++p2)) (pv:=[]) hW' (fun _ _ _=>trodAll_cons_mk (shut_bool Tryd.underlying4 _) trodAll_mk0) (fun sp hsp=>?_) (fun _ _=>rfl) (by simp) hB (ok_one (by kernel_rfl) rfl (okWide_bool_mk Tryd.underlying4 _))⟩
 have g0:=WideElems.Trod_stays (sp':=sp) laidOut (by kernel_rfl) (of_decide_eq_true (by kernel_rfl)) h0 (fun x hx=>hB.same (hlt x (by simp [hx]))) (fun x hx=>hsp x (by simp [hx]))
 have g1:=WideElems.Trod_stays (sp':=sp) laidOut (by kernel_rfl) (of_decide_eq_true (by kernel_rfl)) h1 (fun x hx=>hB.same (hlt x (by simp [hx]))) (fun x hx=>hsp x (by simp [hx]))
 have g2:=WideElems.Trod_stays (sp':=sp) laidOut (by kernel_rfl) (of_decide_eq_true (by kernel_rfl)) h2 (fun x hx=>hB.same (hlt x (by simp [hx]))) (fun x hx=>hsp x (by simp [hx]))
 exact trodAll_mk3 g0 g1 g2
theorem saidW (hl:retIs (.lit (.bool true)) (callF Tryd.prog noO 10000 14 [] H0)=true) : Rows.FormulasWitnessSaid :=
 OpenClaim.holds_of_cond 7 Tryd.f7 rfl rfl rfl rfl rfl rfl rfl ⟨rfl,rfl,rfl,rfl,rfl⟩ rfl rfl rfl rfl rfl (by kernel_rfl) Tryd.func7 (by kernel_rfl)
  (of_decide_eq_true (by kernel_rfl)) (by unfold Func.isWrapper; first | (rw [if_pos (by decide +kernel)]; kernel_rfl) | (rw [if_neg (by decide +kernel)]; exact ⟨rfl,rfl⟩))
  (fun os started H enc _ F=>by rw [OpenClaim.pre_eq_preRow]; exact liftedW hl os started H enc F)
theorem plainW (f:FuncId) (fn:Func) (hf:Tryd.pinned.checked.prog.funcNamed "gauntlet/gauntletlaw33.FormulasWitness" = some f) (hfn:Tryd.pinned.checked.prog.funcs[f]?=some fn) :
  true=Tryd.pinned.checked.prog.looks []∧∀ (j:Nat) t,fn.params[j]?=some t→Tryd.pinned.checked.prog.wantsStandIn t=false:=by
 obtain rfl:f=7:=Option.some.inj ((show Tryd.prog.funcNamed "gauntlet/gauntletlaw33.FormulasWitness" = some 7 by kernel_rfl).symm.trans hf) |>.symm
 obtain rfl:fn=Tryd.f7:=(Option.some.inj (Tryd.func7.symm.trans hfn)).symm
 refine ⟨by kernel_rfl,fun j t ht=>?_⟩
 rw [Tryd.params7] at ht
 have hm:t∈[27,5,3]:=by simpa using Array.mem_of_getElem? ht
 have hall:([27,5,3].all fun u=>!Tryd.prog.wantsStandIn u)=true:=by kernel_rfl
 exact (show Tryd.prog.wantsStandIn t=false by simpa using List.all_eq_true.1 hall t hm)
theorem cardW (hl:retIs (.lit (.bool true)) (callF Tryd.prog noO 10000 14 [] H0)=true) : Rows.FormulasWitnessCardSaid :=
 Claim7.holds_tied_plain_at .later [] _ _ _ _ (saidW hl) (fun _ h=>by cases h) (by kernel_rfl) (fun _ h=>by cases h) formulasWitness_row_tie rfl ⟨rfl,rfl⟩ (by kernel_rfl) rfl plainW (by kernel_rfl)
end Go.Proofs.YtfllomlghjolpaaDoor
end
