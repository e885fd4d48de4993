/- A small verified interpreter over names, its proofs, and what was proved with it. No condition. -/
import Derived.Test.YtfhkfifjbgcpiaaDoorPA3
import Derived.Test.YtfhkfifjbgcpiaaDoorPD4
import Derived.Test.YtfhkfifjbgcpiaaDoorPD3
import Derived.Test.YtfhkfifjbgcpiaaDoorPC6
set_option linter.all false
set_option linter.deprecated false
section
namespace Go.Ai
open Go.RowKit (Below)
variable {B G:Nat} {P:Program} {n n0:Nat} {ρ0 ρ:Rn} {w0 w:World} {fr:Fr} {H:Mem} {a:Act} {W:WF}
noncomputable def execDW (G:Nat) (P:Program) (n:Nat) (O:CallF) : Code→Fr→Mode→Mem→(OutD→Prop)→Prop
  | .seq x y,fr,u,H,Q=>execDW G P n O x fr u H fun r=>match r with
    | .norm fr u H=>execDW G P n O y fr u H Q
    | r=>Q r
  | .cond c x y,fr,u,H,Q=>match fr.ev c with
    | some (.lit (.bool true))=>execDW G P n O x fr u H Q
    | some (.lit (.bool false))=>execDW G P n O y fr u H Q
    | _=>False
  | .region _ ops false,fr,u,H,Q=>match seqOpsD P O ops ops.toList fr u H with
    | .bad=>False
    | r=>Q r
  | c,fr,u,H,Q=>XW G P n c fr H fun o=>match o with
    | .norm fr H=>Q (.norm fr u H)
    | .ret fr H=>Q (.ret fr u H)
    | _=>False
def EndD (B G n n0:Nat) (ρ0:Rn) (w0:World) (c₀:Frame) (cs:List Frame) (Q:OutD→Prop) : Exit→Act→List Frame→World→Prop:=fun e a' cs' w'=>∃ out,Q out∧OutPostD B G n n0 ρ0 w0 c₀ cs out e a' cs' w'
theorem liftDW_sound (c:Code) {c₀:Frame} {cs:List Frame} {u:Mode} {m:FrameMode} {Q:OutD→Prop} (s:St B G n n0 ρ0 w0 ρ fr H a w) (hm:MR ρ u m)
    (h:XW G P n c fr H fun o=>match o with | .norm fr H=>Q (.norm fr u H) | .ret fr H=>Q (.ret fr u H) | _=>False) :
    c.wpS P (EndD B G n n0 ρ0 w0 c₀ cs Q) a ({ c₀ with mode:=m } :: cs) w:=by
  have s1:St B G n H.next ρ w ρ fr H a w:=⟨Ext.refl _ _ _ _,s.sim,s.frel,Nat.le_refl _⟩
  refine wpS_of_wp (Code.wp_mono ?_ (h B H.next ρ w ρ a w s1))
  rintro e a' w' ⟨r,hq,h⟩
  have up:∀ {ρ' : Rn} {fr' : Fr} {H' : Mem},St B G n H.next ρ w ρ' fr' H' a' w'→MR ρ' u m∧St B G n n0 ρ0 w0 ρ' fr' H' a' w':=fun {ρ' fr' H'} s' =>
    ⟨hm.mono (s'.ext.sub s.sim),s.ext.trans s'.ext s.le,s'.sim,s'.frel,Nat.le_trans s.le s'.le⟩
  cases r with
  | norm fr' H'=>cases e <;> first | exact h.elim | (obtain ⟨ρ',s'⟩:=h; exact ⟨_,hq,ρ',m,rfl,(up s').1,(up s').2⟩)
  | ret fr' H'=>cases e <;> first | exact h.elim | (obtain ⟨ρ',s'⟩:=h; exact ⟨_,hq,ρ',m,rfl,(up s').1,(up s').2⟩)
  | exit id fr' H'=>exact hq.elim
  | panic v fr' H'=>exact hq.elim
  | bad=>exact hq.elim
theorem wpS_end {c:Code} {R R' : Exit→Act→List Frame→World→Prop} {c₀:List Frame} (h:∀ e a w cs,R e a cs w→R' e a cs w) (k:c.wpS P R a c₀ w) : c.wpS P R' a c₀ w:=by
  intro b k' hb hro
  obtain ⟨e,a',cs',w',hq,harr⟩:=k b k' hb hro
  exact ⟨e,a',cs',w',h _ _ _ _ hq,harr⟩
theorem execDW_sound {O:CallF} (hc:CallOK B G P O) (hG:G=P.globals.size) {c₀:Frame} {cs:List Frame} : ∀ (c:Code) (ρ:Rn) (fr:Fr) (u:Mode) (H:Mem) (m:FrameMode) (a:Act) (w:World) (Q:OutD→Prop),
    dstsOk n c=true→St B G n n0 ρ0 w0 ρ fr H a w→MR ρ u m→execDW G P n O c fr u H Q →
    c.wpS P (EndD B G n n0 ρ0 w0 c₀ cs Q) a ({ c₀ with mode:=m } :: cs) w:=by
  intro c
  induction c with
  | seq x y ihx ihy =>
    intro ρ fr u H m a w Q hd s hm h
    simp only [dstsOk,Bool.and_eq_true] at hd
    simp only [execDW] at h
    refine wpS_seq ?_
    have key:=ihx ρ fr u H m a w _ hd.1 s hm h
    intro b k hb hro
    obtain ⟨e,a',cs',w',⟨out,hq,ho⟩,harr⟩:=key b k hb hro
    refine ⟨e,a',cs',w',?_,harr⟩
    cases out with
    | norm fr' u' H' =>
      cases e with
      | normal =>
        obtain ⟨ρ',m',rfl,hm',s'⟩:=ho
        exact ihy ρ' fr' u' H' m' a' w' Q hd.2 s' hm' hq
      | _=>exact ho.elim
    | ret fr' u' H'=>cases e <;> first | exact ho.elim | exact ⟨_,hq,ho⟩
    | bad=>cases e <;> exact ho.elim
  | cond cnd x y ihx ihy =>
    intro ρ fr u H m a w Q hd s hm h
    simp only [dstsOk,Bool.and_eq_true] at hd
    simp only [execDW] at h
    split at h
    · rename_i hev
      have:=s.ev _ _ hev
      exact wpS_cond (t:=true) this (ihx ρ fr u H m a w Q hd.1 s hm h)
    · rename_i hev
      have:=s.ev _ _ hev
      exact wpS_cond (t:=false) this (ihy ρ fr u H m a w Q hd.2 s hm h)
    · exact h.elim
  | region id ops draw =>
    intro ρ fr u H m a w Q hd s hm h
    cases draw with
    | true=>exact liftDW_sound (.region id ops true) s hm h
    | false =>
      simp only [execDW] at h
      generalize hr:seqOpsD P O ops ops.toList fr u H=r at h
      have hne:r≠.bad:=by rintro rfl; exact h
      have hq:Q r:=by cases r <;> first | exact h | exact absurd rfl hne
      refine wpS_end (R:=OutPostD B G n n0 ρ0 w0 c₀ cs r) (fun e a w cs hh=>⟨r,hq,hh⟩) ?_
      refine wpS_region ?_
      have:=seqOpsD_sound (c₀:=c₀) (cs:=cs) hc hG hne ops.toList 0 fr u H ρ m a w (fun j=>by simp) (fun o ho=>List.all_eq_true.1 hd o ho) s hm hr
      rw [List.range_eq_range']
      simpa using this
  | _=>intro ρ fr u H m a w Q hd s hm h; exact liftDW_sound _ s hm h
noncomputable def endDW (P:Program) (g:Func) (K:Mode→Mem→Prop) : OutD→Prop
  | .norm fr u H=>match fr.defers,resultsA P g fr H,u with
    | [],some _,.recovered _=>K .returning H
    | [],some _,.returning=>K .returning H
    | [],some _,.panicking v=>K (.panicking v) H
    | _,_,_=>False
  | .ret fr u H=>match fr.defers,resultsA P g fr H,u with
    | [],some _,.recovered _=>K .returning H
    | [],some _,.returning=>K .returning H
    | [],some _,.panicking v=>K (.panicking v) H
    | _,_,_=>False
  | .bad=>False
noncomputable def lastW (P:Program) (fn:Func) (fr:Fr) (K:COut→Prop) : Mode→Mem→Prop
  | .returning,H=>match resultsA P fn fr H with
    | some v=>K (.ret v H)
    | none=>False
  | .panicking v,H=>K (.panic v H)
  | .recovered _,_=>False
noncomputable def deferW (G:Nat) (P:Program) (O:CallF) (fn:Func) (fr:Fr) (K:COut→Prop) (u:Mode) (H:Mem) : Prop :=
  match fr.defers with
  | []=>lastW P fn fr K u H
  | [(.func f,cap,args)]=>∃ g c,P.funcs[f]?=some g∧g.body=some c∧hasBody P f=true∧dstsOk g.ntmps c=true∧(args++cap).length≤g.ntmps ∧
    execDW G P g.ntmps O c (frameW (args++cap)) u H (endDW P g (lastW P fn fr K))
  | _=>False
noncomputable def leaveX (G:Nat) (P:Program) (O:CallF) (fn:Func) (K:COut→Prop) : Out→Prop
  | .norm fr H=>deferW G P O fn fr K .returning H
  | .ret fr H=>deferW G P O fn fr K .returning H
  | .panic v fr H=>deferW G P O fn fr K (.panicking v) H
  | _=>False
theorem lastW_sound {fn:Func} {K:COut→Prop} (hG:G=P.globals.size) {u:Mode} {m:FrameMode} (s:St B G n n0 ρ0 w0 ρ fr H a w) (hm:MR ρ u m) (h:lastW P fn fr K u H) :
    Leaves P fn a.tmps (fun e w'=>∃ r,K r∧CPost B G n0 ρ0 w0 r e w') [] m w:=by
  cases u with
  | returning =>
    cases hm
    simp only [lastW] at h
    split at h
    · rename_i v hv
      obtain ⟨x,hx,hvx⟩:=results_sound s hG hv
      exact ⟨x,hx,_,h,ρ,s.ext,s.sim,hvx,s.le⟩
    · exact h.elim
  | panicking v =>
    obtain ⟨x,rfl,hx⟩:=hm
    exact ⟨_,h,ρ,x,rfl,hx,s.ext,s.sim,s.le⟩
  | recovered v=>exact h.elim
theorem deferW_sound {O:CallF} {fn:Func} {K:COut→Prop} (hc:CallOK B G P O) (hG:G=P.globals.size) {u:Mode} {m:FrameMode} (s:St B G n n0 ρ0 w0 ρ fr H a w) (hm:MR ρ u m) (h:deferW G P O fn fr K u H) :
    Leaves P fn a.tmps (fun e w'=>∃ r,K r∧CPost B G n0 ρ0 w0 r e w') a.defers m w:=by
  have hd:=s.frel.dfr
  unfold deferW at h
  split at h
  · rename_i h0
    rw [h0] at hd
    rw [show a.defers=[] from hd]
    exact lastW_sound hG s hm h
  · rename_i f cap args h0
    rw [h0] at hd
    obtain ⟨cs,aa,ds',h1,hcap,hargs,hd'⟩:=hd
    cases hd'
    rw [h1]
    obtain ⟨g,c,hg,hbody,hhas,hdst,hlen,hx⟩:=h
    have hrun:m≠.run:=by
      cases u with
      | returning=>cases hm; simp
      | panicking v=>obtain ⟨x,rfl,_⟩:=hm; simp
      | recovered v=>obtain ⟨x,rfl,_⟩:=hm; simp
    have hva:VRs ρ (args++cap) (aa++cs).toList:=by simpa using hargs.append hcap
    refine ⟨hrun,.func f,cs,f,aa++cs,rfl,?_,?_⟩
    · show (callFunc f (aa++cs)).run P w=_
      exact hasBody_run hhas _ w
    · refine callsD_of_wpS hg hbody fun c₀ cs0 hmode=>?_
      have s1:St B G g.ntmps H.next ρ w ρ (frameW (args++cap)) H { tmps:=(aa++cs)++Array.replicate (g.ntmps - (aa++cs).size) undef,defers:=[] } w:=⟨Ext.refl _ _ _ _,s.sim,frameW_entered hva hlen,Nat.le_refl _⟩
      have hc0:({ c₀ with mode:=m } : Frame)=c₀:=by subst hmode; rfl
      have key:=execDW_sound (c₀:=c₀) (cs:=cs0) hc hG c ρ _ u H m _ w _ hdst s1 hm hx
      rw [hc0] at key
      intro b k hb hro
      obtain ⟨e,a',cs',w',⟨r,hq,ho⟩,harr⟩:=key b k hb hro
      refine ⟨e,a',cs',w',?_,harr⟩
      have fin:∀ {fr' : Fr} {u' : Mode} {H' : Mem} {ρ' : Rn} {m' : FrameMode},cs' = { c₀ with mode:=m' } :: cs0→MR ρ' u' m'→St B G g.ntmps H.next ρ w ρ' fr' H' a' w' →
          (match fr'.defers,resultsA P g fr' H',u' with
            | [],some _,.recovered _=>lastW P fn fr K .returning H'
            | [],some _,.returning=>lastW P fn fr K .returning H'
            | [],some _,.panicking v=>lastW P fn fr K (.panicking v) H'
            | _,_,_=>False) →
          a'.defers=[]∧∃ u2,cs' = { c₀ with mode:=u2 } :: cs0∧∃ v,(results g a'.tmps).run P w'=.ok v w'∧Leaves P fn a.tmps (fun e w'=>∃ r,K r∧CPost B G n0 ρ0 w0 r e w') [] (settle u2) w':=by
        intro fr' u' H' ρ' m' hcs hm' s' hmatch
        have sub:=s'.ext.sub s.sim
        have hs2:St B G n n0 ρ0 w0 ρ' fr H' a w':=⟨s.ext.trans s'.ext s.le,s'.sim,s.frel.mono sub,Nat.le_trans s.le s'.le⟩
        have hdf:fr'.defers=[]→a'.defers=[]:=fun h0=>by have:=s'.frel.dfr; rw [h0] at this; exact this
        split at hmatch
        · rename_i v x h1 h2
          obtain ⟨y,hy,_⟩:=results_sound s' hG h2
          obtain ⟨z,rfl,hz⟩:=hm'
          exact ⟨hdf h1,_,hcs,y,hy,lastW_sound (u:=.returning) (m:=.returning) hG hs2 rfl hmatch⟩
        · rename_i v h1 h2
          obtain ⟨y,hy,_⟩:=results_sound s' hG h2
          cases hm'
          exact ⟨hdf h1,_,hcs,y,hy,lastW_sound (u:=.returning) (m:=.returning) hG hs2 rfl hmatch⟩
        · rename_i v x h1 h2
          obtain ⟨y,hy,_⟩:=results_sound s' hG h2
          obtain ⟨z,rfl,hz⟩:=hm'
          exact ⟨hdf h1,_,hcs,y,hy,lastW_sound (u:=.panicking _) (m:=.panicking [{ v:=z,recovered:=false }]) hG hs2 ⟨z,rfl,hz⟩ hmatch⟩
        · exact hmatch.elim
      cases r with
      | norm fr' u' H' =>
        cases e with
        | normal=>obtain ⟨ρ',m',hcs,hm',s'⟩:=ho; exact fin hcs hm' s' hq
        | _=>exact ho.elim
      | ret fr' u' H' =>
        cases e with
        | ret=>obtain ⟨ρ',m',hcs,hm',s'⟩:=ho; exact fin hcs hm' s' hq
        | _=>exact ho.elim
      | bad=>exact hq.elim
  · exact h.elim
theorem WC.enterX {f:FuncId} {fn:Func} {c:Code} {args:List AV} {K:COut→Prop} {O:CallF} (hO:∀ B,CallOK B G P O) (hG:G=P.globals.size) (plan:List (Nat×List It)) (hf:P.funcs[f]?=some fn) (hb:fn.body=some c)
    (hd:(dstsOk fn.ntmps c && codeOk P plan c)=true) (hl:args.length≤fn.ntmps) (h:execP P (orW O (WC G P)) (LX G P fn.ntmps) plan c (frameW args) H (leaveX G P O fn K)) : WC G P f args H K:=by
  rw [Bool.and_eq_true] at hd
  intro B ρ us w s hv
  have s1:St B G fn.ntmps H.next ρ w ρ (frameW args) H { tmps:=us++Array.replicate (fn.ntmps - us.size) undef,defers:=[] } w:=⟨Ext.refl _ _ _ _,s,frameW_entered hv hl,Nat.le_refl _⟩
  refine calls_of_wp_defers hf hb (Code.wp_mono ?_ (execP_sound (orW_ok hO) (orW_mono (WC_mono' G P)) hG c _ H _ hd.1 hd.2 h B H.next ρ w ρ _ w s1))
  rintro e a' w' ⟨out,hq,ho⟩
  cases out with
  | norm fr' H' =>
    cases e with
    | normal=>obtain ⟨ρ',s'⟩:=ho; exact deferW_sound (hO B) hG (u:=.returning) (m:=.returning) s' rfl hq
    | _=>exact ho.elim
  | ret fr' H' =>
    cases e with
    | ret=>obtain ⟨ρ',s'⟩:=ho; exact deferW_sound (hO B) hG (u:=.returning) (m:=.returning) s' rfl hq
    | _=>exact ho.elim
  | panic v fr' H' =>
    cases e with
    | panic chain=>obtain ⟨ρ',x,rfl,hx,s'⟩:=ho; exact deferW_sound (hO B) hG (u:=.panicking v) s' ⟨x,rfl,hx⟩ hq
    | _=>exact ho.elim
  | exit id fr' H'=>exact hq.elim
  | bad=>exact hq.elim
theorem XW.planned {O:CallF} (hO:∀ B,CallOK B G P O) (hG:G=P.globals.size) (plan:List (Nat×List It)) {id:Nat} {ops:Array Oper} {Q:Out→Prop} (hd:(dstsOk n (.region id ops true) && codeOk P plan (.region id ops true))=true)
    (h:regP P (orW O (WC G P)) ops Q (planAt plan id) fr H) : XW G P n (.region id ops true) fr H Q:=by
  rw [Bool.and_eq_true] at hd
  exact execP_sound (plan:=plan) (orW_ok hO) (orW_mono (WC_mono' G P)) hG (.region id ops true) fr H Q hd.1 hd.2 h
end Go.Ai
end
section
namespace Go.Ai
open Go.Proofs
set_option maxRecDepth 10000
set_option maxHeartbeats 4000000
section
variable {P:Program} {O:CallF} {L:LoopF} {ops:Array Oper} {l:List Oper} {fr:Fr} {u:Mode} {H H' : Mem} {d:Option Tmp} {op:Op} {t:TypeId} {p:String} {af:Array Edge}
theorem seqD_val {v:AV} (h:opV P H fr.ev ⟨d,op,t,p,af,none⟩=.val v H') : seqOpsD P O ops (⟨d,op,t,p,af,none⟩ :: l) fr u H=seqOpsD P O ops l (fr.put d v) u H':=by
  show (afterD O ⟨d,op,t,p,af,none⟩ fr u (seqOpsD P O ops l) H (opV P H fr.ev ⟨d,op,t,p,af,none⟩))=_
  rw [h]
  show fr.putK d v _=_
  rw [Fr.putK_eq]
theorem seqD_skip (h:opV P H fr.ev ⟨d,op,t,p,af,none⟩=.skip H') : seqOpsD P O ops (⟨d,op,t,p,af,none⟩ :: l) fr u H=seqOpsD P O ops l (fr.put d (.lit undef)) u H':=by
  show (afterD O ⟨d,op,t,p,af,none⟩ fr u (seqOpsD P O ops l) H (opV P H fr.ev ⟨d,op,t,p,af,none⟩))=_
  rw [h]
  show fr.putK d (.lit undef) _=_
  rw [Fr.putK_eq]
theorem seqD_rec (h:opV P H fr.ev ⟨d,op,t,p,af,none⟩=.recover) : seqOpsD P O ops (⟨d,op,t,p,af,none⟩ :: l) fr .returning H=seqOpsD P O ops l (fr.put d (.lit .nilIface)) .returning H:=by
  show (afterD O ⟨d,op,t,p,af,none⟩ fr .returning (seqOpsD P O ops l) H (opV P H fr.ev ⟨d,op,t,p,af,none⟩))=_
  rw [h]
  show fr.putK d (.lit .nilIface) _=_
  rw [Fr.putK_eq]
end
noncomputable def fr32 (p x a e:AV) : Fr:=((((frame0 19).put (some 0) p).put (some 1) x).put (some 2) a).put (some 3) e
theorem leave_32 {O:CallF} {L:LoopF} {fr:Fr} {g:Nat→Option Blk} {n:Nat} {p x a e:AV} :
    leave Tryd.prog O L Tryd.f13 fr [(.func 32,[p,x,a,e],[])] .returning ⟨.fn g,n⟩=leave Tryd.prog O L Tryd.f13 fr [] .returning ⟨.fn (gput (gput g n (some (.cells [.lit (.int .i64 0)] true 0))) n (some (.cells [.lit (.int .i64 0)] true 0))),n+1⟩:=by
  show leaveF Tryd.prog O L 32 ([]++[p,x,a,e]) .returning ⟨.fn g,n⟩ (leave Tryd.prog O L Tryd.f13 fr [])=_
  generalize hk:leave Tryd.prog O L Tryd.f13 fr []=k
  unfold leaveF
  rw [Tryd.func32]
  dsimp only
  rw [hb32]
  have e0:(dstsOk Tryd.f32.ntmps (Tryd.f32.body.getD .skip))=true:=by decide +kernel
  have e1:(Nat.ble (len ([]++[p,x,a,e])) Tryd.f32.ntmps)=true:=by kernel_rfl
  have hbody:Tryd.f32.body=some (Tryd.f32.body.getD .skip):=rfl
  rw [hbody]
  dsimp only
  rw [e0,e1]
  dsimp only
  show leaveD Tryd.prog Tryd.f32 k (execD Tryd.prog O L (Tryd.f32.body.getD .skip) (fr32 p x a e) .returning ⟨.fn g,n⟩)=_
  unfold Tryd.f32
  dsimp only [Option.getD]
  show leaveD Tryd.prog _ k (match seqOpsD Tryd.prog O _ _ (fr32 p x a e) .returning ⟨.fn g,n⟩ with | .norm fr u H=>execD Tryd.prog O L _ fr u H | r=>r)=_
  rw [seqD_rec (by kernel_rfl),seqD_val (v:=.lit (.tuple #[.agg #[.int .i64 0],.bool false])) (H':=⟨.fn g,n⟩) (by kernel_rfl),seqD_val (v:=.lit (.tuple #[.agg #[.int .i64 0],.bool false])) (H':=⟨.fn g,n⟩) (by kernel_rfl),
    seqD_val (v:=.lit (.agg #[.int .i64 0])) (H':=⟨.fn g,n⟩) (by kernel_rfl),seqD_val (v:=.lit (.bool false)) (H':=⟨.fn g,n⟩) (by kernel_rfl),
    seqD_val (v:=.ptr n 0) (H':=⟨.fn (gput g n (some (.cells [.lit (.int .i64 0)] true 0))),n+1⟩) (by kernel_rfl)]
  rw [seqD_skip (H':=⟨.fn (gput (gput g n (some (.cells [.lit (.int .i64 0)] true 0))) n (some (.cells [.lit (.int .i64 0)] true 0))),n+1⟩) ?_]
  rotate_left 1
  · show oStore Tryd.prog ⟨.fn (gput g n (some (.cells [.lit (.int .i64 0)] true 0))),n+1⟩ 69 (some (.ptr n 0)) (some (.lit (.agg #[.int .i64 0])))=_
    rw [oStore_ptr,show cellsOf (.lit (.agg #[.int .i64 0]))=[.lit (.int .i64 0)] from rfl]
    simp
  rw [seqD_val (v:=.lit (.bool false)) (H':=⟨.fn (gput (gput g n (some (.cells [.lit (.int .i64 0)] true 0))) n (some (.cells [.lit (.int .i64 0)] true 0))),n+1⟩) (by kernel_rfl)]
  subst hk
  kernel_rfl
theorem leaveW_32 {O:CallF} {K:COut→Prop} {gf:Nat→Option AV} {g:Nat→Option Blk} {n:Nat} {p x a e:AV} : leaveW Tryd.prog O Tryd.f13 K (.ret (.f gf [(.func 32,[p,x,a,e],[])]) ⟨.fn g,n⟩) =
    endW Tryd.prog Tryd.f13.results.toList K (.f gf [(.func 32,[p,x,a,e],[])]) ⟨.fn (gput (gput g n (some (.cells [.lit (.int .i64 0)] true 0))) n (some (.cells [.lit (.int .i64 0)] true 0))),n+1⟩:=by
  show (match leave Tryd.prog O (fun _ _ _=>.bad) Tryd.f13 (.f gf [(.func 32,[p,x,a,e],[])]) [(.func 32,[p,x,a,e],[])] .returning ⟨.fn g,n⟩ with | .bad=>False | r=>K r)=_
  rw [leave_32,leave_nil]
  unfold resultsA endW
  rcases resVars Tryd.prog _ _ Tryd.f13.results.toList with _ | l
  · rfl
  · match l with
    | []=>rfl
    | [_]=>rfl
    | _ :: _ :: _=>rfl
section
variable {P:Program} {W:WF} {Q:Out→Prop} {fr:Fr} {H:Mem} {ev:Ev} {d:Option Tmp} {ty:TypeId} {p:String} {af:Array Edge} {g:Option (Nat×Bool)}
noncomputable def dfrS (P:Program) (H:Mem) (ev:Ev) (o:Oper) (args:Option (List AV)) (f:Option AV) : R:=match args,f with
  | some args,some (.func fn first cap)=>.dfr fn cap (first++args) H
  | _,_=>opV P H ev o
theorem op_defer {f:Operand} {args:Array Operand} {at_:Array TypeId} : opV P H ev ⟨d,.defer ⟨.value f,args,at_⟩,ty,p,af,g⟩=dfrS P H ev ⟨d,.defer ⟨.value f,args,at_⟩,ty,p,af,g⟩ (evals ev args.toList) (ev f):=by
  unfold dfrS
  split
  · rename_i l fn first cap h1 h2
    show deferOp H ev ⟨.value f,args,at_⟩=_
    unfold deferOp
    dsimp only
    rw [h1]
    dsimp only
    rw [h2]
  · rfl
theorem dfrS_congr {tk:Nat} (_h0:tick=tk) {o:Oper} {args args' : Option (List AV)} {f f' : Option AV} (h1:args=args') (h2:f=f') : dfrS P H ev o args f=dfrS P H ev o args' f':=by rw [h1,h2]
attribute [congr] dfrS_congr
theorem dfrS_some {o:Oper} {args first cap:List AV} {fn:Fn} : dfrS P H ev o (some args) (some (.func fn first cap))=.dfr fn cap (first++args) H:=(rfl)
theorem afterW_dfr {o:Oper} {k:Fr→Mem→Prop} {fn:Fn} {cap args:List AV} : afterW W o fr k Q (.dfr fn cap args H)=k ((fr.defer (fn,cap,args)).put o.dst (.lit undef)) H:=(rfl)
theorem fr_defer {gf:Nat→Option AV} {ds:List Dfr} {x:Dfr} : (Fr.f gf ds).defer x=Fr.f gf (x :: ds):=(rfl)
attribute [simp] op_defer dfrS_some afterW_dfr fr_defer
end
attribute [simp] leaveW_32
end Go.Ai
end
section
namespace Go.Ai
open Go.Proofs
set_option maxRecDepth 10000
set_option maxHeartbeats 40000000
def runF (F:Nat→Int→Bool) (s:ByteArray) (k:Nat) : Nat→Nat→Nat
  | 0,j=>j
  | m+1,j=>if k+j < s.size then (if F j (bAt s (k+j))=true then runF F s k m (j+1) else j) else j
def fPart:Nat→Int→Bool:=fun _ c=>partM c
def fDigit:Nat→Int→Bool:=fun _ c=>digitM c
def fLess:Nat→Int→Bool:=fun j c=>decide (c=61) && decide (j=1)
theorem runF_le {F:Nat→Int→Bool} {s:ByteArray} {k:Nat} : ∀ (m j:Nat),k+j≤s.size→j≤runF F s k m j∧k+runF F s k m j≤s.size
  | 0,j,h=>⟨Nat.le_refl _,h⟩
  | m+1,j,h=>by
    unfold runF
    split
    · split
      · have:=runF_le (F:=F) (s:=s) (k:=k) m (j+1) (by omega); omega
      · exact ⟨Nat.le_refl _,h⟩
    · exact ⟨Nat.le_refl _,h⟩
theorem u8_bat (s:ByteArray) (k:Nat) : 0≤bAt s k∧bAt s k≤255:=by
  unfold bAt
  split
  · rename_i h
    have:=s[k].toNat_lt
    omega
  · omega
theorem is_part (s:ByteArray) (k B p N:Nat) (sv tv:AV) (g:Nat→Option Blk) (n:Nat) (hs:s.size≤1000000) (hk:k+1≤s.size) (hB:g B=some (.cells [.ptr p 0] true 0)) (hp:g p=some (.cells [sv,.lit (.string s),tv,.lit (.int .i64 k)] true 0)) (hN:g N=some (.cells [.lit (.int .i64 1)] true 0))
    (n1:B≠N) (n2:p≠N) (l1:B < n) (l2:p < n) (l3:N < n) :
    WC 6 Tryd.prog 54 [.lit (.func (.func 56) #[] #[]),.ptr B 0,.ptr N 0] ⟨.fn g,n⟩ fun r=>∃ g',r=.ret (.tup []) ⟨.fn g',n⟩∧(∀ a,a≠N→g' a=g a)∧g' N=some (.cells [.lit (.int .i64 (runF fPart s k (s.size - k - 1) 1))] true 0):=by
  refine WC.enterP (noO_ok _ _) hG6 pl54 Tryd.func54 rfl (by decide +kernel) (Nat.le_of_ble_eq_true (by kernel_rfl)) ?_
  iterate 8 (all_goals try (first | with_reducible refine splitI (fun h=>?_) (fun h=>?_) | with_reducible refine splitBI (fun h=>?_) (fun h=>?_) | simp (disch:=first | assumption | omega | (simp; done) | fail) [Tryd.results54, *]))
  refine LX.ind (fun m gf H'=>∃ (j:Nat) (g' : Nat→Option Blk),1≤j∧k+j≤s.size∧m=s.size - k - j∧H'=⟨.fn g',n⟩∧(∀ a,a≠N→g' a=g a)∧g' N=some (.cells [.lit (.int .i64 j)] true 0)∧gf 0=some (.lit (.func (.func 56) #[] #[]))∧gf 1=some (.ptr B 0)∧gf 2=some (.ptr N 0)∧runF fPart s k (s.size - k - 1) 1=runF fPart s k (s.size - k - j) j) (m0:=s.size - k - 1) ?_ ?_
  · exact ⟨1,g,by omega,by omega,rfl,rfl,fun _ _=>rfl,hN,by simp,by simp,by simp,rfl⟩
  rintro m gf H' ⟨j,g',hj,hkj,rfl,rfl,hg',hN',q0,q1,q2,hr⟩ ih
  refine LX.roundP (noO_ok _ _) hG6 pl54 (by decide +kernel) ?_
  have hB' : g' B=some (.cells [.ptr p 0] true 0):=(hg' B n1).trans hB
  have hp' : g' p=some (.cells [sv,.lit (.string s),tv,.lit (.int .i64 k)] true 0):=(hg' p n2).trans hp
  have HG:=Hide.mk hg'
  have HR:=Hide.mk hr
  clear hg' hr hB hp hN
  by_cases hlt:k+j < s.size
  · have hltI:(k:Int)+(j:Int) < (s.size:Int):=by omega
    have htn:((k:Int)+(j:Int)).toNat=k+j:=by omega
    have hrr:runF fPart s k (s.size - k - j) j=if fPart j (bAt s (k+j))=true then runF fPart s k (s.size - k - (j+1)) (j+1) else j:=by
      rw [show s.size - k - j=(s.size - k - (j+1))+1 by omega,runF,if_pos hlt]
    have HRR:=Hide.mk hrr
    clear hrr
    iterate 12 (all_goals try (first | with_reducible refine splitI (fun h=>?_) (fun h=>?_) | with_reducible refine splitBI (fun h=>?_) (fun h=>?_) | simp (disch:=first | assumption | omega | (simp; done) | fail) [Tryd.results54, *]))
    refine WC.mono (part_w _ _) ?_
    rintro _ rfl
    cases hF:partM (bAt s (k+j))
    all_goals
      iterate 12 (all_goals try (first | with_reducible refine splitI (fun h=>?_) (fun h=>?_) | with_reducible refine splitBI (fun h=>?_) (fun h=>?_) | simp (disch:=first | assumption | omega | (simp; done) | fail) [Tryd.results54, *]))
    all_goals first
      | (refine ih.out (s.size - k - (j+1)) _ _ (by omega) ⟨j+1,_,by omega,by omega,rfl,rfl,fun a ha=>(gput_ne ha).trans (HG.out a ha),by (simp [gput_eq]; try omega),by simp [*],by simp [*],by simp [*],HR.out.trans (HRR.out.trans (if_pos ?_))⟩
         first | exact hF | (simp [fLess, *]; done) | (simp [fLess]; omega))
      | (refine ⟨fun a ha=>HG.out a ha,?_⟩
         rw [HR.out,HRR.out,if_neg]
         first | (rw [show fPart j (bAt s (k+j))=false from hF]; simp; done) | (simp [fLess, *]; done) | (simp [fLess]; omega))
  · have hltI:¬(k:Int)+(j:Int) < (s.size:Int):=by omega
    iterate 12 (all_goals try (first | with_reducible refine splitI (fun h=>?_) (fun h=>?_) | with_reducible refine splitBI (fun h=>?_) (fun h=>?_) | simp (disch:=first | assumption | omega | (simp; done) | fail) [Tryd.results54, *]))
    exact ⟨fun a ha=>HG.out a ha,by rw [HR.out,show s.size - k - j=0 by omega]; rfl⟩
theorem is_digit (s:ByteArray) (k B p N:Nat) (sv tv:AV) (g:Nat→Option Blk) (n:Nat) (hs:s.size≤1000000) (hk:k+1≤s.size) (hB:g B=some (.cells [.ptr p 0] true 0)) (hp:g p=some (.cells [sv,.lit (.string s),tv,.lit (.int .i64 k)] true 0)) (hN:g N=some (.cells [.lit (.int .i64 1)] true 0))
    (n1:B≠N) (n2:p≠N) (l1:B < n) (l2:p < n) (l3:N < n) :
    WC 6 Tryd.prog 54 [.lit (.func (.func 57) #[] #[]),.ptr B 0,.ptr N 0] ⟨.fn g,n⟩ fun r=>∃ g',r=.ret (.tup []) ⟨.fn g',n⟩∧(∀ a,a≠N→g' a=g a)∧g' N=some (.cells [.lit (.int .i64 (runF fDigit s k (s.size - k - 1) 1))] true 0):=by
  refine WC.enterP (noO_ok _ _) hG6 pl54 Tryd.func54 rfl (by decide +kernel) (Nat.le_of_ble_eq_true (by kernel_rfl)) ?_
  iterate 8 (all_goals try (first | with_reducible refine splitI (fun h=>?_) (fun h=>?_) | with_reducible refine splitBI (fun h=>?_) (fun h=>?_) | simp (disch:=first | assumption | omega | (simp; done) | fail) [Tryd.results54, *]))
  refine LX.ind (fun m gf H'=>∃ (j:Nat) (g' : Nat→Option Blk),1≤j∧k+j≤s.size∧m=s.size - k - j∧H'=⟨.fn g',n⟩∧(∀ a,a≠N→g' a=g a)∧g' N=some (.cells [.lit (.int .i64 j)] true 0)∧gf 0=some (.lit (.func (.func 57) #[] #[]))∧gf 1=some (.ptr B 0)∧gf 2=some (.ptr N 0)∧runF fDigit s k (s.size - k - 1) 1=runF fDigit s k (s.size - k - j) j) (m0:=s.size - k - 1) ?_ ?_
  · exact ⟨1,g,by omega,by omega,rfl,rfl,fun _ _=>rfl,hN,by simp,by simp,by simp,rfl⟩
  rintro m gf H' ⟨j,g',hj,hkj,rfl,rfl,hg',hN',q0,q1,q2,hr⟩ ih
  refine LX.roundP (noO_ok _ _) hG6 pl54 (by decide +kernel) ?_
  have hB' : g' B=some (.cells [.ptr p 0] true 0):=(hg' B n1).trans hB
  have hp' : g' p=some (.cells [sv,.lit (.string s),tv,.lit (.int .i64 k)] true 0):=(hg' p n2).trans hp
  have HG:=Hide.mk hg'
  have HR:=Hide.mk hr
  clear hg' hr hB hp hN
  by_cases hlt:k+j < s.size
  · have hltI:(k:Int)+(j:Int) < (s.size:Int):=by omega
    have htn:((k:Int)+(j:Int)).toNat=k+j:=by omega
    have hrr:runF fDigit s k (s.size - k - j) j=if fDigit j (bAt s (k+j))=true then runF fDigit s k (s.size - k - (j+1)) (j+1) else j:=by
      rw [show s.size - k - j=(s.size - k - (j+1))+1 by omega,runF,if_pos hlt]
    have HRR:=Hide.mk hrr
    clear hrr
    iterate 12 (all_goals try (first | with_reducible refine splitI (fun h=>?_) (fun h=>?_) | with_reducible refine splitBI (fun h=>?_) (fun h=>?_) | simp (disch:=first | assumption | omega | (simp; done) | fail) [Tryd.results54, *]))
    refine WC.mono (digit_w noO (noO_ok _ _) _ _) ?_
    rintro _ rfl
    cases hF:digitM (bAt s (k+j))
    all_goals
      iterate 12 (all_goals try (first | with_reducible refine splitI (fun h=>?_) (fun h=>?_) | with_reducible refine splitBI (fun h=>?_) (fun h=>?_) | simp (disch:=first | assumption | omega | (simp; done) | fail) [Tryd.results54, *]))
    all_goals first
      | (refine ih.out (s.size - k - (j+1)) _ _ (by omega) ⟨j+1,_,by omega,by omega,rfl,rfl,fun a ha=>(gput_ne ha).trans (HG.out a ha),by (simp [gput_eq]; try omega),by simp [*],by simp [*],by simp [*],HR.out.trans (HRR.out.trans (if_pos ?_))⟩
         first | exact hF | (simp [fLess, *]; done) | (simp [fLess]; omega))
      | (refine ⟨fun a ha=>HG.out a ha,?_⟩
         rw [HR.out,HRR.out,if_neg]
         first | (rw [show fDigit j (bAt s (k+j))=false from hF]; simp; done) | (simp [fLess, *]; done) | (simp [fLess]; omega))
  · have hltI:¬(k:Int)+(j:Int) < (s.size:Int):=by omega
    iterate 12 (all_goals try (first | with_reducible refine splitI (fun h=>?_) (fun h=>?_) | with_reducible refine splitBI (fun h=>?_) (fun h=>?_) | simp (disch:=first | assumption | omega | (simp; done) | fail) [Tryd.results54, *]))
    exact ⟨fun a ha=>HG.out a ha,by rw [HR.out,show s.size - k - j=0 by omega]; rfl⟩
theorem is_less (s:ByteArray) (k B p N:Nat) (sv tv:AV) (g:Nat→Option Blk) (n:Nat) (hs:s.size≤1000000) (hk:k+1≤s.size) (hB:g B=some (.cells [.ptr p 0] true 0)) (hp:g p=some (.cells [sv,.lit (.string s),tv,.lit (.int .i64 k)] true 0)) (hN:g N=some (.cells [.lit (.int .i64 1)] true 0))
    (n1:B≠N) (n2:p≠N) (l1:B < n) (l2:p < n) (l3:N < n) :
    WC 6 Tryd.prog 54 [.func (.func 58) [] [.ptr N 0],.ptr B 0,.ptr N 0] ⟨.fn g,n⟩ fun r=>∃ g',r=.ret (.tup []) ⟨.fn g',n⟩∧(∀ a,a≠N→g' a=g a)∧g' N=some (.cells [.lit (.int .i64 (runF fLess s k (s.size - k - 1) 1))] true 0):=by
  refine WC.enterP (noO_ok _ _) hG6 pl54 Tryd.func54 rfl (by decide +kernel) (Nat.le_of_ble_eq_true (by kernel_rfl)) ?_
  iterate 8 (all_goals try (first | with_reducible refine splitI (fun h=>?_) (fun h=>?_) | with_reducible refine splitBI (fun h=>?_) (fun h=>?_) | simp (disch:=first | assumption | omega | (simp; done) | fail) [Tryd.results54, *]))
  refine LX.ind (fun m gf H'=>∃ (j:Nat) (g' : Nat→Option Blk),1≤j∧k+j≤s.size∧m=s.size - k - j∧H'=⟨.fn g',n⟩∧(∀ a,a≠N→g' a=g a)∧g' N=some (.cells [.lit (.int .i64 j)] true 0)∧gf 0=some (.func (.func 58) [] [.ptr N 0])∧gf 1=some (.ptr B 0)∧gf 2=some (.ptr N 0)∧runF fLess s k (s.size - k - 1) 1=runF fLess s k (s.size - k - j) j) (m0:=s.size - k - 1) ?_ ?_
  · exact ⟨1,g,by omega,by omega,rfl,rfl,fun _ _=>rfl,hN,by simp,by simp,by simp,rfl⟩
  rintro m gf H' ⟨j,g',hj,hkj,rfl,rfl,hg',hN',q0,q1,q2,hr⟩ ih
  refine LX.roundP (noO_ok _ _) hG6 pl54 (by decide +kernel) ?_
  have hB' : g' B=some (.cells [.ptr p 0] true 0):=(hg' B n1).trans hB
  have hp' : g' p=some (.cells [sv,.lit (.string s),tv,.lit (.int .i64 k)] true 0):=(hg' p n2).trans hp
  have HG:=Hide.mk hg'
  have HR:=Hide.mk hr
  clear hg' hr hB hp hN
  by_cases hlt:k+j < s.size
  · have hltI:(k:Int)+(j:Int) < (s.size:Int):=by omega
    have htn:((k:Int)+(j:Int)).toNat=k+j:=by omega
    have hrr:runF fLess s k (s.size - k - j) j=if fLess j (bAt s (k+j))=true then runF fLess s k (s.size - k - (j+1)) (j+1) else j:=by
      rw [show s.size - k - j=(s.size - k - (j+1))+1 by omega,runF,if_pos hlt]
    have HRR:=Hide.mk hrr
    clear hrr
    iterate 12 (all_goals try (first | with_reducible refine splitI (fun h=>?_) (fun h=>?_) | with_reducible refine splitBI (fun h=>?_) (fun h=>?_) | simp (disch:=first | assumption | omega | (simp; done) | fail) [Tryd.results54, *]))
    refine WC.enterP (noO_ok _ _) hG6 [] Tryd.func58 rfl (by decide +kernel) (Nat.le_of_ble_eq_true (by kernel_rfl)) ?_
    iterate 12 (all_goals try (first | with_reducible refine splitI (fun h=>?_) (fun h=>?_) | with_reducible refine splitBI (fun h=>?_) (fun h=>?_) | simp (disch:=first | assumption | omega | (simp; done) | fail) [Tryd.results58, *]))
    all_goals skip
    all_goals
      iterate 12 (all_goals try (first | with_reducible refine splitI (fun h=>?_) (fun h=>?_) | with_reducible refine splitBI (fun h=>?_) (fun h=>?_) | simp (disch:=first | assumption | omega | (simp; done) | fail) [Tryd.results54, *]))
    all_goals first
      | (refine ih.out (s.size - k - (j+1)) _ _ (by omega) ⟨j+1,_,by omega,by omega,rfl,rfl,fun a ha=>(gput_ne ha).trans (HG.out a ha),by (simp [gput_eq]; try omega),by simp [*],by simp [*],by simp [*],HR.out.trans (HRR.out.trans (if_pos ?_))⟩
         first | exact hF | (simp [fLess, *]; done) | (simp [fLess]; omega))
      | (refine ⟨fun a ha=>HG.out a ha,?_⟩
         rw [HR.out,HRR.out,if_neg]
         first | (rw [show fLess j (bAt s (k+j))=false from hF]; simp; done) | (simp [fLess, *]; done) | (simp [fLess]; omega))
  · have hltI:¬(k:Int)+(j:Int) < (s.size:Int):=by omega
    iterate 12 (all_goals try (first | with_reducible refine splitI (fun h=>?_) (fun h=>?_) | with_reducible refine splitBI (fun h=>?_) (fun h=>?_) | simp (disch:=first | assumption | omega | (simp; done) | fail) [Tryd.results54, *]))
    exact ⟨fun a ha=>HG.out a ha,by rw [HR.out,show s.size - k - j=0 by omega]; rfl⟩
end Go.Ai
end
section
namespace Go.Ai
open Go.Proofs
set_option maxRecDepth 10000
set_option maxHeartbeats 40000000
def skipM (s:ByteArray) : Nat→Nat→Nat
  | 0,k=>k
  | m+1,k=>if k < s.size then (if bAt s k=32 then skipM s m (k+1) else k) else k
theorem skipM_le {s:ByteArray} : ∀ (m k:Nat),k≤s.size→k≤skipM s m k∧skipM s m k≤s.size
  | 0,k,h=>⟨Nat.le_refl _,h⟩
  | m+1,k,h=>by
    unfold skipM
    split
    · split
      · have:=skipM_le (s:=s) m (k+1) (by omega); omega
      · omega
    · omega
def tokN (s:ByteArray) (k:Nat) : Nat :=
  if letterM (bAt s k)=true then runF fPart s k (s.size - k - 1) 1 else if digitM (bAt s k)=true then runF fDigit s k (s.size - k - 1) 1 else if bAt s k=60 then runF fLess s k (s.size - k - 1) 1 else 1
theorem tokN_le {s:ByteArray} {k:Nat} (h:k < s.size) : 1≤tokN s k∧k+tokN s k≤s.size:=by
  have h1:=runF_le (F:=fPart) (s:=s) (k:=k) (s.size - k - 1) 1 (by omega)
  have h2:=runF_le (F:=fDigit) (s:=s) (k:=k) (s.size - k - 1) 1 (by omega)
  have h3:=runF_le (F:=fLess) (s:=s) (k:=k) (s.size - k - 1) 1 (by omega)
  unfold tokN
  split
  · omega
  · split
    · omega
    · split <;> omega
def nextM (s:ByteArray) (k:Nat) : ByteArray×Nat :=
  if skipM s (s.size - k) k=s.size then (⟨#[]⟩,s.size) else (s.extract (skipM s (s.size - k) k) (skipM s (s.size - k) k+tokN s (skipM s (s.size - k) k)),skipM s (s.size - k) k)
theorem next_w (s tv:ByteArray) (at0 p:Nat) (sv:AV) (g:Nat→Option Blk) (n:Nat) (hs:s.size≤1000000) (hp:g p=some (.cells [sv,.lit (.string s),.lit (.string tv),.lit (.int .i64 at0)] true 0)) (hpn:p < n) (hat:at0+tv.size≤s.size) (h1sv:oneC sv=true) :
    WC 6 Tryd.prog 33 [.ptr p 0] ⟨.fn g,n⟩ fun r=>∃ g' n',r=.ret (.tup []) ⟨.fn g',n'⟩∧n≤n'∧(∀ a,a < n→a≠p→g' a=g a)∧g' p=some (.cells [sv,.lit (.string s),.lit (.string (nextM s (at0+tv.size)).1),.lit (.int .i64 ((nextM s (at0+tv.size)).2:Nat))] true 0):=by
  generalize hret:nextM s (at0+tv.size)=ret
  have HRET:=Hide.mk hret
  clear hret
  refine WC.enterP (noO_ok _ _) hG6 pl33 Tryd.func33 rfl (by decide +kernel) (Nat.le_of_ble_eq_true (by kernel_rfl)) ?_
  iterate 12 (all_goals try (first | with_reducible refine splitI (fun h=>?_) (fun h=>?_) | with_reducible refine splitBI (fun h=>?_) (fun h=>?_) | simp (disch:=first | assumption | omega | (simp; done) | fail) [Tryd.results33, *]))
  obtain ⟨k0,hk0⟩ : ∃ k0,k0=at0+tv.size:=⟨_,rfl⟩
  rw [← hk0] at HRET hat
  refine LX.ind (fun m gf H'=>∃ (k:Nat) (g' : Nat→Option Blk),k≤s.size∧m=s.size - k∧H'=⟨.fn g',n+1⟩∧(∀ a,a < n→a≠p→g' a=g a)∧g' n=some (.cells [.ptr p 0] true 0)∧g' p=some (.cells [sv,.lit (.string s),.lit (.string tv),.lit (.int .i64 k)] true 0)∧gf 1=some (.ptr n 0)∧skipM s (s.size - k0) k0=skipM s (s.size - k) k) (m0:=s.size - k0) ?_ ?_
  · refine ⟨k0,_,hat,rfl,rfl,fun a ha hne=>by simp (disch:=omega) only [gput_lt,gput_ne],by simp (disch:=omega) only [gput_lt,gput_eq,gput_ne],?_,by simp,rfl⟩
    simp (disch:=omega) only [gput_lt,gput_eq,gput_ne]
    subst hk0
    first | rfl | simp
  rintro m gf H' ⟨k,g',hk,rfl,rfl,hg',hB,hP,q1,hr⟩ ih
  refine LX.roundP (noO_ok _ _) hG6 pl33 (by decide +kernel) ?_
  have HG:=Hide.mk hg'
  have HR:=Hide.mk hr
  have HK0:=Hide.mk hk0
  clear hg' hr hp hk0
  have hpn' : ¬p=n:=by omega
  have hpn2:¬n=p:=by omega
  have EXIT:Hide (∀ c:Nat,skipM s (s.size - k) k=k→(k=s.size→ret=(⟨#[]⟩,k))∧(k≠s.size→ret=(s.extract k (k+tokN s k),k))):=⟨fun _ e=>by
    have e2:skipM s (s.size - k0) k0=k:=HR.out.trans e
    constructor
    · intro e3
      rw [← HRET.out,nextM,if_pos (by rw [e2,e3]),e3]
    · intro e3
      rw [← HRET.out,nextM,if_neg (by rw [e2]; exact e3),e2]⟩
  by_cases hlt:k < s.size
  · have hltI:(k:Int) < (s.size:Int):=by omega
    have hneI:¬(k:Int)=(s.size:Int):=by omega
    have hb:=u8_bat s k
    have hsk:skipM s (s.size - k) k=if bAt s k=32 then skipM s (s.size - (k+1)) (k+1) else k:=by
      rw [show s.size - k=(s.size - (k+1))+1 by omega,skipM,if_pos hlt]
    have HSK:=Hide.mk hsk
    clear hsk
    by_cases h32:bAt s k=32
    · iterate 16 (all_goals try (first | with_reducible refine splitI (fun h=>?_) (fun h=>?_) | with_reducible refine splitBI (fun h=>?_) (fun h=>?_) | simp (disch:=first | assumption | omega | (simp; done) | fail) [Tryd.results33, *]))
      refine ih.out (s.size - (k+1)) _ _ (by omega) ⟨k+1,_,by omega,rfl,rfl,fun a ha hne=>(gput_ne hne).trans (HG.out a ha hne),by simp (disch:=omega) only [gput_ne]; exact hB,by simp [gput_eq],by simp [*],HR.out.trans (HSK.out.trans (if_pos h32))⟩
    · have hex:=(EXIT.out 0 (HSK.out.trans (if_neg h32))).2 (by omega)
      have HEX:=Hide.mk hex
      clear hex
      have htk:=tokN_le hlt
      iterate 16 (all_goals try (first | with_reducible refine splitI (fun h=>?_) (fun h=>?_) | with_reducible refine splitBI (fun h=>?_) (fun h=>?_) | simp (disch:=first | assumption | omega | (simp; done) | fail) [Tryd.results33, *]))
      refine WC.mono (letter_w noO (noO_ok _ _) _ _) ?_
      rintro _ rfl
      have HTK:Hide (tokN s k=if letterM (bAt s k)=true then runF fPart s k (s.size - k - 1) 1 else if digitM (bAt s k)=true then runF fDigit s k (s.size - k - 1) 1 else if bAt s k=60 then runF fLess s k (s.size - k - 1) 1 else 1):=⟨rfl⟩
      cases hL:letterM (bAt s k)
      · cases hD:digitM (bAt s k)
        · iterate 12 (all_goals try (first | with_reducible refine splitI (fun h=>?_) (fun h=>?_) | with_reducible refine splitBI (fun h=>?_) (fun h=>?_) | simp (disch:=first | assumption | omega | (simp; done) | fail) [Tryd.results33, *]))
          refine WC.mono (digit_w noO (noO_ok _ _) _ _) ?_
          rintro _ rfl
          rw [hD]
          by_cases h60:bAt s k=60
          · have hT:tokN s k=runF fLess s k (s.size - k - 1) 1:=by rw [HTK.out,if_neg (by rw [hL]; simp),if_neg (by rw [hD]; simp),if_pos h60]
            iterate 12 (all_goals try (first | with_reducible refine splitI (fun h=>?_) (fun h=>?_) | with_reducible refine splitBI (fun h=>?_) (fun h=>?_) | simp (disch:=first | assumption | omega | (simp; done) | fail) [Tryd.results33, *]))
            refine WC.mono (is_less s k n p (n+1) sv (.lit (.string ⟨#[]⟩)) _ _ hs (by omega) (by simp (disch:=omega) only [gput_lt,gput_ne]; exact hB) (by simp (disch:=omega) only [gput_lt,gput_eq]) (by simp (disch:=omega) only [gput_eq]) (by omega) (by omega) (by omega) (by omega) (by omega)) ?_
            rintro _ ⟨g2,rfl,hg2,hN2⟩
            have hB2:g2 n=some (.cells [.ptr p 0] true 0):=(hg2 n (by omega)).trans (by simp (disch:=omega) only [gput_lt,gput_ne]; exact hB)
            have hP2:g2 p=some (.cells [sv,.lit (.string s),.lit (.string ⟨#[]⟩),.lit (.int .i64 k)] true 0):=(hg2 p (by omega)).trans (by simp (disch:=omega) only [gput_lt,gput_eq])
            have hO2:Hide (∀ a,a < n→a≠p→g2 a=g a):=⟨fun a ha hne=>(hg2 a (by omega)).trans (by simp (disch:=omega) only [gput_lt,gput_ne]; exact HG.out a ha hne)⟩
            rw [hT] at htk HEX
            generalize runF fLess s k (s.size - k - 1) 1=tn at hN2 htk HEX
            have htn:((k:Int)+(tn:Int)).toNat=k+tn:=by omega
            have HT2:=Hide.mk hT
            clear hT hg2 HTK hB hP
            iterate 16 (all_goals try (first | with_reducible refine splitI (fun h=>?_) (fun h=>?_) | with_reducible refine splitBI (fun h=>?_) (fun h=>?_) | simp (disch:=first | assumption | omega | (simp; done) | fail) [Tryd.results33, *]))
            refine ⟨_,_,⟨rfl,rfl⟩,by omega,fun a ha hne=>(gput_ne hne).trans (hO2.out a ha hne),?_⟩
            rw [gput_eq,HEX.out]
          · have hT:tokN s k=1:=by rw [HTK.out,if_neg (by rw [hL]; simp),if_neg (by rw [hD]; simp),if_neg h60]
            rw [hT] at htk HEX
            have htn:((k:Int)+1).toNat=k+1:=by omega
            clear hT HTK
            iterate 16 (all_goals try (first | with_reducible refine splitI (fun h=>?_) (fun h=>?_) | with_reducible refine splitBI (fun h=>?_) (fun h=>?_) | simp (disch:=first | assumption | omega | (simp; done) | fail) [Tryd.results33, *]))
            refine ⟨_,_,⟨rfl,rfl⟩,by omega,fun a ha hne=>?_,?_⟩
            · simp (disch:=omega) only [gput_lt,gput_ne]; exact HG.out a ha hne
            · rw [gput_eq,HEX.out]
        · have hT:tokN s k=runF fDigit s k (s.size - k - 1) 1:=by rw [HTK.out,if_neg (by rw [hL]; simp),if_pos hD]
          iterate 12 (all_goals try (first | with_reducible refine splitI (fun h=>?_) (fun h=>?_) | with_reducible refine splitBI (fun h=>?_) (fun h=>?_) | simp (disch:=first | assumption | omega | (simp; done) | fail) [Tryd.results33, *]))
          refine WC.mono (digit_w noO (noO_ok _ _) _ _) ?_
          rintro _ rfl
          rw [hD]
          iterate 12 (all_goals try (first | with_reducible refine splitI (fun h=>?_) (fun h=>?_) | with_reducible refine splitBI (fun h=>?_) (fun h=>?_) | simp (disch:=first | assumption | omega | (simp; done) | fail) [Tryd.results33, *]))
          refine WC.mono (is_digit s k n p (n+1) sv (.lit (.string ⟨#[]⟩)) _ _ hs (by omega) (by simp (disch:=omega) only [gput_lt,gput_ne]; exact hB) (by simp (disch:=omega) only [gput_lt,gput_eq]) (by simp (disch:=omega) only [gput_eq]) (by omega) (by omega) (by omega) (by omega) (by omega)) ?_
          rintro _ ⟨g2,rfl,hg2,hN2⟩
          have hB2:g2 n=some (.cells [.ptr p 0] true 0):=(hg2 n (by omega)).trans (by simp (disch:=omega) only [gput_lt,gput_ne]; exact hB)
          have hP2:g2 p=some (.cells [sv,.lit (.string s),.lit (.string ⟨#[]⟩),.lit (.int .i64 k)] true 0):=(hg2 p (by omega)).trans (by simp (disch:=omega) only [gput_lt,gput_eq])
          have hO2:Hide (∀ a,a < n→a≠p→g2 a=g a):=⟨fun a ha hne=>(hg2 a (by omega)).trans (by simp (disch:=omega) only [gput_lt,gput_ne]; exact HG.out a ha hne)⟩
          rw [hT] at htk HEX
          generalize runF fDigit s k (s.size - k - 1) 1=tn at hN2 htk HEX
          have htn:((k:Int)+(tn:Int)).toNat=k+tn:=by omega
          have HT2:=Hide.mk hT
          clear hT hg2 HTK hB hP
          iterate 16 (all_goals try (first | with_reducible refine splitI (fun h=>?_) (fun h=>?_) | with_reducible refine splitBI (fun h=>?_) (fun h=>?_) | simp (disch:=first | assumption | omega | (simp; done) | fail) [Tryd.results33, *]))
          refine ⟨_,_,⟨rfl,rfl⟩,by omega,fun a ha hne=>(gput_ne hne).trans (hO2.out a ha hne),?_⟩
          rw [gput_eq,HEX.out]
      · have hT:tokN s k=runF fPart s k (s.size - k - 1) 1:=by rw [HTK.out,if_pos hL]
        iterate 12 (all_goals try (first | with_reducible refine splitI (fun h=>?_) (fun h=>?_) | with_reducible refine splitBI (fun h=>?_) (fun h=>?_) | simp (disch:=first | assumption | omega | (simp; done) | fail) [Tryd.results33, *]))
        refine WC.mono (is_part s k n p (n+1) sv (.lit (.string ⟨#[]⟩)) _ _ hs (by omega) (by simp (disch:=omega) only [gput_lt,gput_ne]; exact hB) (by simp (disch:=omega) only [gput_lt,gput_eq]) (by simp (disch:=omega) only [gput_eq]) (by omega) (by omega) (by omega) (by omega) (by omega)) ?_
        rintro _ ⟨g2,rfl,hg2,hN2⟩
        have hB2:g2 n=some (.cells [.ptr p 0] true 0):=(hg2 n (by omega)).trans (by simp (disch:=omega) only [gput_lt,gput_ne]; exact hB)
        have hP2:g2 p=some (.cells [sv,.lit (.string s),.lit (.string ⟨#[]⟩),.lit (.int .i64 k)] true 0):=(hg2 p (by omega)).trans (by simp (disch:=omega) only [gput_lt,gput_eq])
        have hO2:Hide (∀ a,a < n→a≠p→g2 a=g a):=⟨fun a ha hne=>(hg2 a (by omega)).trans (by simp (disch:=omega) only [gput_lt,gput_ne]; exact HG.out a ha hne)⟩
        rw [hT] at htk HEX
        generalize runF fPart s k (s.size - k - 1) 1=tn at hN2 htk HEX
        have htn:((k:Int)+(tn:Int)).toNat=k+tn:=by omega
        have HT2:=Hide.mk hT
        clear hT hg2 HTK hB hP
        iterate 16 (all_goals try (first | with_reducible refine splitI (fun h=>?_) (fun h=>?_) | with_reducible refine splitBI (fun h=>?_) (fun h=>?_) | simp (disch:=first | assumption | omega | (simp; done) | fail) [Tryd.results33, *]))
        refine ⟨_,_,⟨rfl,rfl⟩,by omega,fun a ha hne=>(gput_ne hne).trans (hO2.out a ha hne),?_⟩
        rw [gput_eq,HEX.out]
  · have hkn:k=s.size:=by omega
    have hltI:¬(k:Int) < (s.size:Int):=by omega
    have heqI:(k:Int)=(s.size:Int):=by omega
    have hex:=(EXIT.out 0 (by rw [show s.size - k=0 by omega]; rfl)).1 hkn
    have HEX:=Hide.mk hex
    clear hex
    iterate 16 (all_goals try (first | with_reducible refine splitI (fun h=>?_) (fun h=>?_) | with_reducible refine splitBI (fun h=>?_) (fun h=>?_) | simp (disch:=first | assumption | omega | (simp; done) | fail) [Tryd.results33, *]))
    refine ⟨_,_,⟨rfl,rfl⟩,Nat.le_succ _,fun a ha hne=>(gput_ne hne).trans (HG.out a ha hne),?_⟩
    have e:=HEX.out
    subst hkn
    rw [gput_eq,e]
end Go.Ai
end
section
namespace Go.Ai
open Go.Proofs
set_option maxRecDepth 10000
set_option maxHeartbeats 40000000
def valN (s:ByteArray) : Nat→Nat→Nat→Nat
  | 0,_,a=>a
  | m+1,k,a=>valN s m (k+1) (a * 10+(bAt s k - 48).toNat)
def valB (s:ByteArray) : Nat:=valN s s.size 0 0
def digitsB (s:ByteArray) : Prop:=∀ k,k < s.size→digitM (bAt s k)=true
theorem digit_in {c:Int} (h:digitM c=true) : 48≤c∧c≤57:=by simpa [digitM] using h
theorem atoi69_w (s:ByteArray) (h0:0 < s.size) (h1:s.size < 19) (hd:digitsB s) (g:Nat→Option Blk) (n:Nat) : WC 6 Tryd.prog 69 [.lit (.string s)] ⟨.fn g,n⟩ fun r=>r=.ret (.tup [.lit (.int .i64 (valB s:Nat)),.lit .nilIface]) ⟨.fn g,n⟩:=by
  refine WC.drop1 rfl ?_
  have e0:(0:Int) < (s.size:Int):=by omega
  have e1:(s.size:Int) < 19:=by omega
  have hc0:=digit_in (hd 0 h0)
  have n45:¬bAt s 0=45:=by omega
  have n43:¬bAt s 0=43:=by omega
  generalize hval:valB s=val
  have HV:=Hide.mk hval
  clear hval
  have HD:=Hide.mk hd
  clear hd
  have hszs:s.size≤1048576:=by omega
  refine WC.enterP (noO_ok _ _) hG6 [] Tryd.func69 rfl (by decide +kernel) (Nat.le_of_ble_eq_true (by kernel_rfl)) ?_
  iterate 30 (all_goals try (first | with_reducible refine splitI (fun h=>?_) (fun h=>?_) | with_reducible refine splitBI (fun h=>?_) (fun h=>?_) | simp (disch:=first | assumption | omega | (simp; done) | fail) [Tryd.results69, *]))
  refine LX.ind (fun m gf H'=>∃ (k acc:Nat),k≤s.size∧m=s.size - k∧H'=⟨.fn (gput g n (some (.cells (strCells s) true 1))),n+1⟩∧gf 5=some (.lit (.string s))∧gf 6=some (.lit (.int .i64 acc))∧gf 47=some (.slq n 0 s.size 0)∧gf 48=some (.lit (.int .i64 s.size))∧gf 49=some (.lit (.int .i64 k)) ∧
    acc < 10 ^ k∧valB s=valN s (s.size - k) k acc) (m0:=s.size) ?_ ?_
  · exact ⟨0,0,Nat.zero_le _,rfl,rfl,by simp,by simp,by simp,by simp,by simp,by simp,rfl⟩
  rintro m gf H' ⟨k,acc,hk,rfl,rfl,q5,q6,q47,q48,q49,hacc,hv⟩ ih
  refine LX.roundP (noO_ok _ _) hG6 [] (by decide +kernel) ?_
  have hp18:(10:Nat) ^ k≤10 ^ 18:=Nat.pow_le_pow_right (by omega) (by omega)
  have ha18:acc < 1000000000000000000:=by omega
  have HV2:=Hide.mk hv
  have HA:=Hide.mk hacc
  clear hv hacc hp18
  by_cases hlt:k < s.size
  · have hltI:(k:Int) < (s.size:Int):=by omega
    have hck:=digit_in (HD.out k hlt)
    have hld:=strCells_at (m:=1) (own:=true) (z:=1) hlt
    have hst:valN s (s.size - k) k acc=valN s (s.size - (k+1)) (k+1) (acc * 10+(bAt s k - 48).toNat):=by
      rw [show s.size - k=(s.size - (k+1))+1 by omega,valN]
    have HST:=Hide.mk hst
    clear hst
    have hk17:(10:Nat) ^ k≤10 ^ 17:=Nat.pow_le_pow_right (by omega) (by omega)
    have ha17:acc < 100000000000000000:=by have:=HA.out; omega
    clear hk17 ha18
    generalize bAt s k=c at hck hld HST
    have h9:¬(9:Int) < c - 48:=by omega
    iterate 20 (all_goals try (first | with_reducible refine splitI (fun h=>?_) (fun h=>?_) | with_reducible refine splitBI (fun h=>?_) (fun h=>?_) | simp (disch:=first | assumption | omega | (simp; done) | fail) [Tryd.results69, *]))
    refine ih.out (s.size - (k+1)) _ _ (by omega) ⟨k+1,acc * 10+(c - 48).toNat,by omega,rfl,rfl,by simp [*],?_,by simp [*],by simp [*],by simp [*],?_,HV2.out.trans HST.out⟩
    · simp [*]
      omega
    · have:=HA.out
      rw [Nat.pow_succ]; omega
  · have hltI:¬(k:Int) < (s.size:Int):=by omega
    have hres:(acc:Nat)=val:=by rw [← HV.out,HV2.out,show s.size - k=0 by omega]; rfl
    iterate 20 (all_goals try (first | with_reducible refine splitI (fun h=>?_) (fun h=>?_) | with_reducible refine splitBI (fun h=>?_) (fun h=>?_) | simp (disch:=first | assumption | omega | (simp; done) | fail) [Tryd.results69, *]))
    all_goals exact ⟨Nat.le_succ _,fun b hb=>gput_lt hb⟩
end Go.Ai
end
section
namespace Go.Ai
open Go.Proofs
set_option maxRecDepth 10000
set_option maxHeartbeats 4000000
theorem iface104:ifaceT Tryd.prog 104=true:=by kernel_rfl
attribute [simp] iface104
theorem refuse_w (p e:AV) (v:Int) (H:Mem) (he:e=.lit (.int .i64 v)) : WC 6 Tryd.prog 35 [p,e] H fun r=>r=.panic (.iface 69 (.agg [e])) H:=by
  subst he
  refine WC.enterP (noO_ok _ _) hG6 [] Tryd.func35 rfl (by decide +kernel) (Nat.le_of_ble_eq_true (by kernel_rfl)) ?_
  iterate 12 (all_goals try (first | with_reducible refine splitI (fun h=>?_) (fun h=>?_) | with_reducible refine splitBI (fun h=>?_) (fun h=>?_) | simp (disch:=first | assumption | omega | (simp; done) | fail) [Tryd.results35, *]))
theorem atoi_short (s:ByteArray) (h0:0 < s.size) (h1:s.size < 19) (hd:digitsB s) (g:Nat→Option Blk) (n:Nat) : WC 6 Tryd.prog 65 [.lit (.string s)] ⟨.fn g,n⟩ fun r=>r=.ret (.tup [.lit (.int .i64 (valB s:Nat)),.lit .nilIface]) ⟨.fn g,n⟩:=by
  have HD:=Hide.mk hd
  clear hd
  refine WC.enterP (noO_ok _ _) hG6 [] Tryd.func65 rfl (by decide +kernel) (Nat.le_of_ble_eq_true (by kernel_rfl)) ?_
  iterate 12 (all_goals try (first | with_reducible refine splitI (fun h=>?_) (fun h=>?_) | with_reducible refine splitBI (fun h=>?_) (fun h=>?_) | simp (disch:=first | assumption | omega | (simp; done) | fail) [Tryd.results65, *]))
  refine WC.mono (atoi69_w s h0 h1 HD.out _ _) ?_
  rintro _ rfl
  iterate 12 (all_goals try (first | with_reducible refine splitI (fun h=>?_) (fun h=>?_) | with_reducible refine splitBI (fun h=>?_) (fun h=>?_) | simp (disch:=first | assumption | omega | (simp; done) | fail) [Tryd.results65, *]))
end Go.Ai
end
section
namespace Go.Ai
open Go.Proofs
set_option maxRecDepth 10000
set_option maxHeartbeats 4000000
theorem same_w (s:ByteArray) (v:VarM) (q:Nat) (g:Nat→Option Blk) (n:Nat) (hq:q < n) (hs:g q=some (.cells [.lit (.string s)] true 0)) :
    WC 6 Tryd.prog 67 [.agg v.cells,.ptr q 0] ⟨.fn g,n⟩ fun r=>r=.ret (.lit (.bool (decide (v.name=s)))) ⟨.fn g,n⟩:=by
  refine WC.drop1 rfl ?_
  obtain ⟨nm,lo,hi⟩:=v
  simp only [VarM.cells]
  have hqn:¬q=n:=by omega
  refine WC.enterP (noO_ok _ _) hG6 [] Tryd.func67 rfl (by decide +kernel) (Nat.le_of_ble_eq_true (by kernel_rfl)) ?_
  iterate 12 (all_goals try (first | with_reducible refine splitI (fun h=>?_) (fun h=>?_) | with_reducible refine splitBI (fun h=>?_) (fun h=>?_) | simp (disch:=first | assumption | omega | (simp; done) | fail) [Tryd.results67, *]))
  all_goals exact ⟨Nat.le_succ _,fun b hb=>gput_lt hb⟩
def idxV (s:ByteArray) : List VarM→Nat→Option Nat
  | [],_=>none
  | v :: l,k=>if v.name=s then some k else idxV s l (k+1)
def idxM (vs:List VarM) (s:ByteArray) : Option Nat:=idxV s vs 0
def idxI (vs:List VarM) (s:ByteArray) : Int:=match idxM vs s with | some k=>(k:Nat) | none=>-1
theorem index_w (vs:List VarM) (s:ByteArray) (q:Nat) (sv:AV) (g:Nat→Option Blk) (n:Nat) (hq:q < n) (hs:g q=some (.cells [.lit (.string s)] true 0)) (hsv:SliceV g n sv vs.length (vs.flatMap VarM.cells)) (hn:vs.length≤1000000) :
    WC 6 Tryd.prog 66 [sv,.func (.func 67) [] [.ptr q 0]] ⟨.fn g,n⟩ fun r=>r=.ret (.lit (.int .i64 (idxI vs s))) ⟨.fn g,n⟩:=by
  generalize hret:idxI vs s=ret
  have HRET:=Hide.mk hret
  clear hret
  obtain ⟨sv',hsq⟩ : ∃ sv',Hide (sv'=sv):=⟨_,⟨rfl⟩⟩
  rcases hsv with ⟨hl0,_,rfl | rfl⟩ | ⟨a,off,ha,⟨c,rfl⟩ | ⟨c,rfl⟩,hr⟩
  all_goals refine WC.enterP (noO_ok _ _) hG6 [] Tryd.func66 rfl (by decide +kernel) (Nat.le_of_ble_eq_true (by kernel_rfl)) ?_
  all_goals
    iterate 12 (all_goals try (first | with_reducible refine splitI (fun h=>?_) (fun h=>?_) | with_reducible refine splitBI (fun h=>?_) (fun h=>?_) | simp (disch:=first | assumption | omega | (simp; done) | fail) [Tryd.results66, *]))
    refine LX.ind (fun m gf H'=>∃ (k:Nat),k≤vs.length∧m=vs.length - k∧H'=⟨.fn g,n⟩ ∧
      gf 0=some sv'∧gf 1=some (.func (.func 67) [] [.ptr q 0])∧gf 7=some (.lit (.int .i64 vs.length))∧gf 8=some (.lit (.int .i64 k))∧idxM vs s=idxV s (vs.drop k) k) (m0:=vs.length) ?_ ?_
    · exact ⟨0,Nat.zero_le _,rfl,rfl,by simp [hsq.out],by simp,by simp [*],by simp,by simp [idxM]⟩
    rintro m gf H' ⟨k,hk,rfl,rfl,g0,g1,g7,g8,hc⟩ ih
    refine LX.roundP (noO_ok _ _) hG6 [] (by decide +kernel) ?_
    rw [hsq.out] at g0
    have hcI:=Hide.mk hc
    clear hc
    by_cases hlt:k < vs.length
    · first
      | (exfalso; omega)
      | (have hrow:=hr.agg (k:=k * 3) (s:=3) (by rw [flat_len (sz:=3) _ (fun _ _=>rfl)]; omega)
         rw [flat_at (sz:=3) vs k hlt (fun _ _=>rfl)] at hrow
         have hltI:(k:Int) < (vs.length:Int):=by omega
         have hdrop:vs.drop k=vs[k] :: vs.drop (k+1):=List.drop_eq_getElem_cons hlt
         have hcv:=hcI.out
         rw [hdrop] at hcv
         have HRET2:Hide (vs[k].name=s→ret=(k:Nat)):=⟨fun e=>by rw [← HRET.out,idxI,hcv,idxV,if_pos e]⟩
         have HST:Hide (¬vs[k].name=s→idxM vs s=idxV s (vs.drop (k+1)) (k+1)):=⟨fun e=>by rw [hcv,idxV,if_neg e]⟩
         clear hcv hdrop
         have HC:=Hide.mk (fun (h:q < n)=>same_w s vs[k] q g n h hs)
         have HR:=Hide.mk hr
         clear hr
         generalize vs[k]=v at hrow HRET2 HST HC
         have h1v:allOne v.cells=true:=rfl
         obtain ⟨nm,lo,hi⟩:=v
         simp only [VarM.cells] at hrow
         iterate 40 (all_goals try (first | with_reducible refine splitI (fun h=>?_) (fun h=>?_) | with_reducible refine splitBI (fun h=>?_) (fun h=>?_) | simp (disch:=first | assumption | omega | (simp; done) | fail) [Tryd.results66, *]))
         refine WC.mono (HC.out hq) ?_
         rintro _ rfl
         by_cases hnm:nm=s
         · have hnm' : decide (nm=s)=true:=decide_eq_true hnm
           iterate 40 (all_goals try (first | with_reducible refine splitI (fun h=>?_) (fun h=>?_) | with_reducible refine splitBI (fun h=>?_) (fun h=>?_) | simp (disch:=first | assumption | omega | (simp; done) | fail) [Tryd.results66, *]))
           try rw [HRET2.out hnm]
         · have hnm' : decide (nm=s)=false:=decide_eq_false hnm
           iterate 40 (all_goals try (first | with_reducible refine splitI (fun h=>?_) (fun h=>?_) | with_reducible refine splitBI (fun h=>?_) (fun h=>?_) | simp (disch:=first | assumption | omega | (simp; done) | fail) [Tryd.results66, *]))
           refine ih.out (vs.length - (k+1)) _ _ (by omega) ⟨k+1,hlt,rfl,rfl,by simp [*,hsq.out],by simp [*],by simp [*],by simp [*],HST.out hnm⟩)
    · have hkn:k=vs.length:=by omega
      subst hkn
      have hres:ret = -1:=by rw [← HRET.out,idxI,hcI.out]; simp [idxV]
      iterate 12 (all_goals try (first | with_reducible refine splitI (fun h=>?_) (fun h=>?_) | with_reducible refine splitBI (fun h=>?_) (fun h=>?_) | simp (disch:=first | assumption | omega | (simp; done) | fail) [Tryd.results66, *]))
      try rw [hres]
end Go.Ai
end
section
namespace Go.Ai
open Go.Proofs
set_option maxRecDepth 10000
set_option maxHeartbeats 4000000
def tokB (s:ByteArray) (k:Nat) : ByteArray:=if k=s.size then ⟨#[]⟩ else s.extract k (k+tokN s k)
def advM (s:ByteArray) (j:Nat) : Nat:=skipM s (s.size - j) j
def nxtM (s:ByteArray) (k:Nat) : Nat:=advM s (k+(tokB s k).size)
theorem nextM_eq (s:ByteArray) (j:Nat) : nextM s j=(tokB s (advM s j),advM s j):=by
  unfold nextM tokB advM
  split
  · rename_i h; rw [h]
  · rfl
theorem tok_size {s:ByteArray} {k:Nat} (h:k < s.size) : (tokB s k).size=tokN s k:=by
  have:=tokN_le h
  unfold tokB
  rw [if_neg (by omega),ByteArray.size_extract]
  omega
theorem tok_le {s:ByteArray} {k:Nat} (h:k≤s.size) : k+(tokB s k).size≤s.size:=by
  by_cases h1:k=s.size
  · have:(tokB s k).size=0:=by unfold tokB; rw [if_pos h1]; rfl
    omega
  · rw [tok_size (by omega)]
    exact (tokN_le (by omega)).2
theorem advM_le {s:ByteArray} {j:Nat} (h:j≤s.size) : j≤advM s j∧advM s j≤s.size:=skipM_le _ _ h
theorem nxtM_le {s:ByteArray} {k:Nat} (h:k≤s.size) : nxtM s k≤s.size:=(advM_le (tok_le h)).2
theorem nxtM_lt {s:ByteArray} {k:Nat} (h:k < s.size) : k < nxtM s k:=by
  have h1:=(advM_le (tok_le (Nat.le_of_lt h))).1
  have h2:=tok_size h
  have h3:=tokN_le h
  unfold nxtM
  omega
theorem tok_empty {s:ByteArray} {k:Nat} (h:k≤s.size) : tokB s k=⟨#[]⟩↔k=s.size:=by
  constructor
  · intro e
    apply Classical.byContradiction
    intro hne
    have h2:=tok_size (s:=s) (k:=k) (by omega)
    have h3:=tokN_le (s:=s) (k:=k) (by omega)
    rw [e] at h2
    have:(⟨#[]⟩ : ByteArray).size=0:=rfl
    omega
  · intro e; unfold tokB; rw [if_pos e]
inductive ParR where
  | ok (x:NodeM) (k:Nat)
  | err (e:Int) (k:Nat)
def notT:ByteArray:=⟨#[110,111,116]⟩
def negT:ByteArray:=⟨#[45]⟩
def openT:ByteArray:=⟨#[40]⟩
def closeT:ByteArray:=⟨#[41]⟩
section
variable (vs:List VarM) (s:ByteArray)
mutual
def readF:Nat→Nat→Nat→Option ParR
  | 0,_,_=>none
  | m+1,rank,k =>
    if 7 < rank then atomF m k
    else if rank=3∧tokB s k=notT then
      match readF m rank (nxtM s k) with
      | some (.ok x k')=>some (.ok (.mk 9 0 [x]) k')
      | r=>r
    else if rank=7∧tokB s k=negT then
      match readF m rank (nxtM s k) with
      | some (.ok x k')=>some (.ok (.mk 2 0 [x]) k')
      | r=>r
    else match readF m (rank+1) k with
      | some (.ok x k')=>loopF m rank x k'
      | r=>r
def loopF:Nat→Nat→NodeM→Nat→Option ParR
  | 0,_,_,_=>none
  | m+1,rank,x,k =>
    if binM rank (tokB s k)=0 then some (.ok x k)
    else match readF m (rank+1) (nxtM s k) with
      | some (.ok y k')=>if rank=4 then some (.ok (.mk (binM rank (tokB s k)) 0 [x,y]) k') else loopF m rank (.mk (binM rank (tokB s k)) 0 [x,y]) k'
      | r=>r
def atomF:Nat→Nat→Option ParR
  | 0,_=>none
  | m+1,k =>
    if tokB s k=⟨#[]⟩ then some (.err 4 k)
    else if tokB s k=openT then
      match readF m 1 (nxtM s k) with
      | some (.ok x k')=>if tokB s k'=closeT then some (.ok x (nxtM s k')) else some (.err 4 k')
      | r=>r
    else if digitM (bAt (tokB s k) 0)=true then
      if bAt (tokB s k) 0=48∧1 < (tokB s k).size then some (.err 4 k)
      else if 2147483648 < valB (tokB s k) then some (.err 3 k)
      else some (.ok (.mk 0 (valB (tokB s k) : Nat) []) (nxtM s k))
    else if letterM (bAt (tokB s k) 0)=true∧reservedM (tokB s k)=false then
      match idxM vs (tokB s k) with
      | some i=>some (.ok (.mk 1 (i:Nat) []) (nxtM s k))
      | none=>some (.err 10 k)
    else some (.err 4 k)
end
end
def parB (sv:AV) (s:ByteArray) (k:Nat) : Blk:=.cells [sv,.lit (.string s),.lit (.string (tokB s k)),.lit (.int .i64 (k:Nat))] true 0
structure PAt (vs:List VarM) (sv:AV) (s:ByteArray) (p:Nat) (g:Nat→Option Blk) (n k:Nat) : Prop where
  ops:g 0=some opsB
  er:g 3=some (.cells bY false 0)
  p0:3 < p
  pn:p < n
  vars:SliceV g p sv vs.length (vs.flatMap VarM.cells)
  cell:g p=some (parB sv s k)
  le:k≤s.size
theorem PAt.step {vs:List VarM} {sv:AV} {s:ByteArray} {p n n' k k' : Nat} {g g' : Nat→Option Blk} (h:PAt vs sv s p g n k) (hn:n≤n') (hg:∀ a,a < n→a≠p→g' a=g a) (hc:g' p=some (parB sv s k')) (hk:k'≤s.size) : PAt vs sv s p g' n' k' :=
  ⟨(hg 0 (by have:=h.p0; have:=h.pn; omega) (by have:=h.p0; omega)).trans h.ops,(hg 3 (by have:=h.p0; have:=h.pn; omega) (by have:=h.p0; omega)).trans h.er,h.p0,by have:=h.pn; omega,h.vars.mono (Nat.le_refl _) (fun a ha=>hg a (by have:=h.pn; omega) (by omega)),hc,hk⟩
theorem PAt.keep {vs:List VarM} {sv:AV} {s:ByteArray} {p n n' k:Nat} {g g' : Nat→Option Blk} (h:PAt vs sv s p g n k) (hn:n≤n') (hg:∀ a,a < n→g' a=g a) : PAt vs sv s p g' n' k :=
  h.step hn (fun a ha _=>hg a ha) ((hg p h.pn).trans h.cell) h.le
theorem FreshN.keep {g g' : Nat→Option Blk} {n0 n n' n2:Nat} {x:NodeM} {cs:List AV} (h:FreshN g n n' x cs) (h0:n0≤n) (h2:n'≤n2) (hg:∀ a,n≤a→a < n'→g' a=g a) : FreshN g' n0 n2 x cs:=by
  obtain ⟨gk,h1,h3⟩:=h
  refine ⟨gk,fun a z hz=>?_,repN_ext h2 (fun a z _ hz=>hz) h3⟩
  obtain ⟨e1,e2,e3⟩:=h1 a z hz
  exact ⟨(hg a e2 e3).trans e1,by omega,by omega⟩
theorem FreshN.rep {g:Nat→Option Blk} {n n' : Nat} {x:NodeM} {cs:List AV} (h:FreshN g n n' x cs) : repN g n' x cs:=by
  obtain ⟨gk,h1,h3⟩:=h
  exact repN_ext (Nat.le_refl _) (fun a z _ hz=>(h1 a z hz).1) h3
def FreshL (g:Nat→Option Blk) (n n' : Nat) (l:List NodeM) (cs:List AV) : Prop:=∃ gk:Nat→Option Blk,(∀ a z,gk a=some z→g a=some z∧n≤a∧a < n')∧repL gk n' l cs
theorem FreshL.one {g:Nat→Option Blk} {n n' : Nat} {x:NodeM} {cs:List AV} (h:FreshN g n n' x cs) : FreshL g n n' [x] cs:=by
  obtain ⟨gk,h1,h3⟩:=h
  exact ⟨gk,h1,repL_one h3⟩
theorem FreshL.two {g:Nat→Option Blk} {n n' : Nat} {x y:NodeM} {cs ds:List AV} (h:FreshN g n n' x cs) (h' : FreshN g n n' y ds) : FreshL g n n' [x,y] (cs++ds):=by
  obtain ⟨gk,h1,h3⟩:=h
  obtain ⟨gl,h4,h5⟩:=h'
  refine ⟨fun a=>if n≤a∧a < n' then g a else none,fun a z hz=>?_,cs,ds,rfl,repN_ext (Nat.le_refl _) (fun a z _ hz=>?_) h3,repL_one (repN_ext (Nat.le_refl _) (fun a z _ hz=>?_) h5)⟩
  · dsimp only at hz
    split at hz
    · rename_i h; exact ⟨hz,h⟩
    · cases hz
  · obtain ⟨e1,e2⟩:=h1 a z hz
    rw [if_pos e2,e1]
  · obtain ⟨e1,e2⟩:=h4 a z hz
    rw [if_pos e2,e1]
theorem FreshN.node {g g' : Nat→Option Blk} {n n' n2 S op k:Nat} {subs:List NodeM} {cs:List AV} (h:FreshL g n n' subs cs) (hk:subs.length=k) (hop:op < 256) (hS:g' S=some (.cells cs true 0)) (h1:n'≤S) (h2:S < n2) (h0:n≤n') (hg:∀ a,n≤a→a < n'→g' a=g a) :
    FreshN g' n n2 (.mk op 0 subs) [.lit (.int .u8 op),.lit (.int .i64 0),.sl S 0 k k]:=by
  obtain ⟨gk,h3,h4⟩:=h
  refine ⟨gput gk S (some (.cells cs true 0)),fun a z hz=>?_,node_rep h4 hk hop h1 h2⟩
  rcases gput_v hz with ⟨rfl,rfl⟩ | ⟨_,hz⟩
  · exact ⟨hS,by omega,h2⟩
  · obtain ⟨e1,e2,e3⟩:=h3 a z hz
    exact ⟨(hg a e2 e3).trans e1,e2,by omega⟩
def PEnd (sv:AV) (s:ByteArray) (p:Nat) (g:Nat→Option Blk) (n:Nat) (res:ParR) (r:COut) : Prop :=
  match res with
  | .ok x k=>∃ cs g' n',r=.ret (.agg cs) ⟨.fn g',n'⟩∧n≤n'∧(∀ a,a < n→a≠p→g' a=g a)∧g' p=some (parB sv s k)∧k≤s.size∧FreshN g' n n' x cs
  | .err e k=>∃ g' n',r=.panic (.iface 69 (.agg [.lit (.int .i64 e)])) ⟨.fn g',n'⟩∧n≤n'∧(∀ a,a < n→a≠p→g' a=g a)∧g' p=some (parB sv s k)∧k≤s.size
theorem next_par {vs:List VarM} {sv:AV} {s:ByteArray} {p n k:Nat} {g:Nat→Option Blk} (h:PAt vs sv s p g n k) (hs:s.size≤1000000) (h1:oneC sv=true) : WC 6 Tryd.prog 33 [.ptr p 0] ⟨.fn g,n⟩ fun r=>∃ g' n',r=.ret (.tup []) ⟨.fn g',n'⟩∧n≤n'∧(∀ a,a < n→a≠p→g' a=g a)∧g' p=some (parB sv s (nxtM s k)):=by
  have:=next_w s (tokB s k) k p sv g n hs h.cell h.pn (tok_le h.le) h1
  rw [nextM_eq] at this
  exact this
end Go.Ai
end
