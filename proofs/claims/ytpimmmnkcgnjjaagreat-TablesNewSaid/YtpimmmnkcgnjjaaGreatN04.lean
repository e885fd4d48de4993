/- A small verified interpreter over names, its proofs, and what was proved with it. No condition. -/
import Derived.Test.YtpimmmnkcgnjjaaGreatN03
set_option linter.all false
set_option linter.deprecated false
section
namespace Go.Ai
open Go.RowKit (Below)
variable {B G:Nat} {P:Program} {ops:Array Oper} {tab:List Nat} {fr0:Fr}
def GrF (r r' : ResF) : Prop:=∀ j v,r j=some v→r' j=some v
theorem GrF.refl (r:ResF) : GrF r r:=fun _ _ h=>h
theorem GrF.trans {a b c:ResF} (h:GrF a b) (k:GrF b c) : GrF a c:=fun j v e=>k j v (h j v e)
theorem setW_ok {res:ResF} {i:Nat} {v:AV} {K:ResF→Prop} (h:setW res i v K) : ∃ res',K res'∧GrF res res'∧res' i=some v:=by
 refine ⟨_,h.2,fun j y hj=>?_,if_pos rfl⟩
 unfold rput
 by_cases e:j=i
 ·subst e; rw [h.1] at hj; grind
 grind
def KnownW (B:Nat) (P:Program) (ops:Array Oper) (tab:List Nat) (fr0:Fr) (res:ResF) (held:List Nat) (als:Als) (i:Nat) (o:Oper) : Prop :=
  ∃ r0 v,GrF r0 res∧res i=some v ∧
    ((wantedF tab r0 i o=some false∧v=.lit undef) ∨
     (wantedF tab r0 i o=some true ∧
      ((cls o.op=.free∧∀ H,opV P H (envF ops tab fr0 r0 i) o=.val v H) ∨
       (cls o.op=.gen∧generic P (envF ops tab fr0 r0 i) o=some v) ∨
       (cls o.op=.read∧i∈held) ∨
       (∃ f x nm,(∀ (ρ:Rn) (w:World) (e:Operand→Value),EvR ρ (envF ops tab fr0 r0 i) e→B≤w.heap.size→ND B P ρ w f x (execOp e o))∧v=f nm∧(i,nm,x)∈als))))
theorem KnownW.mono {res res' : ResF} {held held' : List Nat} {als als' : Als} {i:Nat} {o:Oper} (h:KnownW B P ops tab fr0 res held als i o) (hg:GrF res res')
  (hh:i∈held→i∈held') (ha:∀ nm x,(i,nm,x)∈als→(i,nm,x)∈als') : KnownW B P ops tab fr0 res' held' als' i o:=by
 obtain ⟨r0,v,h1,h2,h3⟩:=h
 refine ⟨r0,v,h1.trans hg,hg _ _ h2,h3.imp id fun ⟨h4,h5⟩=>⟨h4,h5.imp id fun h5=>h5.imp id fun h5=>h5.imp ?_ ?_⟩⟩
 ·grind
 ·exact fun ⟨f,x,nm,a,b,c⟩=>⟨f,x,nm,a,b,ha _ _ c⟩
structure FoundW (B:Nat) (P:Program) (ops:Array Oper) (tab:List Nat) (fr0:Fr) (L:List Nat) (res:ResF) (H:Mem) (held:List Nat) (als:Als) (res' : ResF) (H' : Mem) (held' : List Nat) (als' : Als) : Prop where
 gr:GrF res res'
 ph:Ph H H'
 keepH:∀ i∈held,i∈held'
 keepA:∀ x∈als,x∈als'
 new:∀ x∈als',x∈als∨H.next≤x.2.1
 ok:∀ n,n≤H.next→AlsOK n H als→AlsOK n H' als'
 known:∀ i∈L,∀ o,ops[i]?=some o→KnownW B P ops tab fr0 res' held' als' i o
variable {L:List Nat} {res:ResF} {H:Mem} {held:List Nat} {als:Als} {K:StW}
theorem wantedW_ok {tab:List Nat} {res:ResF} {i:Nat} {o:Oper} {yes no:Prop} (h:wantedW tab res i o yes no) :
  (wantedF tab res i o=some true∧yes)∨(wantedF tab res i o=some false∧no):=by
 unfold wantedW at h
 unfold wantedF
 split at h
 ·grind
 ·rename_i g hg
  obtain ⟨ha,h⟩:=h
  unfold wantedRF
  rw [ha]
  unfold byGuard at h
  split at h
  ·rename_i b hs
   rw [hs]
   obtain ⟨j,want⟩:=g
   by_cases e:b=want
   ·left; refine ⟨?_,h.1 e⟩; subst e; cases b <;> rfl
   ·right
    have e2:b = !want:=by cases b <;> cases want <;> simp_all
    grind
  all_goals grind
theorem stepW_sound {i:Nat} {o:Oper} (ho:ops[i]?=some o) (hk:isChain o.op=false) (hn:cls o.op≠.no) (h:stepW P ops tab fr0 i res H held als K) :
    ∃ res' H' held' als',K res' H' held' als'∧FoundW B P ops tab fr0 [i] res H held als res' H' held' als':=by
  have only:∀ {res' : ResF} {held' : List Nat} {als' : Als},KnownW B P ops tab fr0 res' held' als' i o→∀ j∈[i],∀ o',ops[j]?=some o'→KnownW B P ops tab fr0 res' held' als' j o':=by
    grind
  unfold stepW at h
  rw [ho] at h
  dsimp only at h
  rcases wantedW_ok h with ⟨hw,h⟩ | ⟨hw,h⟩
  · have quietCase : ∀ (hc1 : cls o.op ≠ .alloc) (hc2 : cls o.op ≠ .read), quietW P H (envF ops tab fr0 res i) o (fun v => setW res i v fun res => K res H held als) →
        ∃ res' H' held' als',K res' H' held' als'∧FoundW B P ops tab fr0 [i] res H held als res' H' held' als':=by
      intro hc1 hc2 h
      unfold quietW at h
      split at h
      · rename_i v hv
        obtain ⟨res',h1,h2,h3⟩:=setW_ok h
        refine ⟨res',H,held,als,h1,h2,Ph.refl _,fun _ h=>h,fun _ h=>h,fun _ h=>.inl h,fun _ _ h=>h,only ?_⟩
        refine ⟨res,_,h2,h3,.inr ⟨hw,?_⟩⟩
        cases hc:cls o.op with
        | free =>
          left
          refine ⟨rfl,?_⟩
          unfold quiet at hv
          rw [hc] at hv
          dsimp only at hv
          have hf:freeOp o.op=true:=by
            cases hf:freeOp o.op with
            | true=>rfl
            | false =>
              (simp_all [cls]; grind)
          split at hv
          · rename_i v' H' hv'
            cases hv
            intro H2
            have hfr:=freeOp_sound hf H v H' hv'
            grind
          grind
        | gen =>
          right; left
          refine ⟨rfl,?_⟩
          grind [quiet]
        | read=>grind
        | alloc=>grind
        | chain=>grind [isChain]
        | no=>grind
      grind
    cases hc:cls o.op with
    | alloc =>
      rw [hc] at h
      dsimp only at h
      cases hv:opV P H (envF ops tab fr0 res i) o with
      | val v H' =>
        rw [hv] at h
        dsimp only [allocW] at h
        split at h
        · rename_i b hb
          obtain ⟨f,x,e1,e2,hnd⟩:=alloc_sound (B:=B) hc hv
          subst e1; subst e2
          have hbx:b=x:=by
            rcases Mem.get_add hb with ⟨_,e⟩ | ⟨e,_⟩
            all_goals grind
          subst hbx
          obtain ⟨res',h1,h2,h3⟩:=setW_ok h
          refine ⟨res',_,held,_,h1,h2,Ph.add _ _,fun _ h=>h,fun _ h=>List.mem_cons_of_mem _ h,?_,fun n hn hk=>hk.cons hn i b b,only ?_⟩
          · grind
          · exact ⟨res,_,h2,h3,.inr ⟨hw,.inr (.inr (.inr ⟨f,b,H.next,hnd,rfl,by simp⟩))⟩⟩
        grind
      | _=>rw [hv] at h; exact h.elim
    | read =>
      rw [hc] at h
      dsimp only at h
      unfold quietW at h
      split at h
      · rename_i v hv
        obtain ⟨res',h1,h2,h3⟩:=setW_ok h
        refine ⟨res',H,i :: held,als,h1,h2,Ph.refl _,fun _ h=>List.mem_cons_of_mem _ h,fun _ h=>h,fun _ h=>.inl h,fun _ _ h=>h,only ?_⟩
        exact ⟨res,_,h2,h3,.inr ⟨hw,.inr (.inr (.inl ⟨hc,by simp⟩))⟩⟩
      grind
    | free=>grind
    | gen=>grind
    | chain=>grind
    | no=>grind
  · obtain ⟨res',h1,h2,h3⟩:=setW_ok h
    exact ⟨res',H,held,als,h1,h2,Ph.refl _,fun _ h=>h,fun _ h=>h,fun _ h=>.inl h,fun _ _ h=>h,only ⟨res,_,h2,h3,.inl ⟨hw,rfl⟩⟩⟩
theorem stageW_sound:∀ (L:List Nat) (res:ResF) (H:Mem) (held:List Nat) (als:Als),(∀ i∈L,∃ o,ops[i]?=some o∧isChain o.op=false∧cls o.op≠.no) →
  stageW P ops tab fr0 K L res H held als→∃ res' H' held' als',K res' H' held' als'∧FoundW B P ops tab fr0 L res H held als res' H' held' als'
 | [],res,H,held,als,_,h=>⟨res,H,held,als,h,GrF.refl _,Ph.refl _,fun _ h=>h,fun _ h=>h,fun _ h=>.inl h,fun _ _ h=>h,fun _ h=>by cases h⟩
 | i :: L,res,H,held,als,hL,h=>by
  obtain ⟨o,ho,hk,hn⟩:=hL i (by simp)
  obtain ⟨r1,H1,hd1,al1,h1,f1⟩:=stepW_sound (B:=B) ho hk hn h
  obtain ⟨r2,H2,hd2,al2,h2,f2⟩:=stageW_sound L r1 H1 hd1 al1 (fun i hi=>hL i (by grind)) h1
  refine ⟨r2,H2,hd2,al2,h2,f1.gr.trans f2.gr,f1.ph.trans f2.ph,fun i hi=>f2.keepH i (f1.keepH i hi),fun x hx=>f2.keepA x (f1.keepA x hx),?_,?_,?_⟩
  ·intro x hx
   rcases f2.new x hx with h | h
   ·exact f1.new x h
   ·exact .inr (Nat.le_trans f1.ph.le h)
  ·intro n hn hk
   exact f2.ok n (Nat.le_trans hn f1.ph.le) (f1.ok n hn hk)
  ·intro j hj o' ho'
   rcases List.mem_cons.1 hj with rfl | hj
   ·exact (f1.known j (by simp) o' ho').mono f2.gr (fun h=>f2.keepH _ h) fun nm x h=>f2.keepA _ h
   ·exact f2.known j hj o' ho'
noncomputable def nxtW (P:Program) (W:WF) (ops:Array Oper) (tab:List Nat) (fr:Fr) (all:List Nat) (Q:Out→Prop) (k:Nat) (cs:List Nat) (res:ResF) (H:Mem) (held:List Nat) (als:Als) : Prop :=
 match cs with
 | []=>finW res (fun fr=>Q (.norm fr H)) ops.toList 0 fr
 | c :: cs=>actW P W ops tab fr c res H (fun res H=>stagesW P W ops tab fr all Q (k+1) cs res H (still tab c held) (stillA tab c als)) Q
def gateW (P:Program) (W:WF) (ops:Array Oper) (tab:List Nat) (fr:Fr) (all:List Nat) (Q:Out→Prop) (k:Nat) (cs:List Nat) (res:ResF) (H:Mem) (held:List Nat) (als:Als) : Prop :=
 recheckW P ops tab fr res H held∧staysW H als∧nxtW P W ops tab fr all Q k cs res H held als
theorem stagesW_eq {W:WF} {Q:Out→Prop} (all:List Nat) (k:Nat) (cs:List Nat) (res:ResF) (H:Mem) (held:List Nat) (als:Als) :
  stagesW P W ops tab fr0 all Q k cs res H held als=stageW P ops tab fr0 (fun res H held als=>gateW P W ops tab fr0 all Q k cs res H held als) (stageOf tab all k ops.toList 0) res H held als:=by
 cases cs <;> rfl
theorem recheckW_spec {res:ResF} {H:Mem} : ∀ {held:List Nat},recheckW P ops tab fr0 res H held→∀ i∈held,∃ o v,ops[i]?=some o∧res i=some v∧quiet P H (envF ops tab fr0 res i) o=some v
 | [],_,_,h=>by cases h
 | j :: held,h,i,hi=>by
  rcases List.mem_cons.1 hi with rfl | hi
  ·have h1:=h.1
   split at h1
   ·rename_i o ho
    obtain ⟨v,hv,hq⟩:=h1
    exact ⟨o,v,ho,hv,hq⟩
   ·exact h1.elim
  ·exact recheckW_spec h.2 i hi
theorem staysW_spec {H:Mem} : ∀ {als:Als},staysW H als→∀ i nm x,(i,nm,x)∈als→H.get nm=some x
 | [],_,_,_,_,h=>by cases h
 | (j,a,b) :: als,h,i,nm,x,hx=>by
  rcases List.mem_cons.1 hx with e | hx
  ·cases e; exact h.1
  ·exact staysW_spec h.2 i nm x hx
end Go.Ai
end
section
namespace Go.Ai
open Go.RowKit (Below)
variable {B G n n0:Nat} {P:Program} {ops:Array Oper} {fr0:Fr} {ρ0 ρ:Rn} {w0 w:World} {dn cs:List Nat} {res:ResF} {H:Mem} {held:List Nat} {als:Als} {listed:Array Bool} {a:Act} {Q:Out→Prop} {W:WF}
structure DInvW (B G n n0:Nat) (P:Program) (ops:Array Oper) (fr0:Fr) (ρ0:Rn) (w0:World) (dn cs:List Nat) (res:ResF) (H:Mem) (held:List Nat) (als:Als) (listed:Array Bool) (ρ:Rn) (a:Act) (w:World) : Prop where
 ext:Ext B n0 ρ0 w0 ρ w
 sim:Sim B G ρ H w
 le:n0≤H.next
 size:listed.size=ops.size
 tsz:n≤a.tmps.size
 dfr:DR ρ fr0.defers a.defers
 only:∀ t v,fr0.get t=some v→t < n
 chain:chainOf ops.toList 0=dn++cs
 csN:∀ c∈cs,¬Dn listed c
 down:∀ i o,Dn listed i→ops[i]?=some o→∀ e∈o.after.toList,Region.binds .any e=true→Dn listed e.on
 old:∀ t,(∀ j,writer t ops.toList 0=some j→¬Dn listed j)→∀ v,fr0.get t=some v→VR ρ v (a.tmps.getD t undef)
 new:∀ j o,Dn listed j→ops[j]?=some o→∃ v,res j=some v∧∀ d,o.dst=some d→VR ρ v (a.tmps.getD d undef)
 known:∀ i o,¬Dn listed i→ops[i]?=some o→isChain o.op=false→countAnc (ancs [] ops.toList) i (dn++cs)≤dn.length→KnownW B P ops (ancs [] ops.toList) fr0 res held als i o
 aok:AlsOK n0 H als
 alsN:∀ x∈als,¬Dn listed x.1→ρ x.2.1=none
theorem Rd.ancW {i j:Nat} {o:Oper} (r:Rd ops listed i o) (d:DInvW B G n n0 P ops fr0 ρ0 w0 dn cs res H held als listed ρ a w) (h:isAnc (ancs [] ops.toList) i j=true) : Dn listed j :=
 anc_listed (listed:=Dn listed) d.down i o j r.at' r.all h
theorem Rd.not_ancW {i j:Nat} {o:Oper} (r:Rd ops listed i o) (d:DInvW B G n n0 P ops fr0 ρ0 w0 dn cs res H held als listed ρ a w) (hj:j < ops.size) (h:isAnc (ancs [] ops.toList) j i=true) : ¬Dn listed j:=by
 intro hd
 obtain ⟨oj,hoj⟩ : ∃ oj,ops[j]?=some oj:=⟨ops[j],by grind⟩
 exact r.un (anc_listed (listed:=Dn listed) d.down j oj i hoj (d.down j oj hd hoj) h)
theorem envF_EvR {i:Nat} {o:Oper} {r0:ResF} (d:DInvW B G n n0 P ops fr0 ρ0 w0 dn cs res H held als listed ρ a w) (r:Rd ops listed i o) (hg:GrF r0 res) :
  EvR ρ (envF ops (ancs [] ops.toList) fr0 r0 i) a.eval:=by
 intro x v hx
 cases x with
 | tmp t =>
  have hx' : envTF ops (ancs [] ops.toList) fr0 r0 i t=some v:=hx
  unfold envTF at hx'
  split at hx'
  ·rename_i hw
   exact d.old t (fun j hj=>by grind) v hx'
  ·rename_i j hw
   obtain ⟨_,oj,hoj,hdj⟩:=writer_spec hw
   have hoj' : ops[j]?=some oj:=toList_at.1 (by grind)
   split at hx'
   ·rename_i ha
    obtain ⟨y,hy,hv⟩:=d.new j oj (r.ancW d ha) hoj'
    have:=hg _ _ hx'
    rw [this] at hy; cases hy
    exact hv t hdj
   ·split at hx'
    ·rename_i ha
     refine d.old t (fun j' hj'=>?_) v hx'
     rw [hw] at hj'; cases hj'
     rcases Bool.or_eq_true _ _ ▸ ha with h1 | h1
     ·exact r.not_ancW d (lt_of_at hoj') h1
     ·have:=Nat.eq_of_beq_eq_true h1
      subst this; exact r.un
    grind
 | const c=>cases hx; rfl
 | global g=>cases hx; rfl
 | func f=>cases hx; rfl
theorem wantedF_sound {i:Nat} {o:Oper} {r0:ResF} {b:Bool} (hfit:fit ops.toList ops.toList 0=true) (hdst:∀ (j:Nat) (o:Oper),ops[j]?=some o→dstOk n o=true)
  (d:DInvW B G n n0 P ops fr0 ρ0 w0 dn cs res H held als listed ρ a w) (r:Rd ops listed i o) (hg:GrF r0 res) (h:wantedF (ancs [] ops.toList) r0 i o=some b) :
  Region.wanted o (yielded ops a.tmps)=b:=by
 unfold wantedF at h
 split at h
 ·grind [Region.wanted]
 ·rename_i g hgd
  obtain ⟨j,want⟩:=g
  have hone:=fit_spec hfit i o (toList_at.2 r.at')
  unfold fitOne at hone
  simp only [Bool.and_eq_true] at hone
  have hgo:=hone.2
  rw [hgd] at hgo
  dsimp only at hgo
  split at hgo
  ·rename_i oj hoj
   have hoj' : ops[j]?=some oj:=toList_at.1 hoj
   obtain ⟨t,ht⟩:=Option.isSome_iff_exists.1 hgo
   have slot:∀ {v:AV},isAnc (ancs [] ops.toList) i j=true→r0 j=some v→∃ u,a.tmps[t]?=some u∧VR ρ v u:=by
    intro v ha hv
    obtain ⟨y,hy,hv'⟩:=d.new j oj (r.ancW d ha) hoj'
    rw [hg _ _ hv] at hy; cases hy
    have hlt:t < n:=dstOk_lt (hdst j oj hoj') t ht
    have hsz:t < a.tmps.size:=Nat.lt_of_lt_of_le hlt d.tsz
    simp_all
   unfold wantedRF at h
   split at h
   ·rename_i b' ha hb
    obtain ⟨u,hu,hv⟩:=slot ha hb
    cases hv
    have hyl:yielded ops a.tmps j=some b':=by grind [yielded]
    simp only [Region.wanted,hgd,hyl]
    revert h
    cases b' <;> cases want <;> simp <;> exact fun h=>h ▸ rfl
   ·rename_i vs ha hb
    obtain ⟨u,hu,hv⟩:=slot ha hb
    cases hv
    grind [yielded,Region.wanted]
   grind
  grind
theorem DInvW.go {i:Nat} {o:Oper} {ρ' : Rn} {w' : World} {u:Value} {v:AV} {dn' cs' : List Nat} {res' : ResF} {H' : Mem} {held' : List Nat} {als' : Als}
  (hfit:fit ops.toList ops.toList 0=true) (hdst:∀ (j:Nat) (o:Oper),ops[j]?=some o→dstOk n o=true)
  (d:DInvW B G n n0 P ops fr0 ρ0 w0 dn cs res H held als listed ρ a w) (r:Rd ops listed i o)
  (hext:Ext B n0 ρ w ρ' w') (hsub:Sub ρ ρ') (hs:Sim B G ρ' H' w') (hle:n0≤H'.next) (hgr:GrF res res') (hv:res' i=some v) (hr:VR ρ' v u)
  (hchain:chainOf ops.toList 0=dn'++cs') (hcs:∀ c∈cs',c≠i∧c∈cs)
  (hkn:∀ j oj,j≠i→¬Dn listed j→ops[j]?=some oj→isChain oj.op=false→countAnc (ancs [] ops.toList) j (dn'++cs')≤dn'.length→KnownW B P ops (ancs [] ops.toList) fr0 res' held' als' j oj)
  (haok:AlsOK n0 H' als') (haln:∀ x∈als',x.1≠i→¬Dn listed x.1→ρ' x.2.1=none) :
  DInvW B G n n0 P ops fr0 ρ0 w0 dn' cs' res' H' held' als' (listed.setIfInBounds i true) ρ' (a.put o.dst u) w':=by
 have hi:i < listed.size:=by rw [d.size]; exact lt_of_at r.at'
 have dset:∀ j,Dn (listed.setIfInBounds i true) j↔j=i∨Dn listed j:=fun j=>Dn.set hi
 refine ⟨d.ext.trans hext (Nat.le_refl _),hs,hle,by simp [d.size],by rw [put_size]; exact d.tsz,by rw [put_defers]; exact d.dfr.mono hsub,d.only,hchain,?_,?_,?_,?_,?_,haok,?_⟩
 ·intro c hc hd
  rcases (dset c).1 hd with e | h
  ·grind
  ·exact d.csN c (hcs c hc).2 h
 ·intro j oj hj hoj e he hb
  rcases (dset j).1 hj with e1 | h
  ·subst e1
   rw [r.at'] at hoj; cases hoj
   exact (dset _).2 (.inr (r.all e he hb))
  ·exact (dset _).2 (.inr (d.down j oj h hoj e he hb))
 ·intro t ht y hy
  have hne:o.dst≠some t:=fun e=>ht i (fitW hfit r.at' e) ((dset i).2 (.inl rfl))
  rw [put_ne hne]
  exact (d.old t (fun j hj hd=>ht j hj ((dset j).2 (.inr hd))) y hy).mono hsub
 ·intro j oj hj hoj
  by_cases e:j=i
  ·subst e
   rw [r.at'] at hoj; cases hoj
   refine ⟨v,hv,fun t ht=>?_⟩
   have hlt:t < a.tmps.size:=Nat.lt_of_lt_of_le (dstOk_lt (hdst j _ r.at') t ht) d.tsz
   grind [put_at]
  ·rcases (dset j).1 hj with e1 | h
   ·grind
   ·obtain ⟨y,h1,h2⟩:=d.new j oj h hoj
    refine ⟨y,hgr _ _ h1,fun t ht=>?_⟩
    have hne:o.dst≠some t:=by
     intro e1
     have h3:=fitW hfit r.at' e1
     rw [fitW hfit hoj ht] at h3
     grind
    rw [put_ne hne]
    exact (h2 t ht).mono hsub
 all_goals grind
structure GInvW (B G n n0:Nat) (P:Program) (W:WF) (ops:Array Oper) (fr0:Fr) (ρ0:Rn) (w0:World) (Q:Out→Prop) (listed:Array Bool) (a:Act) (w:World) : Prop where
 go:∃ dn cs res H held als ρ,DInvW B G n n0 P ops fr0 ρ0 w0 dn cs res H held als listed ρ a w∧(∀ c∈dn,Dn listed c)∧(∀ x∈als,G≤x.2.1) ∧
  gateW P W ops (ancs [] ops.toList) fr0 (dn++cs) Q dn.length cs res H held als
theorem quietW_step {i:Nat} {o:Oper} (hG:G=P.globals.size) (hfit:fit ops.toList ops.toList 0=true) (hdst:∀ (j:Nat) (o:Oper),ops[j]?=some o→dstOk n o=true)
  (hGn:∀ x∈als,G≤x.2.1) (d:DInvW B G n n0 P ops fr0 ρ0 w0 dn cs res H held als listed ρ a w) (hdl:∀ c∈dn,Dn listed c)
  (hg:gateW P W ops (ancs [] ops.toList) fr0 (dn++cs) Q dn.length cs res H held als) (r:Rd ops listed i o) (hc:isChain o.op=false)
  {K:Act→World→Prop} (hK:∀ a' w',GInvW B G n n0 P W ops fr0 ρ0 w0 Q (listed.setIfInBounds i true) a' w'→K a' w') :
  wpOp P ops (PostQ B G n n0 ρ0 w0 Q) i K a w:=by
 have hg0:=hg
 obtain ⟨hre,hst,_⟩:=hg
 have hcnt:countAnc (ancs [] ops.toList) i (dn++cs)≤dn.length:=by
  refine countAnc_le fun c hcm=>?_
  cases hb:isAnc (ancs [] ops.toList) i c with
  | false=>rfl
  | true=>exact absurd (r.ancW d hb) (d.csN c hcm)
 obtain ⟨r0,v,hgr,hv,hk⟩:=d.known i o r.un r.at' hc hcnt
 have hno:=fit_no hfit r.at'
 have hci:∀ c∈cs,c≠i∧c∈cs:=by
  intro c hcm
  refine ⟨?_,hcm⟩
  rintro rfl
  have hmem:c∈chainOf ops.toList 0:=by rw [d.chain]; grind
  obtain ⟨_,o',ho',hch⟩:=mem_chainOf.1 hmem
  have h2:ops[c]?=some o':=toList_at.1 (by grind)
  rw [r.at'] at h2; grind
 have fin' : ∀ (ρ' : Rn) (u:Value) (w' : World),Ext B n0 ρ w ρ' w'→Sub ρ ρ'→Sim B G ρ' H w'→VR ρ' v u→(∀ x∈als,x.1≠i→¬Dn listed x.1→ρ' x.2.1=none)→K (a.put o.dst u) w':=by
  intro ρ' u w' he hsub hs hvr haln
  refine hK _ _ ⟨dn,cs,res,H,held,als,ρ',?_,fun c hc'=>(Dn.set (by rw [d.size]; exact lt_of_at r.at')).2 (.inr (hdl c hc')),hGn,hg0⟩
  exact d.go hfit hdst r he hsub hs d.le (GrF.refl _) hv hvr d.chain hci (fun j oj _ hj hoj hcj hn=>d.known j oj hj hoj hcj hn) d.aok haln
 have hev:=envF_EvR d r hgr
 have base:=fun b hb=>wantedF_sound (b:=b) hfit hdst d r hgr hb
 unfold wpOp
 rw [r.at']
 dsimp only
 rcases hk with ⟨hw,rfl⟩ | ⟨hw,hk⟩
 ·rw [if_neg (by grind)]
  exact fin' ρ undef w (Ext.refl _ _ _ _) (Sub.refl _) d.sim rfl (fun x hx _ hd=>d.alsN x hx hd)
 ·rw [if_pos (base _ hw)]
  left
  have val:RS B G P ρ H w (.val v H) (execOp a.eval o)→o.wp P a w K (PostQ B G n n0 ρ0 w0 Q):=by
   rintro ⟨ρ',u,w',h1,h2,h3,h4,_⟩
   unfold Oper.wp
   rw [h1]
   refine fin' ρ' u w' ⟨fun x hx=>h2.same x (Nat.lt_of_lt_of_le hx d.le),h2.keeps,h2.below⟩ (h2.sub d.sim) h3 h4 fun x hx _ hd=>?_
   rw [h2.same _ (d.aok.hi x hx)]
   exact d.alsN x hx hd
  rcases hk with ⟨_,hfree⟩ | ⟨_,hgen⟩ | ⟨hcl,hh⟩ | ⟨f,x,nm,hnd,rfl,hmem⟩
  ·have:=opV_sound (o:=o) d.sim hev hG
   grind
  ·have:=s_gen (B:=B) (G:=G) (P:=P) (H:=H) d.sim hev (not_select hno)
   rw [hgen] at this
   exact val this
  ·obtain ⟨o',v',ho',hv',hq⟩:=recheckW_spec hre i hh
   rw [r.at'] at ho'; cases ho'
   rw [hv] at hv'; cases hv'
   have hev':=envF_EvR d r (GrF.refl res)
   have:=opV_sound (o:=o) d.sim hev' hG
   grind [quiet_opV]
  ·have hnm:=d.alsN _ hmem r.un
   have hget:=staysW_spec hst i nm x hmem
   obtain ⟨ob,k,u,w',h1,h2,h3,h4,h5,hdr,h6⟩:=hnd ρ w a.eval hev d.sim.base
   obtain ⟨hb,hvr⟩:=h6 nm hnm
   have hlo:n0≤nm:=d.aok.lo _ hmem
   have hhi:nm < H.next:=d.aok.hi _ hmem
   unfold Oper.wp
   rw [h1]
   refine fin' _ u w' ?_ (sub_upd hnm) (d.sim.named hget hnm hhi (hGn _ hmem) h2 hb) hvr fun y hy hyi hyd=>?_
   ·exact ⟨fun y hy=>upd_ne _ _ (Nat.ne_of_lt (Nat.lt_of_lt_of_le hy hlo)),KD.push h2,(Ext.alloc ρ n0 (w.heap.size,0,k) w w' ob h2 h3 h4 h5 d.sim.base).below⟩
   ·have:y.2.1≠nm:=by
     intro e
     have:=d.aok.own y hy _ hmem e
     grind
    rw [upd_ne _ _ this]
    exact d.alsN y hy hyd
theorem actW_step (hW:WOK G P W) {i:Nat} {o:Oper} (hG:G=P.globals.size) (hord:ordered (ancs [] ops.toList) (chainOf ops.toList 0)=true) (hfit:fit ops.toList ops.toList 0=true)
  (hdst:∀ (j:Nat) (o:Oper),ops[j]?=some o→dstOk n o=true)
  (hGn:∀ x∈als,G≤x.2.1) (d:DInvW B G n n0 P ops fr0 ρ0 w0 dn cs res H held als listed ρ a w) (hdl:∀ c∈dn,Dn listed c)
  (hg:gateW P W ops (ancs [] ops.toList) fr0 (dn++cs) Q dn.length cs res H held als) (r:Rd ops listed i o) (hc:isChain o.op=true)
  {K:Act→World→Prop} (hK:∀ a' w',GInvW B G n n0 P W ops fr0 ρ0 w0 Q (listed.setIfInBounds i true) a' w'→K a' w') :
  wpOp P ops (PostQ B G n n0 ρ0 w0 Q) i K a w:=by
 obtain ⟨hre,hst,hn⟩:=hg
 have hmem:i∈dn++cs:=by
  rw [← d.chain]
  exact mem_chainOf.2 ⟨Nat.zero_le _,o,by simpa using r.at',hc⟩
 rcases List.mem_append.1 hmem with h | hics
 ·exact absurd (hdl i h) r.un
 cases cs with
 | nil=>grind
 | cons c cs =>
 have hic:i=c:=by
  rcases List.mem_cons.1 hics with h | h
  ·exact h
  ·obtain ⟨p,hp,ha⟩:=ordered_next (dn:=dn) (c:=c) (cs:=cs) (by rw [← d.chain]; omega) i h
   exact absurd (r.ancW d ha) (d.csN p hp)
 subst hic
 have hi:i < listed.size:=by rw [d.size]; exact lt_of_at r.at'
 have hnd:(dn++i :: cs)=(dn++[i])++cs:=by simp
 have hcs:∀ c∈cs,c≠i∧c∈i :: cs:=by
  intro c hcm
  refine ⟨?_,List.mem_cons_of_mem _ hcm⟩
  rintro rfl
  obtain ⟨p,hp,ha⟩:=ordered_next (dn:=dn) (c:=c) (cs:=cs) (by rw [← d.chain]; omega) c hcm
  exact absurd (r.ancW d ha) (d.csN p hp)
 have nxt' : ∀ (v:AV) (H' : Mem) (ρ' : Rn) (u:Value) (w' : World) (res' : ResF),GrF res res'→res' i=some v→Ext B H.next ρ w ρ' w'→Sim B G ρ' H' w'→VR ρ' v u→H.next≤H'.next →
   stagesW P W ops (ancs [] ops.toList) fr0 (dn++i :: cs) Q (dn.length+1) cs res' H' (still (ancs [] ops.toList) i held) (stillA (ancs [] ops.toList) i als)→K (a.put o.dst u) w':=by
  intro v H' ρ' u w' res' hgr hv he hs hvr hle hst'
  rw [stagesW_eq] at hst'
  obtain ⟨res2,H2,held2,als2,h1,f⟩:=stageW_sound (B:=B) (stageOf (ancs [] ops.toList) (dn++i :: cs) (dn.length+1) ops.toList 0) res' H' _ _ (by
   grind [mem_stageOf,fit_no]) hst'
  have hlen:(dn++[i]).length=dn.length+1:=by simp
  refine hK _ _ ⟨dn++[i],cs,res2,H2,held2,als2,ρ',?_,?_,?_,?_⟩
  ·refine d.go hfit hdst r ⟨fun x hx=>he.same x (Nat.lt_of_lt_of_le hx d.le),he.keeps,he.below⟩ (he.sub d.sim) (f.ph.sim hs) (Nat.le_trans d.le (Nat.le_trans hle f.ph.le)) (hgr.trans f.gr) (f.gr _ _ hv) hvr
    (by rw [d.chain,hnd]) hcs ?_ ?_ ?_
   ·intro j oj hji hjn hoj hcj hcnt
    rw [hlen,← hnd] at hcnt
    rcases Nat.lt_or_ge (countAnc (ancs [] ops.toList) j (dn++i :: cs)) (dn.length+1) with h | h
    ·have hna:isAnc (ancs [] ops.toList) i j=false:=by
      cases hb:isAnc (ancs [] ops.toList) i j with
      | false=>rfl
      | true=>exact absurd (r.ancW d hb) hjn
     exact (d.known j oj hjn hoj hcj (by omega)).mono (hgr.trans f.gr) (fun h=>f.keepH _ (mem_still hna h)) fun nm x h=>f.keepA _ (mem_stillA hna h)
    ·exact f.known j (mem_stageOf.2 ⟨Nat.zero_le _,oj,by grind,hcj,by omega⟩) oj hoj
   ·exact f.ok n0 (Nat.le_trans d.le hle) (d.aok.sub (fun x hx=>stillA_sub x hx) hle)
   ·intro x hx hxi hxn
    rcases f.new x hx with h | h
    ·have hx':=stillA_sub x h
     rw [he.same _ (d.aok.hi x hx')]
     exact d.alsN x hx' hxn
    ·exact hs.fresh _ h
  ·grind [Dn.set]
  ·intro x hx
   rcases f.new x hx with h | h
   ·grind [stillA_sub]
   ·exact Nat.le_trans hs.names h
  grind
 have hev:=envF_EvR d r (GrF.refl res)
 have base:=fun b hb=>wantedF_sound (b:=b) hfit hdst d r (GrF.refl res) hb
 unfold wpOp
 rw [r.at']
 dsimp only
 unfold nxtW actW at hn
 dsimp only at hn
 rw [r.at'] at hn
 dsimp only at hn
 rcases wantedW_ok hn with ⟨hw,hm⟩ | ⟨hw,hm⟩
 ·rw [if_pos (base _ hw)]
  left
  have hrs:=opV_sound (o:=o) d.sim hev hG
  unfold Oper.wp
  cases hr:opV P H (envF ops (ancs [] ops.toList) fr0 res i) o with
  | val v H' =>
   rw [hr] at hrs hm
   obtain ⟨ρ',u,w',h1,h2,h3,h4,h5⟩:=hrs
   rw [h1]
   simp only [actRW] at hm
   obtain ⟨res',g1,g2,g3⟩:=setW_ok hm
   exact nxt' v H' ρ' u w' res' g2 g3 h2 h3 h4 h5 g1
  | skip H' =>
   rw [hr] at hrs hm
   obtain ⟨ρ',w',h1,h2,h3,h5⟩:=hrs
   rw [h1]
   simp only [actRW] at hm
   obtain ⟨res',g1,g2,g3⟩:=setW_ok hm
   exact nxt' _ H' ρ' undef w' res' g2 g3 h2 h3 rfl h5 g1
  | enter f args H' =>
   rw [hr] at hrs hm
   obtain ⟨us,h1,h2,rfl⟩:=hrs
   rw [h1]
   have hm':=hW _ _ _ _ (show W f args H' _ from hm)
   refine (hm' B ρ us w d.sim h2).mono fun e w' ⟨r',hkr,hc'⟩=>?_
   cases r' with
   | bad=>grind
   | ret v H2 =>
    obtain ⟨res',g1,g2,g3⟩:=setW_ok hkr
    cases e with
    | returned u =>
     obtain ⟨ρ',k1,k2,k3,k4⟩:=hc'
     grind
    | panicked chain=>exact hc'.elim
    | outgrown=>exact hc'.elim
   | panic v H2 =>
    cases e with
    | returned u=>exact hc'.elim
    | panicked chain =>
     obtain ⟨ρ',u,g0,g1,g2,g3,g4⟩:=hc'
     refine ⟨_,hkr,ρ',u,g0,g1,?_,g3,?_,Nat.le_trans d.le g4⟩
     ·exact d.ext.trans ⟨fun x hx=>g2.same x (Nat.lt_of_lt_of_le hx d.le),g2.keeps,g2.below⟩ (Nat.le_refl _)
     ·exact ⟨(fun t v hv _=>(by grind [Fr.get_clear])),(by rw [Fr.defers_clear]; exact d.dfr.mono (g2.sub d.sim)),d.tsz,(fun t v hv=>(by grind [Fr.get_clear]))⟩
    | outgrown=>exact hc'.elim
  | dfr fn cap args H'=>rw [hr] at hm; exact hm.elim
  | recover=>rw [hr] at hm; exact hm.elim
  | panic v H'=>rw [hr] at hm; exact hm.elim
  | bad=>rw [hr] at hm; exact hm.elim
 ·rw [if_neg (by grind)]
  obtain ⟨res',h1,h2,h3⟩:=setW_ok hm
  exact nxt' _ H ρ undef w res' h2 h3 (Ext.refl _ _ _ _) d.sim rfl (Nat.le_refl _) h1
theorem finW_sound {res:ResF} {K:Fr→Prop} : ∀ (l:List Oper) (i:Nat) (fr:Fr),finW res K l i fr →
  ∃ fr',K fr'∧fr'.defers=fr.defers∧∀ t v,fr'.get t=some v→(∃ j o,l[j]?=some o∧o.dst=some t∧res (i+j)=some v)∨((∀ o∈l,o.dst≠some t)∧fr.get t=some v)
 | [],i,fr,h=>⟨fr,h,rfl,fun t v hv=>.inr ⟨(fun _ h=>(by cases h)),hv⟩⟩
 | o :: l,i,fr,h=>by
  unfold finW at h
  split at h
  ·rename_i v hv
   obtain ⟨fr',h1,h2,h3⟩:=finW_sound l (i+1) _ h
   refine ⟨fr',h1,?_,?_⟩
   ·rw [h2]
    unfold Fr.put
    grind [Fr.defers_upd]
   ·intro t y hy
    rcases h3 t y hy with ⟨j,oj,hj,hd,hr⟩ | ⟨hd,hg⟩
    ·exact .inl ⟨j+1,oj,by grind,hd,by grind⟩
    ·cases hdo:o.dst with
     | none =>
      rw [hdo] at hg
      exact .inr ⟨fun o' ho'=>by grind,hg⟩
     | some d =>
      rw [hdo] at hg
      have hg' : (fr.upd d v).get t=some y:=hg
      rcases Fr.get_upd hg' with ⟨rfl,rfl⟩ | ⟨hne2,hg'⟩
      ·exact .inl ⟨0,o,rfl,hdo,hv⟩
      grind
  grind
theorem doneW_post (hfit:fit ops.toList ops.toList 0=true) (hr:Region.ready .any ops listed=[]) (g:GInvW B G n n0 P W ops fr0 ρ0 w0 Q listed a w)
  (hdst:∀ (j:Nat) (o:Oper),ops[j]?=some o→dstOk n o=true) : PostQ B G n n0 ρ0 w0 Q .normal a w:=by
 obtain ⟨dn,cs,res,H,held,als,ρ,d,hdl,hGn,hg⟩:=g.go
 have hall:=all_done hfit d.size hr
 obtain ⟨_,_,hn⟩:=hg
 cases cs with
 | cons c cs =>
  exfalso
  refine d.csN c (by simp) (hall c ?_)
  have hmem:c∈chainOf ops.toList 0:=by rw [d.chain]; simp
  grind [mem_chainOf]
 | nil =>
  have hn' : finW res (fun fr=>Q (.norm fr H)) ops.toList 0 fr0:=hn
  obtain ⟨fr',h1,h2,h3⟩:=finW_sound ops.toList 0 fr0 hn'
  have key:∀ t v,fr'.get t=some v→t < n∧VR ρ v (a.tmps.getD t undef):=by
   intro t v hv
   rcases h3 t v hv with ⟨j,o,hj,hd,hrs⟩ | ⟨hd,hg0⟩
   ·have hj' : ops[j]?=some o:=toList_at.1 hj
    rw [Nat.zero_add] at hrs
    obtain ⟨y,hy,hv'⟩:=d.new j o (hall j (lt_of_at hj')) hj'
    rw [hrs] at hy; cases hy
    exact ⟨dstOk_lt (hdst j o hj') t hd,hv' t hd⟩
   ·refine ⟨d.only t v hg0,d.old t (fun j hj=>?_) v hg0⟩
    obtain ⟨_,o,ho,hdo⟩:=writer_spec hj
    grind
  exact ⟨_,h1,ρ,d.ext,d.sim,⟨fun t v hv _=>(key t v hv).2,by rw [h2]; exact d.dfr,d.tsz,fun t v hv=>(key t v hv).1⟩,d.le⟩
theorem wpAnyW_go (hW:WOK G P W) (hG:G=P.globals.size) (hord:ordered (ancs [] ops.toList) (chainOf ops.toList 0)=true) (hfit:fit ops.toList ops.toList 0=true)
  (hdst:∀ (j:Nat) (o:Oper),ops[j]?=some o→dstOk n o=true) : ∀ (fuel:Nat) (listed:Array Bool) (a:Act) (w:World),
  (∃ l:List Nat,l.Nodup∧l.length=fuel∧∀ i,i < ops.size→Dn listed i∨i∈l)→GInvW B G n n0 P W ops fr0 ρ0 w0 Q listed a w →
  wpAny P .any ops (PostQ B G n n0 ρ0 w0 Q) fuel listed a w:=by
 intro fuel
 induction fuel with
 | zero =>
  rintro listed a w ⟨l,_,hl,hc⟩ g
  have hnil:l=[]:=List.length_eq_zero_iff.1 hl
  subst hnil
  have hr:Region.ready .any ops listed=[]:=by
   cases hx:Region.ready .any ops listed with
   | nil=>rfl
   | cons i is =>
    exfalso
    obtain ⟨o,ro⟩:=rd_of (ops:=ops) (listed:=listed) (i:=i) (by grind)
    rcases hc i (lt_of_at ro.at') with h | h
    ·exact ro.un h
    grind
  exact ⟨hr,doneW_post hfit hr g hdst⟩
 | succ fuel ih =>
  rintro listed a w ⟨l,hnd,hl,hc⟩ g
  refine ⟨fun hr=>doneW_post hfit hr g hdst,fun i hi=>?_⟩
  obtain ⟨o,ro⟩:=rd_of hi
  obtain ⟨dn,cs,res,H,held,als,ρ,d,hdl,hGn,hg⟩:=g.go
  have hil:i∈l:=(hc i (lt_of_at ro.at')).resolve_left ro.un
  have hsz:i < listed.size:=by rw [d.size]; exact lt_of_at ro.at'
  have hK:∀ a' w',GInvW B G n n0 P W ops fr0 ρ0 w0 Q (listed.setIfInBounds i true) a' w'→wpAny P .any ops (PostQ B G n n0 ρ0 w0 Q) fuel (listed.setIfInBounds i true) a' w':=by
   intro a' w' g'
   refine ih _ a' w' ⟨l.erase i,hnd.erase i,by grind,fun j hj=>?_⟩ g'
   grind [Dn.set]
  grind [actW_step,quietW_step,isChain]
theorem drawnW_ops (hW:WOK G P W) {id:Nat} (hG:G=P.globals.size) (s:St B G n n0 ρ0 w0 ρ fr0 H a w) (hd:dstsOk n (.region id ops true)=true)
  (h:drawnW P W ops fr0 H Q) (t:Nat) : wpOps P ops (PostQ B G n n0 ρ0 w0 Q) (Region.schedule (P.follows .mixedOrders) ops t) a { w with drawn:=w.drawn+1 }:=by
 obtain ⟨hplan,hmix,hout⟩:=h
 unfold planOk at hplan
 simp only [Bool.and_eq_true] at hplan
 obtain ⟨⟨_,hord⟩,hfit⟩:=hplan
 have hdst:∀ (j:Nat) (o:Oper),ops[j]?=some o→dstOk n o=true:=fun j o hj=>List.all_eq_true.1 hd o (List.mem_of_getElem? (toList_at.2 hj))
 simp only [Region.schedule,hmix,Bool.true_or,if_true]
 refine wpAny_sound ops.size t _ a _ ?_
 have un:∀ i,¬Dn (Array.replicate ops.size false) i:=by
  (simp_all [Dn]; grind)
 refine wpAnyW_go (fr0:=fr0) (ρ0:=ρ0) (w0:=w0) hW hG hord hfit hdst ops.size _ a _ ⟨List.range ops.size,List.nodup_range,by simp,fun i hi=>.inr (by grind)⟩ ?_
 rw [stagesW_eq] at hout
 obtain ⟨res2,H2,held2,als2,h1,f⟩:=stageW_sound (B:=B) (stageOf (ancs [] ops.toList) (chainOf ops.toList 0) 0 ops.toList 0) (fun _=>none) H [] [] (by
  grind [mem_stageOf,fit_no]) hout
 have hs:Sim B G ρ H { w with drawn:=w.drawn+1 }:=s.sim.heap rfl
 have hb:Below B w { w with drawn:=w.drawn+1 }:=⟨rfl,rfl,rfl,Nat.le_refl _,fun _ _=>rfl⟩
 refine ⟨[],chainOf ops.toList 0,res2,H2,held2,als2,ρ,?_,(fun _ h=>(by cases h)),?_,h1⟩
 ·refine ⟨s.ext.trans ⟨fun _ _=>rfl,KD.heap rfl,hb⟩ (Nat.le_refl _),f.ph.sim hs,Nat.le_trans s.le f.ph.le,by simp,s.frel.size,s.frel.dfr,s.frel.only,rfl,fun c _=>un c,fun i _ h=>absurd h (un i),
   fun t _ v hv=>s.frel.slot t v hv (s.frel.only t v hv),fun j _ h=>absurd h (un j),?_,f.ok n0 s.le (AlsOK.nil _ _),?_⟩
  ·intro i o _ ho hc hcnt
   exact f.known i (mem_stageOf.2 ⟨Nat.zero_le _,o,by grind,hc,by grind⟩) o ho
  ·intro x hx _
   rcases f.new x hx with h | h
   ·cases h
   ·exact hs.fresh _ h
 ·intro x hx
  rcases f.new x hx with h | h
  ·cases h
  ·exact Nat.le_trans hs.names h
theorem drawnW_sound (hW:WOK G P W) {id:Nat} (hG:G=P.globals.size) (s:St B G n n0 ρ0 w0 ρ fr0 H a w) (hd:dstsOk n (.region id ops true)=true)
  (h:drawnW P W ops fr0 H Q) : (Code.region id ops true).wp P (PostQ B G n n0 ρ0 w0 Q) a w:=by grind [id,drawnW_ops,wp_region_draw]
end Go.Ai
end
section
namespace Go.Ai
open Go.RowKit (Below)
variable {B G:Nat} {P:Program} {n n0:Nat} {ρ0 ρ:Rn} {w0 w:World} {fr:Fr} {H:Mem} {a:Act} {W:WF} {Q:Out→Prop}
theorem execW_sound (hW:WOK G P W) (hG:G=P.globals.size) : ∀ (c:Code) (fr:Fr) (H:Mem) (Q:Out→Prop),dstsOk n c=true→execW P W (LX G P n) c fr H Q→XW G P n c fr H Q:=by
 intro c
 induction c with
 | skip=>intro fr H Q _ h B n0 ρ0 w0 ρ a w s; exact wp_skip ⟨_,h,ρ,s⟩
 | region id ops draw =>
  intro fr H Q hd h B n0 ρ0 w0 ρ a w s
  cases draw with
  | false=>exact wp_region_list (seqW_sound hW hG ops.toList fr H ρ a w (fun o ho=>List.all_eq_true.1 hd o ho) s h)
  | true=>exact drawnW_sound hW hG s hd h
 | seq x y ihx ihy =>
  intro fr H Q hd h B n0 ρ0 w0 ρ a w s
  simp only [dstsOk,Bool.and_eq_true] at hd
  refine wp_seq (Code.wp_mono ?_ (ihx fr H _ hd.1 h B n0 ρ0 w0 ρ a w s))
  rintro e a' w' ⟨out,hq,ho⟩
  cases out with
  | norm fr' H' =>
   cases e with
   | normal=>obtain ⟨ρ',s'⟩:=ho; exact ihy fr' H' Q hd.2 hq B n0 ρ0 w0 ρ' a' w' s'
   | _=>exact ho.elim
  | exit id fr' H'=>cases e <;> first | exact ho.elim | exact ⟨_,hq,ho⟩
  | ret fr' H'=>cases e <;> first | exact ho.elim | exact ⟨_,hq,ho⟩
  | panic v fr' H'=>cases e <;> first | exact ho.elim | exact ⟨_,hq,ho⟩
  | bad=>exact hq.elim
 | cond cnd x y ihx ihy =>
  intro fr H Q hd h B n0 ρ0 w0 ρ a w s
  simp only [dstsOk,Bool.and_eq_true] at hd
  have h' : condW (fr.ev cnd) (execW P W (LX G P n) x fr H Q) (execW P W (LX G P n) y fr H Q):=h
  unfold condW at h'
  split at h'
  ·rename_i b hev
   have:=s.ev _ _ hev
   cases b with
   | true=>exact wp_cond_true this (ihx fr H Q hd.1 (h'.1 rfl) B n0 ρ0 w0 ρ a w s)
   | false=>exact wp_cond_false this (ihy fr H Q hd.2 (h'.2 rfl) B n0 ρ0 w0 ρ a w s)
  grind
 | block id b ih =>
  intro fr H Q hd h B n0 ρ0 w0 ρ a w s
  refine wp_block (Code.wp_mono ?_ (ih fr H _ hd h B n0 ρ0 w0 ρ a w s))
  rintro e a' w' ⟨out,hq,ho⟩
  cases out with
  | norm fr' H'=>cases e <;> first | exact ho.elim | exact ⟨_,hq,ho⟩
  | exit id' fr' H' =>
   cases e with
   | exit id2 =>
    obtain ⟨rfl,ρ',s'⟩:=ho
    have hq' : if id2=id then Q (.norm fr' H') else Q (.exit id2 fr' H'):=hq
    by_cases e:id2=id
    ·subst e
     rw [if_pos rfl] at hq'
     simp only [Exit.inBlock,if_true]
     exact ⟨_,hq',ρ',s'⟩
    ·rw [if_neg e] at hq'
     simp only [Exit.inBlock,e,if_false]
     exact ⟨_,hq',rfl,ρ',s'⟩
   | _=>exact ho.elim
  | ret fr' H'=>cases e <;> first | exact ho.elim | exact ⟨_,hq,ho⟩
  | panic v fr' H'=>cases e <;> first | exact ho.elim | exact ⟨_,hq,ho⟩
  | bad=>exact hq.elim
 | loop b ih =>
  intro fr H Q hd h B n0 ρ0 w0 ρ a w s
  exact (h B n0 ρ0 w0 ρ a w s).wp
 | rangeFunc f ps x y ihx ihy=>intro fr H Q hd h; exact h.elim
 | exit id=>intro fr H Q hd h B n0 ρ0 w0 ρ a w s; exact wp_exit ⟨_,h,rfl,ρ,s⟩
 | scope b ih=>intro fr H Q hd h; exact h.elim
 | label l=>intro fr H Q hd h B n0 ρ0 w0 ρ a w s; exact wp_label ⟨_,h,ρ,s⟩
 | goto l=>intro fr H Q hd h; exact h.elim
 | ret=>intro fr H Q hd h B n0 ρ0 w0 ρ a w s; exact wp_ret ⟨_,h,ρ,s⟩
 | refuse why=>intro fr H Q hd h; exact h.elim
theorem LX.round (hW:WOK G P W) (hG:G=P.globals.size) {b:Code} (hd:dstsOk n b=true) (h:execW P W (LX G P n) b fr H (thenW (fun fr H=>LX G P n b fr H Q) Q)) : LX G P n b fr H Q:=by
 intro B n0 ρ0 w0 ρ a w s
 refine LW.unroll (Code.wp_mono ?_ (execW_sound hW hG b fr H _ hd h B n0 ρ0 w0 ρ a w s))
 rintro e a' w' ⟨out,hq,ho⟩
 cases out with
 | norm fr' H' =>
  cases e with
  | normal=>obtain ⟨ρ',s'⟩:=ho; exact hq B n0 ρ0 w0 ρ' a' w' s'
  | _=>exact ho.elim
 | exit id fr' H'=>cases e <;> first | exact ho.elim | exact ⟨_,hq,ho⟩
 | ret fr' H'=>cases e <;> first | exact ho.elim | exact ⟨_,hq,ho⟩
 | panic v fr' H'=>cases e <;> first | exact ho.elim | exact ⟨_,hq,ho⟩
 | bad=>exact hq.elim
noncomputable def leaveW (P:Program) (O:CallF) (fn:Func) (K:COut→Prop) : Out→Prop
 | .norm fr H=>match leave P O (fun _ _ _=>.bad) fn fr fr.defers .returning H with | .bad=>False | r=>K r
 | .ret fr H=>match leave P O (fun _ _ _=>.bad) fn fr fr.defers .returning H with | .bad=>False | r=>K r
 | .panic v fr H=>match leave P O (fun _ _ _=>.bad) fn fr fr.defers (.panicking v) H with | .bad=>False | r=>K r
 | _=>False
noncomputable def argsF:List AV→Nat→(Nat→Option AV)→Nat→Option AV
 | [],_,g=>g
 | v :: l,i,g=>argsF l (i+1) (fput g i v)
noncomputable def frameW (args:List AV) : Fr:=.f (argsF args 0 (fun _=>none)) []
theorem argsF_get:∀ (l:List AV) (i:Nat) (g:Nat→Option AV) (t:Nat) (v:AV),argsF l i g t=some v→(i≤t∧l[t - i]?=some v)∨g t=some v
 | [],i,g,t,v,h=>.inr h
 | x :: l,i,g,t,v,h=>by
  rcases argsF_get l (i+1) (fput g i x) t v h with ⟨h1,h2⟩ | h1
  ·left
   refine ⟨by omega,?_⟩
   rw [show t - i=(t - (i+1))+1 by omega]; simpa using h2
  ·unfold fput at h1
   by_cases e:t=i
   ·rw [if_pos e] at h1; cases h1; left; subst e; simp
   ·rw [if_neg e] at h1; exact .inr h1
theorem frameW_entered {args:List AV} {us:Array Value} (hv:VRs ρ args us.toList) (hle:args.length≤n) :
  FRel n ρ (frameW args) { tmps:=us++Array.replicate (n - us.size) undef,defers:=[] }:=by
 have hsz:us.size=args.length:=by have:=hv.length; grind
 have hget:∀ t v,(frameW args).get t=some v→args[t]?=some v:=by
  intro t v h
  rcases argsF_get args 0 _ t v h with ⟨_,h1⟩ | h1
  all_goals grind
 refine ⟨?_,rfl,by grind,?_⟩
 ·intro t v h _
  obtain ⟨u,hu,hvu⟩:=hv.get t (hget t v h)
  (simp_all; grind)
 grind
theorem badLoop_ok (B G:Nat) (P:Program) : LoopOK B G P (fun _ _ _=>.bad):=fun _ _ _ _ _ _ _ _ _ _ _ _ hne=>absurd rfl hne
theorem Leaves_mono {fn:Func} {tmps:Array Value} {R R' : Ending→World→Prop} (h:∀ e w,R e w→R' e w) : ∀ {ds:List Deferred} {u:FrameMode} {w:World},Leaves P fn tmps R ds u w→Leaves P fn tmps R' ds u w
 | [],.returning,w,⟨v,h1,h2⟩=>⟨v,h1,h _ _ h2⟩
 | [],.panicking chain,w,h1=>h _ _ h1
 | [],.run,w,h1=>h1.elim
 | d :: ds,u,w,⟨h1,fv,cap,f,args,h2,h3,h4⟩=>⟨h1,fv,cap,f,args,h2,h3,h4.mono fun e u' w' hr=>by
   cases e with
   | returned v=>exact Leaves_mono h hr
   | panicked chain=>exact Leaves_mono h hr
   | outgrown=>exact h _ _ hr⟩
theorem WC.enter {f:FuncId} {fn:Func} {c:Code} {args:List AV} {K:COut→Prop} {O:CallF} (hG:G=P.globals.size) (hO:∀ B,CallOK B G P O) (hW:WOK G P W) (hf:P.funcs[f]?=some fn) (hb:fn.body=some c)
  (hd:dstsOk fn.ntmps c=true) (hl:args.length≤fn.ntmps) (h:execW P W (LX G P fn.ntmps) c (frameW args) H (leaveW P O fn K)) : WC G P f args H K:=by
 intro B ρ us w s hv
 have s1:St B G fn.ntmps H.next ρ w ρ (frameW args) H { tmps:=us++Array.replicate (fn.ntmps - us.size) undef,defers:=[] } w:=⟨Ext.refl _ _ _ _,s,frameW_entered hv hl,Nat.le_refl _⟩
 refine calls_of_wp_defers hf hb (Code.wp_mono ?_ (execW_sound hW hG c _ H _ hd h B H.next ρ w ρ _ w s1))
 rintro e a' w' ⟨out,hq,ho⟩
 have fin:∀ {fr' : Fr} {u:Mode} {H' : Mem} {ρ' : Rn} {m:FrameMode},(match leave P O (fun _ _ _=>.bad) fn fr' fr'.defers u H' with | .bad=>False | r=>K r)→St B G fn.ntmps H.next ρ w ρ' fr' H' a' w'→MR ρ' u m →
   Leaves P fn a'.tmps (fun e w'=>∃ r,K r∧CPost B G H.next ρ w r e w') a'.defers m w':=by
  intro fr' u H' ρ' m hm s' hmr
  have key:∀ r,leave P O (fun _ _ _=>.bad) fn fr' fr'.defers u H'=r→r≠.bad→K r→Leaves P fn a'.tmps (fun e w'=>∃ r,K r∧CPost B G H.next ρ w r e w') a'.defers m w':=by
   intro r hr hne hk
   refine Leaves_mono (fun e w' hc=>⟨r,hk,hc⟩) ?_
   exact leave_sound (hO B) (badLoop_ok B G P) hG hne _ _ u H' ρ' m w' s'.frel.dfr s' hmr hr
  grind
 cases out with
 | norm fr' H' =>
  cases e with
  | normal=>obtain ⟨ρ',s'⟩:=ho; exact fin (u:=.returning) (m:=.returning) hq s' rfl
  | _=>exact ho.elim
 | ret fr' H' =>
  cases e with
  | ret=>obtain ⟨ρ',s'⟩:=ho; exact fin (u:=.returning) (m:=.returning) hq s' rfl
  | _=>exact ho.elim
 | panic v fr' H' =>
  cases e with
  | panic chain=>obtain ⟨ρ',x,rfl,hx,s'⟩:=ho; exact fin (u:=.panicking v) hq s' ⟨x,rfl,hx⟩
  | _=>exact ho.elim
 | exit id fr' H'=>exact hq.elim
 | bad=>exact hq.elim
end Go.Ai
end
section
namespace Go.Ai
open Go.RowKit (Below)
variable {P:Program} {W:WF} {L:LF} {Q:Out→Prop} {fr:Fr} {H:Mem}
/- What simp looks into: the state,not the code. -/
def tick:Nat:=0
def tock:Nat:=0
theorem tick_tock:tick=tock:=by rfl
attribute [simp] tick_tock
theorem seqW_congr {tk:Nat} (_h0:tick=tk) {ops:Array Oper} {l:List Oper} {fr fr' : Fr} {H H' : Mem} (h1:fr=fr') (h2:H=H') : seqW P W ops Q l fr H=seqW P W ops Q l fr' H':=by grind
theorem oneW_congr {tk:Nat} (_h0:tick=tk) {ops:Array Oper} {o:Oper} {k:Fr→Mem→Prop} {fr fr' : Fr} {H H' : Mem} (h1:fr=fr') (h2:H=H') : oneW P W ops o fr H k Q=oneW P W ops o fr' H' k Q:=by grind
theorem afterW_congr {tk:Nat} (_h0:tick=tk) {o:Oper} {k:Fr→Mem→Prop} {fr fr' : Fr} {r r' : R} (h1:fr=fr') (h2:r=r') : afterW W o fr k Q r=afterW W o fr' k Q r':=by grind
theorem opV_congr {tk:Nat} (_h0:tick=tk) {ev:Ev} {o:Oper} {H H' : Mem} (h2:H=H') : opV P H ev o=opV P H' ev o:=by rw [h2]
theorem condW_congr {tk:Nat} (_h0:tick=tk) {x x' : Option AV} {a b:Prop} (h:x=x') : condW x a b=condW x' a b:=by rw [h]
theorem byGuard_congr {tk:Nat} (_h0:tick=tk) {x x' : Option AV} {g:Bool} {a b:Prop} (h:x=x') : byGuard x g a b=byGuard x' g a b:=by rw [h]
theorem thenW_congr {tk:Nat} (_h0:tick=tk) {k:Fr→Mem→Prop} {o o' : Out} (h:o=o') : thenW k Q o=thenW k Q o':=by rw [h]
theorem inBlockW_congr {tk:Nat} (_h0:tick=tk) {id:Nat} {o o' : Out} (h:o=o') : inBlockW id Q o=inBlockW id Q o':=by rw [h]
theorem guardSlot_congr {tk:Nat} (_h0:tick=tk) {ops:Array Oper} {j:Nat} {fr fr' : Fr} (h:fr=fr') : guardSlot ops fr j=guardSlot ops fr' j:=by rw [h]
theorem Fr_ev_congr {tk:Nat} (_h0:tick=tk) {fr fr' : Fr} {x:Operand} (h:fr=fr') : fr.ev x=fr'.ev x:=by rw [h]
attribute [congr] seqW_congr oneW_congr afterW_congr opV_congr condW_congr byGuard_congr thenW_congr inBlockW_congr guardSlot_congr Fr_ev_congr
theorem thenW_norm {k:Fr→Mem→Prop} : thenW k Q (.norm fr H)=k fr H:=(rfl)
theorem thenW_exit {k:Fr→Mem→Prop} {id:Nat} : thenW k Q (.exit id fr H)=Q (.exit id fr H):=(rfl)
theorem thenW_ret {k:Fr→Mem→Prop} : thenW k Q (.ret fr H)=Q (.ret fr H):=(rfl)
theorem inBlockW_norm {id:Nat} : inBlockW id Q (.norm fr H)=Q (.norm fr H):=(rfl)
theorem inBlockW_ret {id:Nat} : inBlockW id Q (.ret fr H)=Q (.ret fr H):=(rfl)
theorem inBlockW_exit {id id' : Nat} : inBlockW id Q (.exit id' fr H)=if id'=id then Q (.norm fr H) else Q (.exit id' fr H):=(rfl)
def splitP (p:Prop) (x y:Prop) : Prop:=(p→x)∧(¬p→y)
theorem splitP_congr {tk:Nat} (_h0:tick=tk) {p p' x y:Prop} (h:p=p') : splitP p x y=splitP p' x y:=by rw [h]
attribute [congr] splitP_congr
theorem splitI {p x y:Prop} (h1:p→x) (h2:¬p→y) : splitP p x y:=⟨h1,h2⟩
def splitB (b:Bool) (x y:Prop) : Prop:=(b=true→x)∧(b=false→y)
theorem splitB_congr {tk:Nat} (_h0:tick=tk) {b b' : Bool} {x y:Prop} (h:b=b') : splitB b x y=splitB b' x y:=by rw [h]
attribute [congr] splitB_congr
theorem splitB_true {x y:Prop} : splitB true x y=x:=by simp [splitB]
theorem splitB_false {x y:Prop} : splitB false x y=y:=by simp [splitB]
theorem splitB_not {b:Bool} {x y:Prop} : splitB (!b) x y=splitB b y x:=by grind [splitB]
theorem splitB_dec {p:Prop} [Decidable p] {x y:Prop} : splitB (decide p) x y=splitP p x y:=by grind [splitP,splitB]
theorem splitBI {b:Bool} {x y:Prop} (h1:b=true→x) (h2:b=false→y) : splitB b x y:=⟨h1,h2⟩
attribute [simp] splitB_true splitB_false splitB_not splitB_dec
inductive Tg where
 | b
 | o
def tagOf (v:AV) : Tg:=match v with | .lit (.bool _)=>.b | _=>.o
theorem tagOf_bool {b:Bool} : tagOf (.lit (.bool b))=.b:=(rfl)
noncomputable def retW (d:Option Tmp) (k:Fr→Mem→Prop) (fr:Fr) (v:AV) (_:Tg) (H:Mem) : Prop:=k (fr.put d v) H
theorem retW_congr {tk:Nat} (_h0:tick=tk) {d:Option Tmp} {k:Fr→Mem→Prop} {fr fr' : Fr} {v v' : AV} {t t' : Tg} {H H' : Mem} (h1:fr=fr') (h2:v=v') (h3:t=t') (h4:H=H') : retW d k fr v t H=retW d k fr' v' t' H':=by grind
attribute [congr] retW_congr
theorem retW_bool {d:Option Tmp} {k:Fr→Mem→Prop} {b:Bool} : retW d k fr (.lit (.bool b)) .b H=splitB b (k (fr.put d (.lit (.bool true))) H) (k (fr.put d (.lit (.bool false))) H):=by
 cases b <;> simp [splitB,retW]
theorem retW_any {d:Option Tmp} {k:Fr→Mem→Prop} {v:AV} : retW d k fr v (tagOf v) H=k (fr.put d v) H:=by rfl
attribute [simp] tagOf_bool retW_bool retW_any
theorem condW_bool {b:Bool} {x y:Prop} : condW (some (.lit (.bool b))) x y=splitB b x y:=by rfl
theorem byGuard_bool {b g:Bool} {x y:Prop} : byGuard (some (.lit (.bool b))) g x y=splitB b (if g then x else y) (if g then y else x):=by grind [splitB,byGuard]
theorem byGuard_undef {g:Bool} {x y:Prop} : byGuard (some (.lit undef)) g x y=y:=(rfl)
theorem afterW_val {o:Oper} {k:Fr→Mem→Prop} {v:AV} : afterW W o fr k Q (.val v H)=retW o.dst k fr v (tagOf v) H:=(rfl)
theorem afterW_enter {o:Oper} {k:Fr→Mem→Prop} {f:FuncId} {args:List AV} : afterW W o fr k Q (.enter f args H)=W f args H (fun r=>match r with
  | .ret v H=>retW o.dst k fr v (tagOf v) H
  | .panic v H=>Q (.panic v fr H)
  | .bad=>False):=(rfl)
theorem afterW_skip {o:Oper} {k:Fr→Mem→Prop} : afterW W o fr k Q (.skip H)=k (fr.put o.dst (.lit undef)) H:=(rfl)
attribute [simp] afterW_val
attribute [simp] thenW_norm thenW_exit thenW_ret inBlockW_norm inBlockW_ret inBlockW_exit condW_bool byGuard_bool byGuard_undef afterW_enter afterW_skip
theorem seqW_nil {ops:Array Oper} : seqW P W ops Q [] fr H=Q (.norm fr H):=(rfl)
theorem seqW_cons {ops:Array Oper} {d:Option Tmp} {op:Op} {t:TypeId} {p:String} {af:Array Edge} {g:Option (Nat×Bool)} {l:List Oper} :
  seqW P W ops Q (⟨d,op,t,p,af,g⟩ :: l) fr H=oneW P W ops ⟨d,op,t,p,af,g⟩ fr H (seqW P W ops Q l) Q:=(rfl)
theorem oneW_none {ops:Array Oper} {d:Option Tmp} {op:Op} {t:TypeId} {p:String} {af:Array Edge} {k:Fr→Mem→Prop} :
  oneW P W ops ⟨d,op,t,p,af,none⟩ fr H k Q=afterW W ⟨d,op,t,p,af,none⟩ fr k Q (opV P H fr.ev ⟨d,op,t,p,af,none⟩):=(rfl)
theorem oneW_some {ops:Array Oper} {d:Option Tmp} {op:Op} {t:TypeId} {p:String} {af:Array Edge} {g:Nat×Bool} {k:Fr→Mem→Prop} :
  oneW P W ops ⟨d,op,t,p,af,some g⟩ fr H k Q=byGuard (guardSlot ops fr g.1) g.2 (afterW W ⟨d,op,t,p,af,some g⟩ fr k Q (opV P H fr.ev ⟨d,op,t,p,af,some g⟩)) (k (fr.put d (.lit undef)) H):=(rfl)
noncomputable def getSlot (fr:Fr) (x:Option Nat) : Option AV:=match x with | some d=>fr.get d | none=>none
theorem fr_put {g:Nat→Option AV} {ds:List Dfr} {d:Tmp} {v:AV} : (Fr.f g ds).put (some d) v=.f (fput g d v) ds:=(rfl)
theorem fr_put_none {v:AV} : fr.put none v=fr:=(rfl)
theorem fr_get {g:Nat→Option AV} {ds:List Dfr} {t:Nat} : (Fr.f g ds).get t=g t:=(rfl)
theorem fr_ev_tmp {g:Nat→Option AV} {ds:List Dfr} {t:Nat} : (Fr.f g ds).ev (.tmp t)=g t:=(rfl)
theorem fr_ev_const {v:Value} : fr.ev (.const v)=some (.lit v):=by cases fr <;> rfl
theorem fr_ev_global {g:Nat} : fr.ev (.global g)=some (.lit (.pointer (some ⟨g,0,none⟩))):=by rfl
theorem fr_ev_func {f:Nat} : fr.ev (.func f)=some (.lit (.func (.func f) #[] #[])):=by rfl
theorem fr_defers {g:Nat→Option AV} {ds:List Dfr} : (Fr.f g ds).defers=ds:=(rfl)
theorem fput_at {g:Nat→Option AV} {d t:Nat} {v:AV} : fput g d v t=if t=d then some v else g t:=(rfl)
section
variable {ev:Ev} {d:Option Tmp} {ty:TypeId} {p:String} {af:Array Edge} {g:Option (Nat×Bool)}
theorem op_move {x:Operand} : opV P H ev ⟨d,.move x,ty,p,af,g⟩=oMove H (ev x):=(rfl)
theorem op_assign {x:Operand} : opV P H ev ⟨d,.assign x,ty,p,af,g⟩=oMove H (ev x):=(rfl)
theorem op_pick {c a b:Operand} : opV P H ev ⟨d,.pick c a b,ty,p,af,g⟩=oPick H (ev c) (ev a) (ev b):=(rfl)
theorem op_bin {o:BinOp} {t rt:TypeId} {x y:Operand} : opV P H ev ⟨d,.binOp o t x y rt,ty,p,af,g⟩=oBin P H ev ⟨d,.binOp o t x y rt,ty,p,af,g⟩ o t (ev x) (ev y):=(rfl)
end
def slotAt:List Oper→Nat→Option Nat
 | [],_=>none
 | o :: _,0=>o.dst
 | _ :: l,j+1=>slotAt l j
theorem slotAt_zero {d:Option Tmp} {op:Op} {t:TypeId} {p:String} {af:Array Edge} {g:Option (Nat×Bool)} {l:List Oper} : slotAt (⟨d,op,t,p,af,g⟩ :: l) 0=d:=(rfl)
theorem slotAt_succ {o:Oper} {l:List Oper} {j:Nat} : slotAt (o :: l) (j+1)=slotAt l j:=(rfl)
attribute [simp] slotAt_zero slotAt_succ
theorem slotAt_eq:∀ (l:List Oper) (j:Nat),slotAt l j=(l[j]?).bind (·.dst)
 | [],j=>by rfl
 | o :: _,0=>rfl
 | _ :: l,j+1=>by simpa [slotAt] using slotAt_eq l j
theorem guardSlot_eq {l:List Oper} {j:Nat} : guardSlot l.toArray fr j=getSlot fr (slotAt l j):=by
 grind [getSlot,guardSlot,slotAt_eq]
theorem getSlot_some {d:Nat} : getSlot fr (some d)=fr.get d:=(rfl)
theorem getSlot_congr {tk:Nat} (_h0:tick=tk) {fr fr' : Fr} {x x' : Option Nat} (h1:fr=fr') (h2:x=x') : getSlot fr x=getSlot fr' x':=by grind
attribute [congr] getSlot_congr
attribute [simp] guardSlot_eq getSlot_some
theorem oMove_some {v:AV} : oMove H (some v)=.val v H:=(rfl)
theorem oPick_bool {a b c:Bool} : oPick H (some (.lit (.bool c))) (some (.lit (.bool a))) (some (.lit (.bool b)))=.val (.lit (.bool (if c then a else b))) H:=by cases c <;> rfl
theorem oPick_true {a b:Option AV} : oPick H (some (.lit (.bool true))) a b=ofOpt H a:=(rfl)
theorem oPick_false {a b:Option AV} : oPick H (some (.lit (.bool false))) a b=ofOpt H b:=(rfl)
theorem ofOpt_some {v:AV} : ofOpt H (some v)=.val v H:=(rfl)
section
variable {ev:Ev} {o:Oper} {t:TypeId} {a b:Int} {k:IntKind}
theorem oBin_of {op:BinOp} {x y:AV} {v:AV} (h:fastBin op x y=some v) : oBin P H ev o op t (some x) (some y)=.val v H:=by
 grind [fast2,oBin]
theorem iEq_d (a b:Int) : iEq a b=decide (a=b):=by grind [iEq_eq]
theorem iLt_d (a b:Int) : iLt a b=decide (a < b):=iLt_eq a b
theorem not_lt_d (a b:Int) : (!decide (b < a))=decide (a≤b):=by grind
theorem f_eql (hk:kEq k k=true) : fastBin .eql (.lit (.int k a)) (.lit (.int k b))=some (.lit (.bool (decide (a=b)))):=by grind [bv_eq,iEq_d,fastBin]
theorem f_neq (hk:kEq k k=true) : fastBin .neq (.lit (.int k a)) (.lit (.int k b))=some (.lit (.bool (!decide (a=b)))):=by grind [bv_eq,iEq_d,fastBin]
theorem f_lss (hk:kEq k k=true) : fastBin .lss (.lit (.int k a)) (.lit (.int k b))=some (.lit (.bool (decide (a < b)))):=by grind [bv_eq,iLt_d,fastBin]
theorem f_leq (hk:kEq k k=true) : fastBin .leq (.lit (.int k a)) (.lit (.int k b))=some (.lit (.bool (decide (a≤b)))):=by grind [bv_eq,iLt_d,fastBin]
theorem f_gtr (hk:kEq k k=true) : fastBin .gtr (.lit (.int k a)) (.lit (.int k b))=some (.lit (.bool (decide (b < a)))):=by grind [bv_eq,iLt_d,fastBin]
theorem f_geq (hk:kEq k k=true) : fastBin .geq (.lit (.int k a)) (.lit (.int k b))=some (.lit (.bool (decide (b≤a)))):=by grind [bv_eq,iLt_d,fastBin]
end
section
variable {ev:Ev} {o:Oper} {t:TypeId} {a b:Int}
theorem oBin_eql8:oBin P H ev o .eql t (some (.lit (.int .u8 a))) (some (.lit (.int .u8 b)))=.val (.lit (.bool (decide (a=b)))) H:=oBin_of (f_eql rfl)
theorem oBin_neq8:oBin P H ev o .neq t (some (.lit (.int .u8 a))) (some (.lit (.int .u8 b)))=.val (.lit (.bool (!decide (a=b)))) H:=oBin_of (f_neq rfl)
theorem oBin_lss8:oBin P H ev o .lss t (some (.lit (.int .u8 a))) (some (.lit (.int .u8 b)))=.val (.lit (.bool (decide (a < b)))) H:=oBin_of (f_lss rfl)
theorem oBin_leq8:oBin P H ev o .leq t (some (.lit (.int .u8 a))) (some (.lit (.int .u8 b)))=.val (.lit (.bool (decide (a≤b)))) H:=oBin_of (f_leq rfl)
theorem oBin_gtr8:oBin P H ev o .gtr t (some (.lit (.int .u8 a))) (some (.lit (.int .u8 b)))=.val (.lit (.bool (decide (b < a)))) H:=oBin_of (f_gtr rfl)
theorem oBin_geq8:oBin P H ev o .geq t (some (.lit (.int .u8 a))) (some (.lit (.int .u8 b)))=.val (.lit (.bool (decide (b≤a)))) H:=oBin_of (f_geq rfl)
theorem oBin_eql64:oBin P H ev o .eql t (some (.lit (.int .i64 a))) (some (.lit (.int .i64 b)))=.val (.lit (.bool (decide (a=b)))) H:=oBin_of (f_eql rfl)
theorem oBin_neq64:oBin P H ev o .neq t (some (.lit (.int .i64 a))) (some (.lit (.int .i64 b)))=.val (.lit (.bool (!decide (a=b)))) H:=oBin_of (f_neq rfl)
theorem oBin_lss64:oBin P H ev o .lss t (some (.lit (.int .i64 a))) (some (.lit (.int .i64 b)))=.val (.lit (.bool (decide (a < b)))) H:=oBin_of (f_lss rfl)
theorem oBin_leq64:oBin P H ev o .leq t (some (.lit (.int .i64 a))) (some (.lit (.int .i64 b)))=.val (.lit (.bool (decide (a≤b)))) H:=oBin_of (f_leq rfl)
theorem oBin_gtr64:oBin P H ev o .gtr t (some (.lit (.int .i64 a))) (some (.lit (.int .i64 b)))=.val (.lit (.bool (decide (b < a)))) H:=oBin_of (f_gtr rfl)
theorem oBin_geq64:oBin P H ev o .geq t (some (.lit (.int .i64 a))) (some (.lit (.int .i64 b)))=.val (.lit (.bool (decide (b≤a)))) H:=oBin_of (f_geq rfl)
end
attribute [simp] seqW_nil seqW_cons oneW_none oneW_some
 fr_put fr_put_none fr_get fr_ev_tmp fr_ev_const fr_ev_global fr_ev_func fr_defers fput_at op_move op_assign op_pick oMove_some oPick_bool oPick_true oPick_false ofOpt_some
 oBin_eql8 oBin_neq8 oBin_lss8 oBin_leq8 oBin_gtr8 oBin_geq8 oBin_eql64 oBin_neq64 oBin_lss64 oBin_leq64 oBin_gtr64 oBin_geq64
def oneK (x:Option AV) (K:AV→Prop) : Prop:=match x with | some v=>K v | none=>False
noncomputable def endW (P:Program) (rs:List ResultVar) (K:COut→Prop) (fr:Fr) (H:Mem) : Prop:=match resVars P fr H rs with
 | some [v]=>K (.ret v H)
 | some vs=>K (.ret (.tup vs) H)
 | none=>False
theorem endW_congr {tk:Nat} (_h0:tick=tk) {rs rs' : List ResultVar} {K:COut→Prop} {fr fr' : Fr} {H H' : Mem} (h0:rs=rs') (h1:fr=fr') (h2:H=H') : endW P rs K fr H=endW P rs' K fr' H':=by grind
attribute [congr] endW_congr
theorem leaveW_congr {tk:Nat} (_h0:tick=tk) {O:CallF} {fn:Func} {K:COut→Prop} {o o' : Out} (h:o=o') : leaveW P O fn K o=leaveW P O fn K o':=by rw [h]
attribute [congr] leaveW_congr
theorem leave_nil {O:CallF} {L:LoopF} {fn:Func} : leave P O L fn fr [] .returning H=(match resultsA P fn fr H with | some v=>.ret v H | none=>.bad):=by rfl
theorem leaveW_ret {O:CallF} {fn:Func} {K:COut→Prop} {g:Nat→Option AV} : leaveW P O fn K (.ret (.f g []) H)=endW P fn.results.toList K (.f g []) H:=by
 show (match leave P O (fun _ _ _=>.bad) fn (.f g []) [] .returning H with | .bad=>False | r=>K r)=_
 grind [leave_nil,endW,resultsA]
theorem leaveW_norm {O:CallF} {fn:Func} {K:COut→Prop} {g:Nat→Option AV} : leaveW P O fn K (.norm (.f g []) H)=endW P fn.results.toList K (.f g []) H:=leaveW_ret
theorem resVar_tmp {t:Tmp} : resVar P fr H (.tmp t)=fr.get t:=(rfl)
theorem endW_eq1 {r:ResultVar} {K:COut→Prop} : endW P [r] K fr H=oneK (resVar P fr H r) (fun v=>K (.ret v H)):=by
 grind [oneK,endW,resVars]
theorem endW_eq0 {K:COut→Prop} : endW P [] K fr H=K (.ret (.tup []) H):=(rfl)
theorem endW_eq2 {r1 r2:ResultVar} {K:COut→Prop} : endW P [r1,r2] K fr H=oneK (resVar P fr H r1) (fun v1=>oneK (resVar P fr H r2) fun v2=>K (.ret (.tup [v1,v2]) H)):=by
 (simp_all [oneK,endW,resVars]; grind)
theorem endW_eq3 {r1 r2 r3:ResultVar} {K:COut→Prop} : endW P [r1,r2,r3] K fr H=oneK (resVar P fr H r1) (fun v1=>oneK (resVar P fr H r2) fun v2=>oneK (resVar P fr H r3) fun v3=>K (.ret (.tup [v1,v2,v3]) H)):=by
 unfold endW oneK; grind [resVars]
theorem oneK_some {v:AV} {K:AV→Prop} : oneK (some v) K=K v:=(rfl)
theorem oneK_congr {tk:Nat} (_h0:tick=tk) {x x' : Option AV} {K:AV→Prop} (h:x=x') : oneK x K=oneK x' K:=by rw [h]
attribute [congr] oneK_congr
theorem frameW_eq {args:List AV} : frameW args=.f (argsF args 0 (fun _=>none)) []:=(rfl)
theorem argsF_nil {i:Nat} {g:Nat→Option AV} : argsF [] i g=g:=(rfl)
theorem argsF_cons {i:Nat} {g:Nat→Option AV} {v:AV} {l:List AV} : argsF (v :: l) i g=argsF l (i+1) (fput g i v):=(rfl)
attribute [simp] leaveW_ret leaveW_norm endW_eq0 endW_eq1 endW_eq2 endW_eq3 oneK_some resVar_tmp frameW_eq argsF_nil argsF_cons
def orK (r:COut) (K:COut→Prop) (x:Prop) : Prop:=match r with | .bad=>x | r=>K r
theorem orW_eq {O:CallF} {f:FuncId} {args:List AV} {K:COut→Prop} : orW O W f args H K=orK (O f args H) K (W f args H K):=by
 rfl
theorem orW_congr {tk:Nat} (_h0:tick=tk) {O:CallF} {f:FuncId} {args args' : List AV} {H H' : Mem} {K:COut→Prop} (h1:args=args') (h2:H=H') : orW O W f args H K=orW O W f args' H' K:=by grind
attribute [congr] orW_congr
theorem orK_congr {tk:Nat} (_h0:tick=tk) {r r' : COut} {K:COut→Prop} {x:Prop} (h:r=r') : orK r K x=orK r' K x:=by rw [h]
theorem orK_bad {K:COut→Prop} {x:Prop} : orK .bad K x=x:=(rfl)
attribute [congr] orK_congr
attribute [simp] orW_eq orK_bad
section
variable {ev:Ev} {d:Option Tmp} {ty:TypeId} {p:String} {af:Array Edge} {g:Option (Nat×Bool)}
noncomputable def callS (P:Program) (H:Mem) (ev:Ev) (args:Option (List AV)) (f:Operand) : R:=match args with
 | some args=>oValue P H args (ev f)
 | none=>.bad
theorem op_call {f:Operand} {args:Array Operand} {at_:Array TypeId} : opV P H ev ⟨d,.call ⟨.value f,args,at_⟩,ty,p,af,g⟩=callS P H ev (evals ev args.toList) f:=by
 show callOp P H ev ⟨d,.call ⟨.value f,args,at_⟩,ty,p,af,g⟩ ⟨.value f,args,at_⟩=_
 grind [callS,callOp]
theorem evals_nil:evals ev []=some []:=(rfl)
noncomputable def consO (a:Option AV) (l:Option (List AV)) : Option (List AV):=match a,l with | some v,some vs=>some (v :: vs) | _,_=>none
theorem evals_cons {x:Operand} {l:List Operand} : evals ev (x :: l)=consO (ev x) (evals ev l):=by
 grind [evals,consO]
theorem consO_some {v:AV} {vs:List AV} : consO (some v) (some vs)=some (v :: vs):=(rfl)
theorem callS_some {args:List AV} {f:Operand} : callS P H ev (some args) f=oValue P H args (ev f):=(rfl)
theorem oValue_lit {args:List AV} {f:FuncId} : oValue P H args (some (.lit (.func (.func f) #[] #[])))=enterF P H f args:=by simp [oValue]
theorem oValue_fn {args a c:List AV} {f:FuncId} : oValue P H args (some (.func (.func f) a c))=enterF P H f (a++args++c):=(rfl)
theorem enterF_eq {args:List AV} {f:FuncId} : enterF P H f args=if hasBody P f=true then .enter f args H else .bad:=(rfl)
attribute [simp] op_call evals_nil evals_cons consO_some callS_some oValue_lit oValue_fn enterF_eq
noncomputable def unS (P:Program) (H:Mem) (ev:Ev) (o:Oper) (op:UnOp) (x:Option AV) : R:=match op,x with
 | .not,some (.lit (.bool b))=>.val (.lit (.bool (!b))) H
 | _,_=>ofOpt H (generic P ev o)
theorem generic1 {o:Oper} {x:Operand} {u r:Value} (ho:o.op.operands=#[x]) (hx:ev x=some (.lit u))
  (hr:∀ ρ:Operand→Value,ρ x=u→pureV P (execOp ρ o)=some (.value r)) : generic P ev o=some (.lit r):=by
 simp_all [generic,toLit]
theorem generic2 {o:Oper} {x y:Operand} {u u' r:Value} (ho:o.op.operands=#[x,y]) (hx:ev x=some (.lit u)) (hy:ev y=some (.lit u'))
  (hr:∀ ρ:Operand→Value,ρ x=u→ρ y=u'→pureV P (execOp ρ o)=some (.value r)) : generic P ev o=some (.lit r):=by
 simp_all [generic,toLit]
theorem op_un {op:UnOp} {t:TypeId} {x:Operand} : opV P H ev ⟨d,.unOp op t x,ty,p,af,g⟩=unS P H ev ⟨d,.unOp op t x,ty,p,af,g⟩ op (ev x):=by
 show ofOpt H (generic P ev _)=_
 unfold unS
 split
 ·rename_i b hx
  rw [generic1 (r:=.bool (!b)) rfl (by omega) fun ρ h=>by simp [execOp,h,Op.unary]; rfl]; rfl
 ·rfl
theorem unS_not {o:Oper} {b:Bool} : unS P H ev o .not (some (.lit (.bool b)))=.val (.lit (.bool (!b))) H:=(rfl)
attribute [simp] op_un unS_not
end
theorem LX_congr {tk:Nat} (_h0:tick=tk) {G n:Nat} {b:Code} {fr fr' : Fr} {H H' : Mem} (h1:fr=fr') (h2:H=H') : LX G P n b fr H Q=LX G P n b fr' H' Q:=by grind
theorem WC_congr {tk:Nat} (_h0:tick=tk) {G:Nat} {f:FuncId} {args args' : List AV} {H H' : Mem} {K:COut→Prop} (h1:args=args') (h2:H=H') : WC G P f args H K=WC G P f args' H' K:=by grind
attribute [congr] LX_congr WC_congr
structure Hide (p:Prop) : Prop where
 out:p
theorem LX.ind {G n:Nat} {b:Code} {ds:List Dfr} (I:Nat→(Nat→Option AV)→Mem→Prop) {m0:Nat} {g0:Nat→Option AV} {H0:Mem} (h0:I m0 g0 H0)
  (hs:∀ m g H,I m g H→Hide (∀ m' g' H',m' < m→I m' g' H'→LX G P n b (.f g' ds) H' Q)→LX G P n b (.f g ds) H Q) : LX G P n b (.f g0 ds) H0 Q:=by
 have:∀ m g H,I m g H→LX G P n b (.f g ds) H Q:=by
  intro m
  induction m using Nat.strongRecOn with
  | _ m ih=>exact fun g H hi=>hs m g H hi ⟨fun m' g' H' hlt hi'=>ih m' hlt g' H' hi'⟩
 grind
/-! ### Oracles -/
def noO:CallF:=fun _ _ _=>.bad
theorem noO_at {f:FuncId} {a:List AV} : noO f a H=.bad:=(rfl)
attribute [simp] noO_at
theorem noO_ok (G:Nat) (P:Program) : ∀ B,CallOK B G P noO:=fun _ _ _ _ h=>absurd rfl h
end Go.Ai
end
section
namespace Go.Ai
open Go.RowKit (Below)
variable {P:Program} {W:WF} {L:LF} {Q:Out→Prop} {fr:Fr} {H:Mem}
/-! ### Memory as a function -/
theorem mem_get {g:Nat→Option Blk} {n a:Nat} : (Mem.mk (.fn g) n).get a=g a:=(rfl)
theorem mem_add {g:Nat→Option Blk} {n:Nat} {b:Blk} : (Mem.mk (.fn g) n).add b=⟨.fn (gput g n (some b)),n+1⟩:=(rfl)
theorem mem_upd {g:Nat→Option Blk} {n a:Nat} {b:Blk} : (Mem.mk (.fn g) n).upd a b=⟨.fn (gput g a (some b)),n⟩:=(rfl)
theorem gput_same {g:Nat→Option Blk} {a:Nat} {x:Option Blk} : gput g a x a=x:=(if_pos rfl)
theorem gput_lt {g:Nat→Option Blk} {a j:Nat} {x:Option Blk} (h:j < a) : gput g a x j=g j:=if_neg (by omega)
theorem gput_gt {g:Nat→Option Blk} {a j:Nat} {x:Option Blk} (h:a < j) : gput g a x j=g j:=if_neg (by omega)
theorem gput_twice {g:Nat→Option Blk} {a:Nat} {x y:Option Blk} : gput (gput g a x) a y=gput g a y:=by
 grind [gput]
attribute [simp] mem_get mem_add mem_upd gput_same gput_lt gput_gt gput_twice
section
variable {ev:Ev} {d:Option Tmp} {ty:TypeId} {p:String} {af:Array Edge} {g:Option (Nat×Bool)}
/-! ### Operations on two values -/
theorem ba_eq (a b:ByteArray) : (a.toList == b.toList)=decide (a=b):=by
 by_cases h:a=b
 ·grind
 ·have:a.toList≠b.toList:=fun e=>h (by
   cases a; simp_all [ByteArray.toList_eq])
  grind
def intR (op:BinOp) (k:IntKind) (a b:Int) : Option AV:=match op with
 | .add=>some (.lit (.int k (k.wrap (a+b))))
 | .sub=>some (.lit (.int k (k.wrap (a - b))))
 | .mul=>some (.lit (.int k (k.wrap (a * b))))
 | .quo=>if b=0 then none else some (.lit (.int k (k.wrap (a.tdiv b))))
 | .rem=>if b=0 then none else some (.lit (.int k (a.tmod b)))
 | .eql=>some (.lit (.bool (decide (a=b))))
 | .neq=>some (.lit (.bool (!decide (a=b))))
 | .lss=>some (.lit (.bool (decide (a < b))))
 | .leq=>some (.lit (.bool (decide (a≤b))))
 | .gtr=>some (.lit (.bool (decide (b < a))))
 | .geq=>some (.lit (.bool (decide (b≤a))))
 | _=>none
noncomputable def binS (P:Program) (H:Mem) (ev:Ev) (o:Oper) (op:BinOp) (t:TypeId) (x y:Option AV) : R:=match op,x,y with
 | .eql,some (.lit (.string a)),some (.lit (.string b))=>.val (.lit (.bool (decide (a=b)))) H
 | .neq,some (.lit (.string a)),some (.lit (.string b))=>.val (.lit (.bool (!decide (a=b)))) H
 | .add,some (.lit (.string a)),some (.lit (.string b))=>if a.size+b.size≤9223372036854775807 then .val (.lit (.string (a++b))) H else oBin P H ev o op t x y
 | op,some (.lit (.int k a)),some (.lit (.int k' b))=>if k=k' then (match intR op k a b with | some v=>.val v H | none=>oBin P H ev o op t (some (.lit (.int k a))) (some (.lit (.int k' b)))) else oBin P H ev o op t (some (.lit (.int k a))) (some (.lit (.int k' b)))
 | op,x,y=>oBin P H ev o op t x y
theorem oBin_generic {o:Oper} {op:BinOp} {t:TypeId} {x y:AV} {v:AV} (hf:fastBin op x y=none) (hg:generic P ev o=some v) : oBin P H ev o op t (some x) (some y)=.val v H:=by
 grind [fast2,oBin]
theorem pureV_then {α β:Type} {m:Sem α} {k:α→Sem β} {a:α} : pureV P m=some a→pureV P (m >>= k)=pureV P (k a):=by
 induction m with
 | pure b=>intro h; cases h; rfl
 | program k' ih=>intro h; exact ih _ h
 | mark m k' ih=>assumption
 | choose q k' ih =>
  intro h
  simp only [pureV] at h
  split at h
  ·rename_i hq
   show pureV P (Sem.choose q fun n=>k' n >>= k)=_
   simp_all [pureV]
  grind
 | _=>intro h; grind [pureV]
theorem execOp_bin {ρ:Operand→Value} {op:BinOp} {t rt:TypeId} {x y:Operand} {u u' r:Value} (hx:ρ x=u) (hy:ρ y=u') (hg:pureV P (eqGuard op t x y u u')=some ()) (hr:pureV P (binOp op t u u')=some r) :
  pureV P (execOp ρ ⟨d,.binOp op t x y rt,ty,p,af,g⟩)=some (.value r):=by
 simp only [execOp,hx,hy]
 rw [pureV_then (a:=r)]
 ·rfl
 grind [pureV_then]
theorem oBin_val {o:Oper} {op:BinOp} {t:TypeId} {x y:AV} {v:AV} (hf:∀ u,fastBin op x y=some u→u=v) (hg:fastBin op x y=none→generic P ev o=some v) : oBin P H ev o op t (some x) (some y)=.val v H:=by
 cases hfb:fastBin op x y with
 | none=>grind [oBin_generic]
 | some u=>grind [oBin_of]
theorem int_bin {op:BinOp} {t rt:TypeId} {x y:Operand} {k:IntKind} {a b:Int} {v:AV} (hx:ev x=some (.lit (.int k a))) (hy:ev y=some (.lit (.int k b))) (h:intR op k a b=some v) :
  oBin P H ev ⟨d,.binOp op t x y rt,ty,p,af,g⟩ op t (some (.lit (.int k a))) (some (.lit (.int k b)))=.val v H:=by
 have gen:∀ u:Value,pureV P (binOp op t (.int k a) (.int k b))=some u→generic P ev ⟨d,.binOp op t x y rt,ty,p,af,g⟩=some (.lit u):=fun u hu =>
  generic2 rfl hx hy fun ρ h1 h2=>execOp_bin h1 h2 (by unfold eqGuard; cases op <;> rfl) hu
 have fast:∀ n:Int,∀ u,(match kEq k k with | true=>intK n (intV k) | false=>none)=some u→u=.lit (.int k (k.wrap n)):=by
  grind [intV_sound,intK_eq]
 have bo:∀ (why:String) (f:Sem Value),(binOp op t (.int k a) (.int k b)=if k≠k then stuck why else f)→binOp op t (.int k a) (.int k b)=f:=fun why f hf=>by grind
 have cmp:∀ (c:Bool),(∀ u,fastBin op (.lit (.int k a)) (.lit (.int k b))=some u→u=.lit (.bool c))→pureV P (binOp op t (.int k a) (.int k b))=some (.bool c)→some (AV.lit (.bool c))=some v →
   oBin P H ev ⟨d,.binOp op t x y rt,ty,p,af,g⟩ op t (some (.lit (.int k a))) (some (.lit (.int k b)))=.val v H:=by
  grind [oBin_val]
 have kd:kEq k k=true∨kEq k k=false:=by grind
 cases op <;> first | (cases h; done) | skip
 case add=>cases h; exact oBin_val (fast _) fun _=>gen _ (by rw [bo _ _ rfl]; rfl)
 case sub=>cases h; exact oBin_val (fast _) fun _=>gen _ (by rw [bo _ _ rfl]; rfl)
 case mul=>cases h; exact oBin_val (fast _) fun _=>gen _ (by rw [bo _ _ rfl]; rfl)
 case quo =>
  simp only [intR] at h
  split at h
  ·cases h
  ·rename_i hb; cases h
   exact oBin_val (fun u hu=>by grind [fastBin]) fun _=>gen _ (by rw [bo _ _ rfl]; show pureV P (Op.intDiv .quo k a b)=_; unfold Op.intDiv; rw [if_neg hb]; rfl)
 case rem =>
  simp only [intR] at h
  split at h
  ·cases h
  ·rename_i hb; cases h
   exact oBin_val (fun u hu=>by grind [fastBin]) fun _=>gen _ (by rw [bo _ _ rfl]; show pureV P (Op.intDiv .rem k a b)=_; unfold Op.intDiv; rw [if_neg hb]; rfl)
 case eql=>exact cmp _ (fun u hu=>by grind [f_eql,fastBin]) (by rw [bo _ _ rfl]; rfl) h
 case neq=>exact cmp _ (fun u hu=>by grind [f_neq,fastBin]) (by rw [bo _ _ rfl]; rfl) h
 case lss=>exact cmp _ (fun u hu=>by grind [f_lss,fastBin]) (by rw [bo _ _ rfl]; rfl) h
 case leq=>exact cmp _ (fun u hu=>by grind [f_leq,fastBin]) (by rw [bo _ _ rfl]; rfl) h
 case gtr=>exact cmp _ (fun u hu=>by grind [f_gtr,fastBin]) (by rw [bo _ _ rfl]; rfl) h
 case geq=>exact cmp _ (fun u hu=>by grind [f_geq,fastBin]) (by rw [bo _ _ rfl]; rfl) h
theorem op_bin' {op:BinOp} {t rt:TypeId} {x y:Operand} : opV P H ev ⟨d,.binOp op t x y rt,ty,p,af,g⟩=binS P H ev ⟨d,.binOp op t x y rt,ty,p,af,g⟩ op t (ev x) (ev y):=by
 rw [op_bin]
 unfold binS
 split
 ·rename_i a b hx hy
  rw [hx,hy,oBin_generic rfl]
  refine generic2 (r:=.bool (decide (a=b))) rfl hx hy fun ρ h1 h2=>execOp_bin h1 h2 rfl ?_
  show some (Value.bool (a.toList == b.toList))=_
  rw [ba_eq]
 ·rename_i a b hx hy
  rw [hx,hy,oBin_generic rfl]
  refine generic2 (r:=.bool (!decide (a=b))) rfl hx hy fun ρ h1 h2=>execOp_bin h1 h2 rfl ?_
  show some (Value.bool (!(a.toList == b.toList)))=_
  rw [ba_eq]
 ·rename_i a b hx hy
  split
  ·rename_i hsz
   rw [hx,hy,oBin_generic rfl]
   refine generic2 (r:=.string (a++b)) rfl hx hy fun ρ h1 h2=>execOp_bin h1 h2 rfl ?_
   have:¬ (((a.size+b.size:Nat) : Int) > IntKind.i64.max):=by
    have:IntKind.i64.max=9223372036854775807:=by decide
    omega
   show pureV P (if ((a.size+b.size:Nat) : Int) > IntKind.i64.max then _ else _)=_
   rw [if_neg this]; rfl
  rfl
 all_goals grind [int_bin]
noncomputable def intK2 (P:Program) (H:Mem) (ev:Ev) (o:Oper) (op:BinOp) (t:TypeId) (k:IntKind) (a b:Int) (r:Option AV) : R:=match r with | some v=>.val v H | none=>oBin P H ev o op t (some (.lit (.int k a))) (some (.lit (.int k b)))
theorem binS_congr {tk:Nat} (_h0:tick=tk) {o:Oper} {op:BinOp} {t:TypeId} {x x' y y' : Option AV} {H H' : Mem} (h1:H=H') (h2:x=x') (h3:y=y') : binS P H ev o op t x y=binS P H' ev o op t x' y':=by grind
attribute [congr] binS_congr
section
variable {o:Oper} {t:TypeId} {a b:Int} {k k' : IntKind} {s s' : ByteArray} {op:BinOp}
theorem binS_intR:binS P H ev o op t (some (.lit (.int k a))) (some (.lit (.int k b)))=intK2 P H ev o op t k a b (intR op k a b):=by
 simp [intK2,binS]
theorem intK2_some {v:AV} : intK2 P H ev o op t k a b (some v)=.val v H:=(rfl)
theorem intR_add:intR .add k a b=some (.lit (.int k (k.wrap (a+b)))):=(rfl)
theorem intR_sub:intR .sub k a b=some (.lit (.int k (k.wrap (a - b)))):=(rfl)
theorem intR_mul:intR .mul k a b=some (.lit (.int k (k.wrap (a * b)))):=(rfl)
theorem intR_eql:intR .eql k a b=some (.lit (.bool (decide (a=b)))):=(rfl)
theorem intR_neq:intR .neq k a b=some (.lit (.bool (!decide (a=b)))):=(rfl)
theorem intR_lss:intR .lss k a b=some (.lit (.bool (decide (a < b)))):=(rfl)
theorem intR_leq:intR .leq k a b=some (.lit (.bool (decide (a≤b)))):=(rfl)
theorem intR_gtr:intR .gtr k a b=some (.lit (.bool (decide (b < a)))):=(rfl)
theorem intR_geq:intR .geq k a b=some (.lit (.bool (decide (b≤a)))):=(rfl)
theorem wrap_in (h1 : -9223372036854775808≤a) (h2:a≤9223372036854775807) : IntKind.i64.wrap a=a:=wrap_i64 ⟨h1,h2⟩
end
attribute [simp] op_bin' binS_intR intK2_some intR_add intR_sub intR_mul intR_eql intR_neq intR_lss intR_leq intR_gtr intR_geq wrap_in
/-! ### Calls of len; an element of a string -/
noncomputable def lenS (P:Program) (H:Mem) (ev:Ev) (o:Oper) (c:Call) (d:Option TypeDesc) (args:Option (List AV)) : R:=match args,d with
 | some [.sl _ _ n _],some (.slice _)=>.val (.lit (.int .i64 n)) H
 | some [.slq _ _ n _],some (.slice _)=>.val (.lit (.int .i64 n)) H
 | some [.es],some (.slice _)=>.val (.lit (.int .i64 0)) H
 | some [.lit (.string s)],some .string=>.val (.lit (.int .i64 s.size)) H
 | some [.lit (.slice none n _)],some (.slice _)=>.val (.lit (.int .i64 n)) H
 | some args,_=>oLen P H ev o c args
 | none,_=>.bad
theorem op_len {x:Operand} {t:TypeId} : opV P H ev ⟨d,.call ⟨.builtin .len,#[x],#[t]⟩,ty,p,af,g⟩=lenS P H ev ⟨d,.call ⟨.builtin .len,#[x],#[t]⟩,ty,p,af,g⟩ ⟨.builtin .len,#[x],#[t]⟩ (P.underlying t) (evals ev [x]):=by
 show callOp P H ev ⟨d,.call ⟨.builtin .len,#[x],#[t]⟩,ty,p,af,g⟩ ⟨.builtin .len,#[x],#[t]⟩=_
 have e:((⟨.builtin .len,#[x],#[t]⟩ : Call).argTypes[0]?).bind P.underlying=P.underlying t:=(rfl)
 have key:∀ args r,evals ev [x]=some args→r≠.bad→oLenN P H ⟨.builtin .len,#[x],#[t]⟩ args=r→callOp P H ev ⟨d,.call ⟨.builtin .len,#[x],#[t]⟩,ty,p,af,g⟩ ⟨.builtin .len,#[x],#[t]⟩=r:=by
  intro args r h1 hne h2
  unfold callOp
  rw [show (#[x] : Array Operand).toList=[x] from rfl,h1]
  dsimp only
  unfold oBuiltin oLen
  grind
 unfold lenS
 split
 ·rename_i h1 h2; exact key _ _ h1 (by simp) (by unfold oLenN; rw [e,h2]; rfl)
 ·rename_i h1 h2; exact key _ _ h1 (by simp) (by unfold oLenN; rw [e,h2]; rfl)
 ·rename_i h1 h2; exact key _ _ h1 (by simp) (by unfold oLenN; rw [e,h2]; rfl)
 ·rename_i h1 h2; exact key _ _ h1 (by simp) (by unfold oLenN; rw [e,h2]; rfl)
 ·rename_i n c e' h1 h2
  have hx:ev x=some (.lit (.slice none n c)):=by
   grind [evals]
  have hg:generic P ev ⟨d,.call ⟨.builtin .len,#[x],#[t]⟩,ty,p,af,g⟩=some (.lit (.int .i64 n)):=by
   refine generic1 (u:=.slice none n c) (r:=.int .i64 n) (by rfl) hx fun ρ hρ=>?_
   rw [exec_builtin (b:=.len) (c:=⟨.builtin .len,#[x],#[t]⟩) rfl rfl]
   have ea:(#[x] : Array Operand).map ρ=#[ρ x]:=by simp
   have hlen:pureV P (Builtin.len_ #[t] ty #[ρ x])=some (goInt n):=by
    rw [hρ]
    refine (pureV_then (m:=underlying t) (a:=TypeDesc.slice e') (by unfold underlying; show pureV P (match P.underlying t with | some d=>pure d | none=>stuck "no such type")=_; rw [h2]; rfl)).trans ?_
    rfl
   show pureV P (builtin .len #[t] ty _ ((#[x] : Array Operand).map ρ))=_
   rw [ea]
   show pureV P (do pure (Next.value (← Builtin.len_ #[t] ty #[ρ x])))=_
   exact (pureV_then hlen).trans rfl
  unfold callOp
  rw [show (#[x] : Array Operand).toList=[x] from rfl,h1]
  simp_all [oLen,oBuiltin,oLenN]
 ·rename_i h1 _ _ _ _ _; unfold callOp; rw [show (#[x] : Array Operand).toList=[x] from rfl]; simp only [*]; rfl
 ·rename_i h1; unfold callOp; grind
theorem lenS_congr {tk:Nat} (_h0:tick=tk) {o:Oper} {c:Call} {d d' : Option TypeDesc} {a a' : Option (List AV)} {H H' : Mem} (h1:H=H') (h2:d=d') (h3:a=a') : lenS P H ev o c d a=lenS P H' ev o c d' a':=by grind
attribute [congr] lenS_congr
theorem lenS_sl {o:Oper} {c:Call} {e:TypeId} {a off n k:Nat} : lenS P H ev o c (some (.slice e)) (some [.sl a off n k])=.val (.lit (.int .i64 n)) H:=(rfl)
theorem lenS_slq {o:Oper} {c:Call} {e:TypeId} {a off n k:Nat} : lenS P H ev o c (some (.slice e)) (some [.slq a off n k])=.val (.lit (.int .i64 n)) H:=(rfl)
theorem lenS_nil {o:Oper} {c:Call} {e:TypeId} {n k:Nat} : lenS P H ev o c (some (.slice e)) (some [.lit (.slice none n k)])=.val (.lit (.int .i64 n)) H:=(rfl)
attribute [simp] lenS_nil op_len lenS_sl lenS_slq
theorem pureV_underlying {t:TypeId} {td:TypeDesc} (h:P.underlying t=some td) : pureV P (underlying t)=some td:=by
 unfold underlying
 show pureV P (match P.underlying t with | some d=>pure d | none=>stuck "no such type")=_
 rw [h]; rfl
end
end Go.Ai
end
section
namespace Go.Ai
open Go.RowKit (Below)
variable {P:Program} {W:WF} {L:LF} {Q:Out→Prop} {fr:Fr} {H:Mem}
section
variable {ev:Ev} {d:Option Tmp} {ty:TypeId} {p:String} {af:Array Edge} {g:Option (Nat×Bool)}
theorem ofOpt_congr {tk:Nat} (_h0:tick=tk) {x x' : Option AV} {H H' : Mem} (h1:H=H') (h2:x=x') : ofOpt H x=ofOpt H' x':=by grind
attribute [congr] ofOpt_congr
/-! ### load -/
theorem op_load {t:TypeId} {a:Operand} : opV P H ev ⟨d,.load t a,ty,p,af,g⟩=oLoad P H t (ev a):=(rfl)
theorem oLoad_congr {tk:Nat} (_h0:tick=tk) {t:TypeId} {x x' : Option AV} {H H' : Mem} (h1:H=H') (h2:x=x') : oLoad P H t x=oLoad P H' t x':=by grind
theorem oLoad_ptr {t:TypeId} {a off:Nat} : oLoad P H t (some (.ptr a off))=ofOpt H (loadB (tIsAgg P t) (H.get a) off):=(rfl)
theorem loadB_one {l:List AV} {own:Bool} {z s off:Nat} : loadB (some (false,s)) (some (.cells l own z)) off=l[off]?:=nth_eq l off
theorem loadB_agg {l:List AV} {own:Bool} {z s off:Nat} (h:off+s≤l.length) : loadB (some (true,s)) (some (.cells l own z)) off=some (.agg ((l.drop off).take s)):=by
 show sliceK l s off none (fun l=>some (AV.agg l))=_
 rw [sliceK_eq,if_pos h]
attribute [congr] oLoad_congr
attribute [simp] op_load oLoad_ptr loadB_one loadB_agg
/-! ### store -/
def putL (l:List AV) (off:Nat) (new:List AV) : List AV:=l.take off++new++l.drop (off+new.length)
theorem op_store {t:TypeId} {a x:Operand} : opV P H ev ⟨d,.store t a x,ty,p,af,g⟩=oStore P H t (ev a) (ev x):=(rfl)
theorem oStore_congr {tk:Nat} (_h0:tick=tk) {t:TypeId} {x x' y y' : Option AV} {H H' : Mem} (h1:H=H') (h2:x=x') (h3:y=y') : oStore P H t x y=oStore P H' t x' y':=by grind
noncomputable def stS (k:Option (Bool×Nat)) (b:Option Blk) (H:Mem) (a off:Nat) (new:List AV) : R:=match b,k with
 | some (.cells l true z),some (_,size)=>if new.length=size∧allOne new=true∧off+new.length≤l.length then .skip (H.upd a (.cells (putL l off new) true z)) else .bad
 | _,_=>.bad
theorem oStore_ptr {t:TypeId} {a off:Nat} {v:AV} : oStore P H t (some (.ptr a off)) (some v)=stS (tIsAgg P t) (H.get a) H a off (cellsOf v):=by
 show (match store P H t (.ptr a off) v with | some H=>R.skip H | none=>.bad)=_
 have key:store P H t (.ptr a off) v=(match H.get a,tIsAgg P t with
  | some (.cells l true z),some (_,size)=>match Nat.beq (len (cellsOf v)) size && allOne (cellsOf v) with
   | true=>putCellsK none l off (cellsOf v) fun l=>H.setK a (.cells l true z) some
   | false=>none
  | _,_=>none):=rfl
 rw [key]
 unfold stS
 rcases H.get a with _ | b
 ·rfl
 ·cases b with
  | map es c=>rfl
  | siter s' p'=>rfl
  | typ _ _ _=>rfl
  | cells l own z =>
   cases own with
   | false=>rfl
   | true =>
    rcases tIsAgg P t with _ | ⟨ag,size⟩
    ·rfl
    ·dsimp only
     cases hb:Nat.beq (len (cellsOf v)) size && allOne (cellsOf v) with
     | false =>
      simp_all [len_eq]
     | true =>
      dsimp only
      rw [Bool.and_eq_true] at hb
      have h3:=Nat.eq_of_beq_eq_true hb.1
      rw [len_eq] at h3
      rw [putCellsK_eq]
      by_cases h5:off+(cellsOf v).length≤l.length
      ·rw [if_pos h5,if_pos ⟨h3,hb.2,h5⟩,Mem.setK_eq]
       rfl
      grind
theorem stS_congr {tk:Nat} (_h0:tick=tk) {k k' : Option (Bool×Nat)} {b b' : Option Blk} {a off off' : Nat} {n n' : List AV} {H H' : Mem} (h1:k=k') (h2:b=b') (h3:H=H') (h4:off=off') (h5:n=n') : stS k b H a off n=stS k' b' H' a off' n':=by grind
theorem stS_cells {l:List AV} {z:Nat} {ag:Bool} {size a off:Nat} {new:List AV} (h1:new.length=size) (h2:allOne new=true) (h3:off+new.length≤l.length) :
  stS (some (ag,size)) (some (.cells l true z)) H a off new=.skip (H.upd a (.cells (putL l off new) true z)):=if_pos ⟨h1,h2,h3⟩
theorem putL_eq {l new:List AV} {off:Nat} : putL l off new=l.take off++new++l.drop (off+new.length):=(rfl)
theorem cellsOf_int {k:IntKind} {n:Int} : cellsOf (.lit (.int k n))=[.lit (.int k n)]:=(rfl)
theorem cellsOf_bool {n:Bool} : cellsOf (.lit (.bool n))=[.lit (.bool n)]:=(rfl)
theorem cellsOf_sl {a o n c:Nat} : cellsOf (.sl a o n c)=[.sl a o n c]:=(rfl)
theorem cellsOf_slq {a o n c:Nat} : cellsOf (.slq a o n c)=[.slq a o n c]:=(rfl)
theorem cellsOf_agg {l:List AV} : cellsOf (.agg l)=l:=(rfl)
theorem allOne_nil:allOne []=true:=(rfl)
theorem allOne_cons {v:AV} {l:List AV} : allOne (v :: l)=(oneC v && allOne l):=by grind [allOne]
theorem oneC_int {k:IntKind} {n:Int} : oneC (.lit (.int k n))=true:=(rfl)
theorem oneC_bool {n:Bool} : oneC (.lit (.bool n))=true:=(rfl)
theorem oneC_string {n:ByteArray} : oneC (.lit (.string n))=true:=(rfl)
theorem oneC_pointer {n:Option Addr} : oneC (.lit (.pointer n))=true:=(rfl)
theorem oneC_slice {a:Option Addr} {n c:Nat} : oneC (.lit (.slice a n c))=true:=(rfl)
theorem oneC_nilFunc:oneC (.lit .nilFunc)=true:=(rfl)
theorem oneC_func {f:Fn} {a b:Array Value} : oneC (.lit (.func f a b))=true:=(rfl)
theorem oneC_funcA {f:Fn} {a b:List AV} : oneC (.func f a b)=true:=(rfl)
theorem oneC_ptr {a o:Nat} : oneC (.ptr a o)=true:=(rfl)
theorem oneC_sl {a o n c:Nat} : oneC (.sl a o n c)=true:=(rfl)
theorem oneC_slq {a o n c:Nat} : oneC (.slq a o n c)=true:=(rfl)
theorem oneC_es:oneC .es=true:=(rfl)
theorem oneC_map {a:Nat} : oneC (.map a)=true:=(rfl)
theorem oneC_iface {t:TypeId} {v:AV} : oneC (.iface t v)=true:=(rfl)
attribute [congr] oStore_congr stS_congr
attribute [simp] op_store oStore_ptr stS_cells putL_eq cellsOf_int cellsOf_bool cellsOf_sl cellsOf_slq cellsOf_agg allOne_nil allOne_cons
 oneC_int oneC_bool oneC_string oneC_pointer oneC_slice oneC_nilFunc oneC_func oneC_funcA oneC_ptr oneC_sl oneC_slq oneC_es oneC_map oneC_iface
/-! ### new blocks -/
theorem op_alloc {t:TypeId} : opV P H ev ⟨d,.alloc t,ty,p,af,g⟩=oAlloc P H t:=(rfl)
noncomputable def allocS (z:Option (List AV)) (H:Mem) : R:=match z with | some l=>.val (.ptr H.next 0) (H.add (.cells l true 0)) | none=>.bad
theorem oAlloc_eq {t:TypeId} : oAlloc P H t=allocS (zeroL P t) H:=by
 grind [allocS,oAlloc,Mem.newK_eq,newBlk]
theorem allocS_some {l:List AV} : allocS (some l) H=.val (.ptr H.next 0) (H.add (.cells l true 0)):=(rfl)
theorem op_box {t:TypeId} {x:Operand} : opV P H ev ⟨d,.box t x,ty,p,af,g⟩=oBox H (ev x):=(rfl)
theorem oBox_some {v:AV} : oBox H (some v)=.val (.ptr H.next 0) (H.add (.cells (cellsOf v) true 0)):=by
 simp [oBox,newBlk,Mem.newK_eq]
attribute [simp] op_alloc oAlloc_eq allocS_some op_box oBox_some
/-! ### addresses -/
def fldOff (P:Program) (s:TypeId) (f:Nat) : Option Nat:=match P.underlying s with
 | some (.struct fields)=>match fields[f]? with
  | some fd=>match P.info? fd.type with
   | some i=>match Nat.beq i.size 0 with | true=>none | false=>some fd.offset
   | none=>none
  | none=>none
 | _=>none
noncomputable def faS (P:Program) (H:Mem) (ev:Ev) (o:Oper) (s:TypeId) (q:Option Nat) (x:Option AV) (f:Nat) : R:=match x,q with
 | some (.ptr a off),some q=>.val (.ptr a (off+q)) H
 | x,_=>oFieldAddr P H ev o s x f
theorem op_fieldAddr {s:TypeId} {x:Operand} {f:Nat} : opV P H ev ⟨d,.fieldAddr s x f,ty,p,af,g⟩=faS P H ev ⟨d,.fieldAddr s x f,ty,p,af,g⟩ s (fldOff P s f) (ev x) f:=by
 show oFieldAddr P H ev _ s (ev x) f=_
 unfold faS
 split
 ·rename_i a off q h1 h2
  rw [h1]
  have:fieldAddr P s (.ptr a off) f=some (.ptr a (off+q)):=by
   (simp_all [fldOff,fieldAddr,natK_eq]; grind)
  grind [orGen,oFieldAddr]
 ·rfl
theorem faS_congr {tk:Nat} (_h0:tick=tk) {o:Oper} {s:TypeId} {q q' : Option Nat} {x x' : Option AV} {f:Nat} {H H' : Mem} (h1:H=H') (h2:q=q') (h3:x=x') : faS P H ev o s q x f=faS P H' ev o s q' x' f:=by grind
theorem faS_ptr {o:Oper} {s:TypeId} {q a off f:Nat} : faS P H ev o s (some q) (some (.ptr a off)) f=.val (.ptr a (off+q)) H:=(rfl)
attribute [congr] faS_congr
attribute [simp] op_fieldAddr faS_ptr
def elSz (P:Program) (t:TypeId) : Option (Option Nat×Nat):=match P.underlying t with
 | some (.slice e)=>match P.info? e with | some j=>some (none,j.size) | none=>none
 | some (.array n e)=>match P.info? e with | some j=>some (some n,j.size) | none=>none
 | _=>none
noncomputable def iaS (P:Program) (H:Mem) (ev:Ev) (o:Oper) (t:TypeId) (q:Option (Option Nat×Nat)) (x i:Option AV) : R:=match q,x,i with
 | some (none,sz),some (.sl a off n c),some (.lit (.int k i))=>if 0≤i∧i.toNat < n then .val (.ptr a (off+i.toNat * sz)) H else oIndexAddr P H ev o t (some (.sl a off n c)) (some (.lit (.int k i)))
 | some (none,sz),some (.slq a off n c),some (.lit (.int k i))=>if 0≤i∧i.toNat < n then .val (.ptr a (off+i.toNat * sz)) H else oIndexAddr P H ev o t (some (.slq a off n c)) (some (.lit (.int k i)))
 | some (some n,sz),some (.ptr a off),some (.lit (.int k i))=>if 0≤i∧i.toNat < n then .val (.ptr a (off+i.toNat * sz)) H else oIndexAddr P H ev o t (some (.ptr a off)) (some (.lit (.int k i)))
 | _,x,i=>oIndexAddr P H ev o t x i
theorem natOf_int {k:IntKind} {i:Int} (h:0≤i) : natOf (.lit (.int k i))=some i.toNat:=by
 cases i with
 | ofNat n=>rfl
 | negSucc n=>grind
theorem ia_sl {o:Oper} {t:TypeId} {sz a off n c:Nat} {k:IntKind} {i:Int} (hq:elSz P t=some (none,sz)) (h0:0≤i) (h:i.toNat < n) :
  oIndexAddr P H ev o t (some (.sl a off n c)) (some (.lit (.int k i)))=.val (.ptr a (off+i.toNat * sz)) H:=by
 have:indexAddr P t (.sl a off n c) (.lit (.int k i))=some (.ptr a (off+i.toNat * sz)):=by
  unfold elSz at hq
  unfold indexAddr
  grind [natOf_int,natK_eq,Nat.ble_eq_true_of_le,Nat.blt]
 grind [orGen,oIndexAddr]
theorem ia_slq {o:Oper} {t:TypeId} {sz a off n c:Nat} {k:IntKind} {i:Int} (hq:elSz P t=some (none,sz)) (h0:0≤i) (h:i.toNat < n) :
  oIndexAddr P H ev o t (some (.slq a off n c)) (some (.lit (.int k i)))=.val (.ptr a (off+i.toNat * sz)) H:=by
 have:indexAddr P t (.slq a off n c) (.lit (.int k i))=some (.ptr a (off+i.toNat * sz)):=by
  unfold elSz at hq
  unfold indexAddr
  grind [natOf_int,natK_eq,Nat.ble_eq_true_of_le,Nat.blt]
 grind [orGen,oIndexAddr]
theorem ia_arr {o:Oper} {t:TypeId} {sz a off n:Nat} {k:IntKind} {i:Int} (hq:elSz P t=some (some n,sz)) (h0:0≤i) (h:i.toNat < n) :
  oIndexAddr P H ev o t (some (.ptr a off)) (some (.lit (.int k i)))=.val (.ptr a (off+i.toNat * sz)) H:=by
 have:indexAddr P t (.ptr a off) (.lit (.int k i))=some (.ptr a (off+i.toNat * sz)):=by
  unfold elSz at hq
  unfold indexAddr
  grind [natOf_int,natK_eq,Nat.ble_eq_true_of_le,Nat.blt]
 grind [orGen,oIndexAddr]
theorem op_indexAddr {t:TypeId} {x i:Operand} : opV P H ev ⟨d,.indexAddr t x i,ty,p,af,g⟩=iaS P H ev ⟨d,.indexAddr t x i,ty,p,af,g⟩ t (elSz P t) (ev x) (ev i):=by
 show oIndexAddr P H ev _ t (ev x) (ev i)=_
 unfold iaS
 grind [ia_sl,ia_slq,ia_arr]
theorem iaS_congr {tk:Nat} (_h0:tick=tk) {o:Oper} {t:TypeId} {q q' : Option (Option Nat×Nat)} {x x' i i' : Option AV} {H H' : Mem} (h1:H=H') (h0:q=q') (h2:x=x') (h3:i=i') : iaS P H ev o t q x i=iaS P H' ev o t q' x' i':=by grind
theorem iaS_sl {o:Oper} {t:TypeId} {sz a off n c:Nat} {k:IntKind} {i:Int} (h0:0≤i) (h:i.toNat < n) : iaS P H ev o t (some (none,sz)) (some (.sl a off n c)) (some (.lit (.int k i)))=.val (.ptr a (off+i.toNat * sz)) H:=if_pos ⟨h0,h⟩
theorem iaS_slq {o:Oper} {t:TypeId} {sz a off n c:Nat} {k:IntKind} {i:Int} (h0:0≤i) (h:i.toNat < n) : iaS P H ev o t (some (none,sz)) (some (.slq a off n c)) (some (.lit (.int k i)))=.val (.ptr a (off+i.toNat * sz)) H:=if_pos ⟨h0,h⟩
attribute [congr] iaS_congr
attribute [simp] op_indexAddr iaS_sl iaS_slq
/-! ### nilCheck,extract -/
theorem op_extract {x:Operand} {i:Nat} : opV P H ev ⟨d,.extract x i,ty,p,af,g⟩=oExtract H (ev x) i:=(rfl)
theorem oExtract_tup {l:List AV} {i:Nat} : oExtract H (some (.tup l)) i=ofOpt H l[i]?:=(rfl)
attribute [simp] op_extract oExtract_tup
end
end Go.Ai
end
section
namespace Go.Ai
open Go.RowKit (Below)
variable {P:Program} {W:WF} {L:LF} {Q:Out→Prop} {fr:Fr} {H:Mem}
section
variable {ev:Ev} {d:Option Tmp} {ty:TypeId} {p:String} {af:Array Edge} {g:Option (Nat×Bool)}
/-! ### parts of a struct or of a slice -/
theorem evalParts_nil:evalParts ev []=some []:=(rfl)
noncomputable def consP (i:Nat) (a:Option AV) (l:Option (List (Nat×AV))) : Option (List (Nat×AV)):=match a,l with | some v,some vs=>some ((i,v) :: vs) | _,_=>none
theorem evalParts_cons {i:Nat} {x:Operand} {l:List (Nat×Operand)} : evalParts ev ((i,x) :: l)=consP i (ev x) (evalParts ev l):=by
 grind [evalParts,consP]
theorem consP_some {i:Nat} {v:AV} {vs:List (Nat×AV)} : consP i (some v) (some vs)=some ((i,v) :: vs):=(rfl)
noncomputable def fillL (place:Nat→Option (Nat×Nat)) (cells:List AV) : List (Nat×AV)→Option (List AV)
 | []=>some cells
 | (i,v) :: rest=>match place i with
  | some (off,size)=>if (cellsOf v).length=size∧off+(cellsOf v).length≤cells.length then fillL place (putL cells off (cellsOf v)) rest else none
  | none=>none
theorem afill_eq {place:Nat→Option (Nat×Nat)} : ∀ (ps:List (Nat×AV)) (cells:List AV),afill place cells ps=fillL place cells ps
 | [],_=>rfl
 | (i,v) :: rest,cells=>by
  unfold afill fillL
  cases hp:place i with
  | none=>rfl
  | some r =>
   obtain ⟨off,size⟩:=r
   dsimp only
   cases hb:Nat.beq (len (cellsOf v)) size with
   | false =>
    dsimp only
    (split <;> simp_all [len_eq])
   | true =>
    simp_all [len_eq,putCellsK_eq,afill_eq]
noncomputable def fillP (q:Option (Nat×Nat)) (place:Nat→Option (Nat×Nat)) (cells new:List AV) (rest:List (Nat×AV)) : Option (List AV):=match q with
 | some (off,size)=>if new.length=size∧off+new.length≤cells.length then fillL place (putL cells off new) rest else none
 | none=>none
theorem fillL_nil {place:Nat→Option (Nat×Nat)} {cells:List AV} : fillL place cells []=some cells:=(rfl)
theorem fillL_cons {place:Nat→Option (Nat×Nat)} {cells:List AV} {i:Nat} {v:AV} {rest:List (Nat×AV)} : fillL place cells ((i,v) :: rest)=fillP (place i) place cells (cellsOf v) rest:=by
 rfl
theorem fillP_some {place:Nat→Option (Nat×Nat)} {cells new:List AV} {off size:Nat} {rest:List (Nat×AV)} (h1:new.length=size) (h2:off+new.length≤cells.length) :
  fillP (some (off,size)) place cells new rest=fillL place (putL cells off new) rest:=if_pos ⟨h1,h2⟩
attribute [simp] evalParts_nil evalParts_cons consP_some fillL_nil fillL_cons fillP_some
noncomputable def bldI (P:Program) (t:TypeId) : Option (List AV×List (Nat×Nat)):=match zeroL P t,P.underlying t with
 | some zero,some (.struct fields)=>match placesOf P fields.toList with
  | some pl=>some (zero,pl)
  | none=>none
 | _,_=>none
noncomputable def bldS (P:Program) (H:Mem) (t:TypeId) (q:Option (List AV×List (Nat×Nat))) (ps:Option (List (Nat×AV))) : R:=match q,ps with
 | some (z,pl),some ps=>ofOpt H (aggOf (fillL (nth pl) z ps))
 | _,ps=>oBuild P H t ps
theorem op_build {t:TypeId} {ps:Array (Nat×Operand)} : opV P H ev ⟨d,.build t ps,ty,p,af,g⟩=bldS P H t (bldI P t) (evalParts ev ps.toList):=by
 show oBuild P H t (evalParts ev ps.toList)=_
 unfold bldS
 grind [afill_eq,build,bldI,oBuild]
theorem bldS_congr {tk:Nat} (_h0:tick=tk) {t:TypeId} {q q' : Option (List AV×List (Nat×Nat))} {x x' : Option (List (Nat×AV))} {H H' : Mem} (h1:H=H') (h2:q=q') (h3:x=x') : bldS P H t q x=bldS P H' t q' x':=by grind
theorem bldS_some {t:TypeId} {z:List AV} {pl:List (Nat×Nat)} {ps:List (Nat×AV)} : bldS P H t (some (z,pl)) (some ps)=ofOpt H (aggOf (fillL (nth pl) z ps)):=(rfl)
theorem aggOf_some {l:List AV} : aggOf (some l)=some (.agg l):=(rfl)
theorem nth_at {α:Type} {l:List α} {i:Nat} : nth l i=l[i]?:=nth_eq l i
attribute [congr] bldS_congr
attribute [simp] op_build bldS_some aggOf_some nth_at
noncomputable def bsI (P:Program) (t:TypeId) : Option (List AV×Nat):=match elemOfSlice P t with
 | some (e,size,_)=>match zeroL P e with
  | some z=>some (z,size)
  | none=>none
 | none=>none
noncomputable def bsS (P:Program) (H:Mem) (t:TypeId) (n:Nat) (q:Option (List AV×Nat)) (ps:Option (List (Nat×AV))) : R:=match q,ps with
 | some (z,size),some ps=>if n * size≤1048576∧0 < n * size then (match fillL (fun i=>some (i * size,size)) (rep z n) ps with
   | some l=>.val (.sl H.next 0 n n) (H.add (.cells l true 0))
   | none=>.bad) else oBuildSlice P H t n (some ps)
 | _,ps=>oBuildSlice P H t n ps
theorem op_buildSlice {t:TypeId} {n:Nat} {ps:Array (Nat×Operand)} : opV P H ev ⟨d,.buildSlice t n ps,ty,p,af,g⟩=bsS P H t n (bsI P t) (evalParts ev ps.toList):=by
 show oBuildSlice P H t n (evalParts ev ps.toList)=_
 unfold bsS
 split
 ·rename_i z size l h1 h2
  rw [h2]
  split
  ·rename_i h
   unfold oBuildSlice
   unfold bsI at h1
   split at h1
   ·rename_i e sz by_ he
    split at h1
    ·rename_i z' hz
     cases h1
     rw [he]
     dsimp only
     have hle:Nat.ble (n * size) 1048576=true:=Nat.ble_eq_true_of_le h.1
     grind [Nat.eq_of_beq_eq_true,zeroFor,afill_eq,Mem.newK_eq,newBlk]
    grind
   grind
  ·rfl
 ·rfl
theorem bsS_congr {tk:Nat} (_h0:tick=tk) {t:TypeId} {n:Nat} {q q' : Option (List AV×Nat)} {x x' : Option (List (Nat×AV))} {H H' : Mem} (h1:H=H') (h2:q=q') (h3:x=x') : bsS P H t n q x=bsS P H' t n q' x':=by grind
noncomputable def bsK (H:Mem) (n:Nat) (l:Option (List AV)) : R:=match l with | some l=>.val (.sl H.next 0 n n) (H.add (.cells l true 0)) | none=>.bad
theorem bsK_some {n:Nat} {l:List AV} : bsK H n (some l)=.val (.sl H.next 0 n n) (H.add (.cells l true 0)):=(rfl)
theorem bsS_some {t:TypeId} {n:Nat} {z:List AV} {size:Nat} {ps:List (Nat×AV)} (h1:n * size≤1048576) (h2:0 < n * size) : bsS P H t n (some (z,size)) (some ps)=bsK H n (fillL (fun i=>some (i * size,size)) (rep z n) ps):=by
 unfold bsS; dsimp only; rw [if_pos ⟨h1,h2⟩]; rfl
theorem bsS_nil {t:TypeId} {z:List AV} {size:Nat} (h:bsI P t=some (z,size)) : oBuildSlice P H t 0 (some [])=.val (.sl H.next 0 0 0) (H.add (.cells [] true 0)):=by
 unfold bsI at h
 split at h
 all_goals simp_all [Mem.newK_eq,newBlk,afill,rep,zeroFor,oBuildSlice]
theorem rep_zero {l:List AV} : rep l 0=[]:=(rfl)
theorem rep_succ {l:List AV} {n:Nat} : rep l (n+1)=l++rep l n:=(rfl)
attribute [congr] bsS_congr
attribute [simp] op_buildSlice bsK_some bsS_some rep_zero rep_succ
/-! ### makeInterface,makeFunc -/
theorem op_makeFunc {fn:Fn} {a b:Array Operand} : opV P H ev ⟨d,.makeFunc fn a b,ty,p,af,g⟩=oMakeFunc H fn (evals ev a.toList) (evals ev b.toList):=(rfl)
theorem oMakeFunc_some {fn:Fn} {a b:List AV} : oMakeFunc H fn (some a) (some b)=.val (.func fn a b) H:=(rfl)
attribute [simp] op_makeFunc oMakeFunc_some
/-! ### integers to integers -/
noncomputable def cvS (P:Program) (H:Mem) (ev:Ev) (o:Oper) (s t:TypeId) (sd td:Option TypeDesc) (x:Option AV) : R:=match sd,td,x with
 | some (.int _),some (.int k),some (.lit (.int _ n))=>.val (.lit (.int k (k.wrap n))) H
 | _,_,x=>oConvert P H ev o s t x
theorem op_convert {s t:TypeId} {x:Operand} : opV P H ev ⟨d,.convert s t x,ty,p,af,g⟩=cvS P H ev ⟨d,.convert s t x,ty,p,af,g⟩ s t (P.underlying s) (P.underlying t) (ev x):=by
 show oConvert P H ev _ s t (ev x)=_
 unfold cvS
 split
 ·rename_i k' k j n h1 h2 h3
  have hg:generic P ev ⟨d,.convert s t x,ty,p,af,g⟩=some (.lit (.int k (k.wrap n))):=by
   refine generic1 rfl h3 fun ρ h=>?_
   show pureV P (do pure (Next.value (← Go.convert s t (ρ x))))=_
   rw [pureV_then (a:=.int k (k.wrap n))]
   ·rfl
   ·rw [h]
    refine (pureV_then (m:=underlying s) (pureV_underlying h1)).trans ?_
    refine (pureV_then (m:=underlying t) (pureV_underlying h2)).trans ?_
    rfl
  grind [oConvert]
 ·rfl
theorem cvS_congr {tk:Nat} (_h0:tick=tk) {o:Oper} {s t:TypeId} {sd sd' td td' : Option TypeDesc} {x x' : Option AV} {H H' : Mem} (h1:H=H') (h2:sd=sd') (h3:td=td') (h4:x=x') : cvS P H ev o s t sd td x=cvS P H' ev o s t sd' td' x':=by grind
theorem cvS_int {o:Oper} {s t:TypeId} {k k' j:IntKind} {n:Int} : cvS P H ev o s t (some (.int k')) (some (.int k)) (some (.lit (.int j n)))=.val (.lit (.int k (k.wrap n))) H:=(rfl)
attribute [congr] cvS_congr
attribute [simp] op_convert cvS_int
/-! ### An operation whose operands are seen -/
noncomputable def ex2 (P:Program) (H:Mem) (ev:Ev) (o:Oper) (x y:Operand) (v u:Option AV) (_:ev x=v) (_:ev y=u) : R:=opV P H ev o
noncomputable def ex3 (P:Program) (H:Mem) (ev:Ev) (o:Oper) (x y z:Operand) (v u q:Option AV) (_:ev x=v) (_:ev y=u) (_:ev z=q) : R:=opV P H ev o
theorem ex2_congr {tk:Nat} (_h0:tick=tk) {o:Oper} {x y:Operand} {v v' u u' : Option AV} {hv:ev x=v} {hu:ev y=u} {H H' : Mem} (h1:H=H') (h2:v=v') (h3:u=u') : ex2 P H ev o x y v u hv hu=ex2 P H' ev o x y v' u' (hv.trans h2) (hu.trans h3):=by grind
theorem ex3_congr {tk:Nat} (_h0:tick=tk) {o:Oper} {x y z:Operand} {v v' u u' q q' : Option AV} {hv:ev x=v} {hu:ev y=u} {hq:ev z=q} {H H' : Mem} (h1:H=H') (h2:v=v') (h3:u=u') (h4:q=q') :
  ex3 P H ev o x y z v u q hv hu hq=ex3 P H' ev o x y z v' u' q' (hv.trans h2) (hu.trans h3) (hq.trans h4):=by grind
attribute [congr] ex2_congr ex3_congr
/-! ### slices of slices and of strings -/
theorem op_slice_hi {t:TypeId} {x hi:Operand} : opV P H ev ⟨d,.slice t x none (some hi) none,ty,p,af,g⟩=ex2 P H ev ⟨d,.slice t x none (some hi) none,ty,p,af,g⟩ x hi (ev x) (ev hi) rfl rfl:=(rfl)
theorem generic_none {o:Oper} {x:Operand} (hm:x∈o.op.operands.toList) (hx:∀ v,ev x=some v→toLit v=none) : generic P ev o=none:=by
 unfold generic
 grind
theorem bounds_hi {i:Int} {n c:Nat} {k:IntKind} (h0:0≤i) (h1:i.toNat≤c) : bounds none (some (.lit (.int k i))) none n c=some (0,i.toNat,c):=by
 simp_all [natOr,bounds,natOf_int,Nat.ble_eq_true_of_le,okMx]
theorem slice_of {t:TypeId} {x:Operand} {lo hi:Option Operand} {v:AV} (hx:ev x=some v) (hv:toLit v=none) :
  opV P H ev ⟨d,.slice t x lo hi none,ty,p,af,g⟩=oSliceN P H ev t (some v) lo hi none:=by
 show oSlice P H ev _ t (ev x) lo hi none=_
 unfold oSlice
 rw [generic_none (x:=x) (by simp [Op.operands]) (fun v' h=>by grind),hx]
theorem sliceOp_slice {t e:TypeId} {i:TypeInfo} {x:AV} {lo hi mx:Option AV} (h1:P.underlying t=some (.slice e)) (h2:P.info? e=some i) : sliceOp P t x lo hi mx=sliceN i.size lo hi mx x:=by
 grind [sliceOp]
theorem elSz_inv {t:TypeId} {sz:Nat} (h:elSz P t=some (none,sz)) : ∃ e i,P.underlying t=some (.slice e)∧P.info? e=some i∧i.size=sz:=by
 unfold elSz at h
 grind
theorem slice_sl_hi {t:TypeId} {x hi:Operand} {a off n c:Nat} {k:IntKind} {i:Int} {hx:ev x=some (.sl a off n c)} {hh:ev hi=some (.lit (.int k i))} (he:(elSz P t).map (·.1)=some none) (h0:0≤i) (h1:i.toNat≤c) (h2:0 < c) :
  ex2 P H ev ⟨d,.slice t x none (some hi) none,ty,p,af,g⟩ x hi (some (.sl a off n c)) (some (.lit (.int k i))) hx hh=.val (.sl a off i.toNat c) H:=by
 show opV P H ev _=_
 rw [slice_of hx rfl]
 obtain ⟨q,hq,hq2⟩:=Option.map_eq_some_iff.1 he
 obtain ⟨q1,q2⟩:=q
 dsimp only at hq2
 subst hq2
 obtain ⟨e,i',h3,h4,h5⟩:=elSz_inv hq
 unfold oSliceN evOpt
 dsimp only
 rw [hh]
 dsimp only
 rw [sliceOp_slice h3 h4]
 grind [sliceN,bounds_hi,sliceSl,Nat.eq_of_beq_eq_true,ofOpt,natK_eq]
theorem slice_slq_hi {t:TypeId} {x hi:Operand} {a off n c:Nat} {k:IntKind} {i:Int} {hx:ev x=some (.slq a off n c)} {hh:ev hi=some (.lit (.int k i))} (he:(elSz P t).map (·.1)=some none) (h0:0≤i) (h1:i.toNat≤n) (h2:0 < n) :
  ex2 P H ev ⟨d,.slice t x none (some hi) none,ty,p,af,g⟩ x hi (some (.slq a off n c)) (some (.lit (.int k i))) hx hh=.val (.slq a off i.toNat c) H:=by
 show opV P H ev _=_
 rw [slice_of hx rfl]
 obtain ⟨q,hq,hq2⟩:=Option.map_eq_some_iff.1 he
 obtain ⟨q1,q2⟩:=q
 dsimp only at hq2
 subst hq2
 obtain ⟨e,i',h3,h4,h5⟩:=elSz_inv hq
 unfold oSliceN evOpt
 dsimp only
 rw [hh]
 dsimp only
 rw [sliceOp_slice h3 h4]
 grind [sliceN,bounds_hi,sliceSlq,Nat.ble_eq_true_of_le,Nat.blt,ofOpt,natK_eq]
attribute [simp] op_slice_hi slice_sl_hi slice_slq_hi
/-! ### append -/
theorem op_append {x y:Operand} {s t:TypeId} : opV P H ev ⟨d,.call ⟨.builtin .append,#[x,y],#[s,t]⟩,ty,p,af,g⟩=ex2 P H ev ⟨d,.call ⟨.builtin .append,#[x,y],#[s,t]⟩,ty,p,af,g⟩ x y (ev x) (ev y) rfl rfl:=(rfl)
noncomputable def apI (P:Program) (s t:TypeId) : Option (Nat×Nat):=match elemOfSlice P s,P.underlying t with
 | some (_,size,bytes),some (.slice _)=>some (size,bytes)
 | _,_=>none
theorem append_of {x y:Operand} {s t:TypeId} {v u:AV} {size bytes:Nat} (hx:ev x=some v) (hy:ev y=some u) (h:apI P s t=some (size,bytes)) :
  opV P H ev ⟨d,.call ⟨.builtin .append,#[x,y],#[s,t]⟩,ty,p,af,g⟩=(match appendN H size bytes v u with | some (v,H)=>.val v H | none=>.bad):=by
 show callOp P H ev _ ⟨.builtin .append,#[x,y],#[s,t]⟩=_
 unfold callOp
 have e1:evals ev (#[x,y] : Array Operand).toList=some [v,u]:=by
  simp_all
 rw [e1]
 dsimp only
 unfold oBuiltin
 dsimp only
 unfold oAppend
 dsimp only
 have e2:(#[s,t] : Array TypeId)[0]?=some s:=rfl
 have e3:(#[s,t] : Array TypeId)[1]?=some t:=rfl
 grind [append,apI,appended]
theorem firstL_sl {a off n c size:Nat} {l:List AV} {own:Bool} {z:Nat} (h:H.get a=some (.cells l own z)) (hl:off+n * size≤l.length) : firstL H size n (.sl a off n c)=some ((l.drop off).take (n * size)):=by
 simp_all [firstL,sliceK_eq]
theorem firstL_slq {a off n c size:Nat} {l:List AV} {own:Bool} {z:Nat} (h:H.get a=some (.cells l own z)) (hl:off+n * size≤l.length) : firstL H size n (.slq a off n c)=some ((l.drop off).take (n * size)):=by
 simp_all [firstL,sliceK_eq]
theorem small_ok {a b c:Nat} (h1:a≤1048576) (h2:b≤1048576) (h3:c≤1048576) : small a b c=true:=by
 grind [small]
theorem newSlq_eq {l:List AV} {n size:Nat} : newSlq H l n size=some (.slq H.next 0 n 0,H.add (.cells l true size)):=by
 grind [newSlq,Mem.newK_eq]
theorem appendN_nil {size bytes n:Nat} {x:AV} {new:List AV} (hn:lenOf x=some (n+1)) (hs:0 < size) (hf:firstL H size (n+1) x=some new) (hl:new.length=(n+1) * size) (h1:n+1≤1048576) (h2:bytes≤1048576) :
  appendN H size bytes (.lit (.slice none 0 0)) x=some (.slq H.next 0 (n+1) 0,H.add (.cells new true size)):=by
 unfold appendN
 rw [hn]
 show (match Nat.beq size 0,firstL H size (n+1) x with | false,some new=>appTo H size bytes (n+1) (.lit (.slice none 0 0)) new | _,_=>none)=_
 have hb:Nat.beq size 0=false:=by
  grind [Nat.eq_of_beq_eq_true]
 simp_all [appTo,len_eq,appNil,small_ok,newSlq_eq]
theorem appendN_full {size bytes n k off a:Nat} {x:AV} {new l:List AV} {own:Bool} {z:Nat} (hn:lenOf x=some (n+1)) (hs:0 < size) (hf:firstL H size (n+1) x=some new) (hl:new.length=(n+1) * size)
  (hg:H.get a=some (.cells l own z)) (hle:off+k * size≤l.length) (h1:k+(n+1)≤1048576) (h3:k≤1048576) (h2:bytes≤1048576) :
  appendN H size bytes (.sl a off k k) x=some (.slq H.next 0 (k+(n+1)) 0,H.add (.cells ((l.drop off).take (k * size)++new) true size)):=by
 unfold appendN
 rw [hn]
 show (match Nat.beq size 0,firstL H size (n+1) x with | false,some new=>appTo H size bytes (n+1) (.sl a off k k) new | _,_=>none)=_
 have hb:Nat.beq size 0=false:=by
  grind [Nat.eq_of_beq_eq_true]
 rw [hb,hf]
 dsimp only
 unfold appTo
 rw [len_eq,hl,Nat.beq_refl]
 dsimp only
 unfold appSl
 have hb2:Nat.ble (k+(n+1)) k=false:=by
  cases hb2:Nat.ble (k+(n+1)) k with
  | false=>rfl
  | true=>have:=Nat.le_of_ble_eq_true hb2; omega
 simp_all [small_ok,appK_eq,sliceK_eq,newSlq_eq]
theorem appendN_grow {size bytes n k a:Nat} {x:AV} {new l:List AV} (hn:lenOf x=some (n+1)) (hs:0 < size) (hf:firstL H size (n+1) x=some new) (hl:new.length=(n+1) * size)
  (hg:H.get a=some (.cells l true size)) (hle:l.length=k * size) (h1:k+(n+1)≤1048576) (h2:bytes≤1048576) (h4:allOne new=true) :
  appendN H size bytes (.slq a 0 k 0) x=some (.slq (H.rm a).next 0 (k+(n+1)) 0,(H.rm a).add (.cells (l++new) true size)):=by
 unfold appendN
 rw [hn]
 show (match Nat.beq size 0,firstL H size (n+1) x with | false,some new=>appTo H size bytes (n+1) (.slq a 0 k 0) new | _,_=>none)=_
 have hb:Nat.beq size 0=false:=by
  grind [Nat.eq_of_beq_eq_true]
 rw [hb,hf]
 dsimp only
 unfold appTo
 rw [len_eq,hl,Nat.beq_refl]
 dsimp only
 unfold appSlq
 rw [hg]
 dsimp only
 have e1:(Nat.beq size size && Nat.beq 0 (0 * size))=true:=by simp
 have e2:Nat.ble (0+(k+(n+1)) * size) (len l)=false:=by
  rw [len_eq,hle]
  cases hb2:Nat.ble (0+(k+(n+1)) * size) (k * size) with
  | false=>rfl
  | true =>
   (simp_all; grind)
 have e3:(Nat.beq (0+k * size) (len l) && small (k+(n+1)) 0 bytes && allOne new)=true:=by
  simp_all [small_ok,len_eq]
 (simp_all [newSlq_eq,Mem.delK_eq,appK_eq,sliceK_eq]; grind)
attribute [simp] op_append
end
end Go.Ai
end
section
namespace Go.Ai
open Go.RowKit (Below)
variable {P:Program} {W:WF} {L:LF} {Q:Out→Prop} {fr:Fr} {H:Mem}
section
variable {ev:Ev} {d:Option Tmp} {ty:TypeId} {p:String} {af:Array Edge} {g:Option (Nat×Bool)}
def smap (l:List (ByteArray×AV×Nat)) : List (AV×AV×Nat):=l.map fun x=>(.lit (.string x.1),x.2.1,x.2.2)
theorem litAll_keys:∀ l:List (ByteArray×AV×Nat),litAll ((smap l).map (·.1))=some (l.map fun x=>Value.string x.1)
 | []=>rfl
 | x :: l=>by
  have:=litAll_keys l
  simp only [smap,List.map_cons] at this ⊢
  simp only [litAll]
  rw [this]
def keyAt (s:ByteArray) : List (ByteArray×AV×Nat)→Nat→Option Nat
 | [],_=>none
 | x :: l,i=>if s=x.1 then some i else keyAt s l (i+1)
theorem ba_beq (a b:ByteArray) : (a == b)=decide (a=b):=by
 by_cases h:a=b
 ·subst h
  cases a with
  | mk d=>show (d == d)=_; simp
 ·rw [decide_eq_false h]
  cases a with
  | mk d=>cases b with
   | mk e =>
    show (d == e)=false
    grind
theorem findNow_keys (s:ByteArray) : ∀ (l:List (ByteArray×AV×Nat)) (i:Nat),Instr.findNow .string (.string s) ((l.map fun x=>Value.string x.1).map fun q=>(⟨q,undef,0⟩ : MapEntry)) i=some ((keyAt s l i).map fun j=>(j,undef))
 | [],i=>rfl
 | x :: l,i=>by
  have ih:=findNow_keys s l (i+1)
  simp only [List.map_cons] at ih ⊢
  unfold Instr.findNow keyAt
  show (match (some (s == x.1) : Option Bool) with | some true=>_ | some false=>_ | none=>none)=_
  (simp_all [ba_beq]; grind)
theorem findK_keys {kt:TypeId} (hk:P.underlying kt=some .string) (s:ByteArray) (l:List (ByteArray×AV×Nat)) : findK P kt (.string s) (smap l)=some (keyAt s l 0):=by
 unfold findK
 rw [litAll_keys]
 dsimp only
 have:pureV P (Instr.findKey kt (.string s) ((l.map fun x=>Value.string x.1).map fun q=>(⟨q,undef,0⟩ : MapEntry)))=some ((keyAt s l 0).map fun j=>(j,undef)):=by
  unfold Instr.findKey
  rw [pureV_then (pureV_underlying hk),findNow_keys]
  rfl
 rw [this]
 cases keyAt s l 0 <;> rfl
theorem checkKey_str {kt:TypeId} {b:Bool} {n:Nat} {s:ByteArray} (hk:P.underlying kt=some .string) : pureV P (Instr.checkKey b (n+1) kt (.string s))=some ():=by
 unfold Instr.checkKey
 rw [pureV_then (pureV_underlying hk)]
 rfl
theorem keyAt_spec (s:ByteArray) : ∀ (l:List (ByteArray×AV×Nat)) (i:Nat),match keyAt s l i with | some j=>i≤j∧∃ x,l[j - i]?=some x∧x.1=s | none=>∀ x∈l,x.1≠s
 | [],i=>by simp [keyAt]
 | x :: l,i=>by
  unfold keyAt
  by_cases h:s=x.1
  ·grind
  ·rw [if_neg h]
   have ih:=keyAt_spec s l (i+1)
   grind
def sset (l:List (ByteArray×Nat)) : List (AV×AV×Nat):=smap (l.map fun x=>(x.1,.lit (.bool true),x.2))
def inSet (s:ByteArray) (l:List (ByteArray×Nat)) : Bool:=l.any fun x=>decide (x.1=s)
theorem lookup_set {t kt et:TypeId} {a:Nat} {s:ByteArray} {l:List (ByteArray×Nat)} {c:Nat} (ht:P.underlying t=some (.map kt et)) (hk:P.underlying kt=some .string) (hz:zeroV P et=some (.bool false)) (hg:H.get a=some (.map (sset l) c)) :
  lookup P H t (.map a) (.lit (.string s)) false=some (.lit (.bool (inSet s l))):=by
 unfold lookup
 rw [ht]
 dsimp only [toLit]
 rw [hg]
 dsimp only
 rw [checkKey_str (n:=9999) hk]
 unfold sset
 rw [findK_keys hk]
 dsimp only
 have hs:=keyAt_spec s (l.map fun x=>(x.1,AV.lit (.bool true),x.2)) 0
 cases hka:keyAt s (l.map fun x=>(x.1,AV.lit (.bool true),x.2)) 0 with
 | none =>
  rw [hka] at hs
  unfold lookupIn
  dsimp only
  rw [hz]
  have:inSet s l=false:=by
   unfold inSet
   rw [List.any_eq_false]
   intro x hx
   have:=hs (x.1,.lit (.bool true),x.2) (List.mem_map.2 ⟨x,hx,rfl⟩)
   grind
  rw [this]; rfl
 | some j =>
  rw [hka] at hs
  obtain ⟨_,x,hx,hxs⟩:=hs
  rw [Nat.sub_zero,List.getElem?_map] at hx
  obtain ⟨y,hy,rfl⟩:=Option.map_eq_some_iff.1 hx
  unfold lookupIn
  dsimp only
  rw [nth_eq]
  have:(smap (l.map fun x=>(x.1,AV.lit (.bool true),x.2)))[j]?=some (.lit (.string y.1),.lit (.bool true),y.2):=by
   grind [smap]
  rw [this]
  have:inSet s l=true:=by
   grind [inSet]
  rw [this]; rfl
theorem mapUpdate_set {t kt et:TypeId} {a:Nat} {s:ByteArray} {l:List (ByteArray×Nat)} {c:Nat} (ht:P.underlying t=some (.map kt et)) (hk:P.underlying kt=some .string) (hg:H.get a=some (.map (sset l) c)) (hn:inSet s l=false) :
  mapUpdate P H t (.map a) (.lit (.string s)) (.lit (.bool true))=some (H.upd a (.map (sset (l++[(s,c)])) (c+1))):=by
 unfold mapUpdate
 rw [ht]
 dsimp only [toLit]
 rw [hg]
 dsimp only
 rw [checkKey_str (n:=9999) hk]
 have e:findK P kt (.string s) (sset l)=some (keyAt s (l.map fun x=>(x.1,AV.lit (.bool true),x.2)) 0):=findK_keys hk s _
 rw [e]
 have hs:=keyAt_spec s (l.map fun x=>(x.1,AV.lit (.bool true),x.2)) 0
 cases hka:keyAt s (l.map fun x=>(x.1,AV.lit (.bool true),x.2)) 0 with
 | none =>
  grind [updIn,Mem.setK_eq,smap,sset]
 | some j =>
  exfalso
  rw [hka] at hs
  obtain ⟨_,x,hx,hxs⟩:=hs
  rw [Nat.sub_zero,List.getElem?_map] at hx
  obtain ⟨y,hy,rfl⟩:=Option.map_eq_some_iff.1 hx
  grind [inSet]
def isSet (P:Program) (t:TypeId) : Bool:=match P.underlying t with
 | some (.map kt et)=>(match P.underlying kt with | some .string=>true | _=>false) && (match P.info? et with | some i=>(match i.zero with | some (.bool false)=>true | _=>false) | none=>false)
 | _=>false
theorem isSet_inv {t:TypeId} (h:isSet P t=true) : ∃ kt et,P.underlying t=some (.map kt et)∧P.underlying kt=some .string∧zeroV P et=some (.bool false):=by
 (simp_all [isSet,zeroV]; grind)
noncomputable def exB2 (P:Program) (H:Mem) (ev:Ev) (o:Oper) (x y:Operand) (a:Nat) (u:AV) (b:Option Blk) (_:ev x=some (.map a)) (_:ev y=some u) (_:H.get a=b) : R:=opV P H ev o
noncomputable def exB3 (P:Program) (H:Mem) (ev:Ev) (o:Oper) (x y z:Operand) (a:Nat) (u v:AV) (b:Option Blk) (_:ev x=some (.map a)) (_:ev y=some u) (_:ev z=some v) (_:H.get a=b) : R:=opV P H ev o
theorem exB2_congr {tk:Nat} (_h0:tick=tk) {o:Oper} {x y:Operand} {a:Nat} {u:AV} {b b' : Option Blk} {hx:ev x=some (.map a)} {hy:ev y=some u} {hb:H.get a=b} (h1:b=b') : exB2 P H ev o x y a u b hx hy hb=exB2 P H ev o x y a u b' hx hy (hb.trans h1):=rfl
theorem exB3_congr {tk:Nat} (_h0:tick=tk) {o:Oper} {x y z:Operand} {a:Nat} {u v:AV} {b b' : Option Blk} {hx:ev x=some (.map a)} {hy:ev y=some u} {hz:ev z=some v} {hb:H.get a=b} (h1:b=b') : exB3 P H ev o x y z a u v b hx hy hz hb=exB3 P H ev o x y z a u v b' hx hy hz (hb.trans h1):=rfl
attribute [congr] exB2_congr exB3_congr
theorem op_lookup {t:TypeId} {m k:Operand} {b:Bool} : opV P H ev ⟨d,.lookup t m k b,ty,p,af,g⟩=ex2 P H ev ⟨d,.lookup t m k b,ty,p,af,g⟩ m k (ev m) (ev k) rfl rfl:=(rfl)
theorem ex2_map {o:Oper} {x y:Operand} {a:Nat} {u:AV} {hx:ev x=some (.map a)} {hy:ev y=some u} : ex2 P H ev o x y (some (.map a)) (some u) hx hy=exB2 P H ev o x y a u (H.get a) hx hy rfl:=(rfl)
theorem ex3_map {o:Oper} {x y z:Operand} {a:Nat} {u v:AV} {hx:ev x=some (.map a)} {hy:ev y=some u} {hz:ev z=some v} : ex3 P H ev o x y z (some (.map a)) (some u) (some v) hx hy hz=exB3 P H ev o x y z a u v (H.get a) hx hy hz rfl:=(rfl)
theorem lookup_ex {t:TypeId} {m k:Operand} {a:Nat} {s:ByteArray} {l:List (ByteArray×Nat)} {c:Nat} {hm:ev m=some (.map a)} {hk:ev k=some (.lit (.string s))} {hg:H.get a=some (.map (sset l) c)} (h:isSet P t=true) :
  exB2 P H ev ⟨d,.lookup t m k false,ty,p,af,g⟩ m k a (.lit (.string s)) (some (.map (sset l) c)) hm hk hg=.val (.lit (.bool (inSet s l))) H:=by
 show oLookup P H ev _ t (ev m) (ev k) false=_
 obtain ⟨kt,et,h1,h2,h3⟩:=isSet_inv h
 unfold oLookup orElse
 rw [generic_none (x:=m) (by simp [Op.operands]) (fun v' h=>by rw [hm] at h; cases h; rfl),hm,hk]
 dsimp only
 rw [lookup_set h1 h2 h3 hg]; rfl
theorem op_mapUpdate {t:TypeId} {m k x:Operand} : opV P H ev ⟨d,.mapUpdate t m k x,ty,p,af,g⟩=ex3 P H ev ⟨d,.mapUpdate t m k x,ty,p,af,g⟩ m k x (ev m) (ev k) (ev x) rfl rfl rfl:=(rfl)
theorem mapUpdate_ex {t:TypeId} {m k x:Operand} {a:Nat} {s:ByteArray} {l:List (ByteArray×Nat)} {c:Nat} {hm:ev m=some (.map a)} {hk:ev k=some (.lit (.string s))} {hx:ev x=some (.lit (.bool true))}
  {hg:H.get a=some (.map (sset l) c)} (h:isSet P t=true) (hn:inSet s l=false) :
  exB3 P H ev ⟨d,.mapUpdate t m k x,ty,p,af,g⟩ m k x a (.lit (.string s)) (.lit (.bool true)) (some (.map (sset l) c)) hm hk hx hg=.skip (H.upd a (.map (sset (l++[(s,c)])) (c+1))):=by
 show oMapUpdate P H t (ev m) (ev k) (ev x)=_
 grind [isSet_inv,oMapUpdate,mapUpdate_set]
theorem op_makeMap {t:TypeId} : opV P H ev ⟨d,.makeMap t none,ty,p,af,g⟩=.val (.map H.next) (H.add (.map (sset []) 0)):=by
 show oMakeMap P H ev t none=_
 unfold oMakeMap
 dsimp only
 rw [Mem.newK_eq]; rfl
attribute [simp] ex2_map ex3_map lookup_ex mapUpdate_ex op_lookup op_mapUpdate op_makeMap
end
end Go.Ai
end
section
namespace Go.Ai
open Go.RowKit (Below)
variable {P:Program} {B G:Nat} {ρ ρ' : Rn} {H H' : Mem} {w w' : World}
mutual
theorem VR.back (hs:Sub ρ ρ') : ∀ {v:AV} {u0 u:Value},VR ρ v u0→VR ρ' v u→VR ρ v u
 | .lit _,_,_,_,r=>r
 | .ptr _ _,_,_,⟨b,o,k,e,_⟩,⟨b',o',k',e',r'⟩=>by
  have:=hs _ _ e; rw [this] at e'; cases e'; exact ⟨b,o,k,e,r'⟩
 | .sl _ _ _ _,_,_,⟨b,o,k,e,_⟩,⟨b',o',k',e',r'⟩=>by
  have:=hs _ _ e; rw [this] at e'; cases e'; exact ⟨b,o,k,e,r'⟩
 | .slq _ _ _ _,_,_,⟨b,o,k,e,_⟩,⟨b',o',k',e',r'⟩=>by
  have:=hs _ _ e; rw [this] at e'; cases e'; exact ⟨b,o,k,e,r'⟩
 | .es,_,_,_,r=>r
 | .map _,_,_,⟨b,o,k,e,_⟩,⟨b',o',k',e',r'⟩=>by
  have:=hs _ _ e; rw [this] at e'; cases e'; exact ⟨b,o,k,e,r'⟩
 | .func _ _ _,_,_,⟨_,_,_,r,q⟩,⟨f',c',e',r',q'⟩=>⟨f',c',e',VRs.back hs r r',VRs.back hs q q'⟩
 | .iface _ _,_,_,⟨_,_,r⟩,⟨u',e',r'⟩=>⟨u',e',VR.back hs r r'⟩
 | .agg _,_,_,⟨_,_,r⟩,⟨cs,e',r'⟩=>⟨cs,e',VRs.back hs r r'⟩
 | .tup _,_,_,⟨_,_,r⟩,⟨cs,e',r'⟩=>⟨cs,e',VRs.back hs r r'⟩
theorem VRs.back (hs:Sub ρ ρ') : ∀ {l:List AV} {us0 us:List Value},VRs ρ l us0→VRs ρ' l us→VRs ρ l us
 | [],_,_,_,r=>r
 | _ :: _,_,_,⟨_,_,_,r,q⟩,⟨u,us',e,r',q'⟩=>⟨u,us',e,VR.back hs r r',VRs.back hs q q'⟩
end
theorem ER.back (hs:Sub ρ ρ') : ∀ {l:List (AV×AV×Nat)} {es0 es:List MapEntry},ER ρ l es0→ER ρ' l es→ER ρ l es
 | [],_,_,_,r=>r
 | _ :: _,_,_,⟨_,_,_,r,s,_,z⟩,⟨e,es',q,r',s',t',z'⟩=>⟨e,es',q,r.back hs r',s.back hs s',t',ER.back hs z z'⟩
theorem BR.back (hs:Sub ρ ρ') {x:Blk} {b o k:Nat} (h0:BR B ρ x b o k w) (h:BR B ρ' x b o k w') : BR B ρ x b o k w':=by
 cases x with
 | cells l own z =>
  obtain ⟨c0,e0,fz0,hb0,hc0,ho0⟩:=h0
  obtain ⟨c,e,fz,hb,hc,ho⟩:=h
  refine ⟨c,e,fz,hb,fun i v hi=>?_,ho⟩
  obtain ⟨u0,_,hv0⟩:=hc0 i v hi
  obtain ⟨u,hu,hv⟩:=hc i v hi
  exact ⟨u,hu,hv0.back hs hv⟩
 | map es clock =>
  obtain ⟨es0,_,he0,_⟩:=h0
  obtain ⟨es',hb,he,hB⟩:=h
  exact ⟨es',hb,ER.back hs he0 he,hB⟩
 | siter s pos=>exact h
 | typ T l ex =>
  obtain ⟨_,_,c0,hb0,hc0,_⟩:=h0
  obtain ⟨h1,h2,c,hb,hc,h3⟩:=h
  refine ⟨h1,h2,c,hb,fun i v hi=>?_,h3⟩
  obtain ⟨u0,_,hv0⟩:=hc0 i v hi
  obtain ⟨u,hu,hv⟩:=hc i v hi
  exact ⟨u,hu,hv0.back hs hv⟩
structure Ge (H H' : Mem) : Prop where
 le:H.next≤H'.next
 same:∀ a,a < H.next→H'.get a=H.get a
theorem Sim.back (s:Sim B G ρ H w) (hx:Ext B H.next ρ w ρ' w') (s' : Sim B G ρ' H' w') (hg:Ge H H') : Sim B G ρ H w':=by
 have hsub:=hx.sub s
 refine ⟨fun a x ha=>?_,s.inj,s.fresh,s.glob,s.names,s'.base⟩
 rcases s.blk a x ha with hn | ⟨b,o,k,hr,hb⟩
 ·grind
 ·have hlt:=s.lt_next hr
  refine .inr ⟨b,o,k,hr,?_⟩
  have hb':=s'.at (by rw [hg.same a hlt]; omega) (hsub _ _ hr)
  exact hb.back hsub hb'
def plainV:AV→Bool
 | .lit _=>true
 | .es=>true
 | .iface _ v=>plainV v
 | .tup []=>true
 | .tup [a]=>plainV a
 | .tup [a,b]=>plainV a && plainV b
 | .tup [a,b,c]=>plainV a && plainV b && plainV c
 | _=>false
theorem plain_VR {ρ'' : Rn} : ∀ {v:AV} {u:Value},plainV v=true→VR ρ' v u→VR ρ'' v u
 | .lit _,_,_,r=>r
 | .es,_,_,r=>r
 | .iface t v,_,h,⟨u',e,r⟩=>⟨u',e,plain_VR (v:=v) (by assumption) r⟩
 | .tup [],_,_,⟨cs,e,r⟩=>⟨cs,e,r⟩
 | .tup [a],_,h,⟨cs,e,u,us,e1,r,q⟩=>⟨cs,e,u,us,e1,plain_VR (v:=a) (by assumption) r,q⟩
 | .tup [a,b],_,h,⟨cs,e,u,us,e1,r,u2,us2,e2,r2,q⟩=>by
  simp only [plainV,Bool.and_eq_true] at h
  exact ⟨cs,e,u,us,e1,plain_VR (v:=a) h.1 r,u2,us2,e2,plain_VR (v:=b) h.2 r2,q⟩
 | .tup [a,b,c],_,h,⟨cs,e,u,us,e1,r,u2,us2,e2,r2,u3,us3,e3,r3,q⟩=>by
  simp only [plainV,Bool.and_eq_true] at h
  exact ⟨cs,e,u,us,e1,plain_VR (v:=a) h.1.1 r,u2,us2,e2,plain_VR (v:=b) h.1.2 r2,u3,us3,e3,plain_VR (v:=c) h.2 r3,q⟩
 | .ptr _ _,_,h,_=>by grind [plainV]
 | .sl _ _ _ _,_,h,_=>by grind [plainV]
 | .slq _ _ _ _,_,h,_=>by grind [plainV]
 | .map _,_,h,_=>by grind [plainV]
 | .func _ _ _,_,h,_=>by grind [plainV]
 | .agg _,_,h,_=>by grind [plainV]
 | .tup (_ :: _ :: _ :: _ :: _),_,h,_=>by grind [plainV]
theorem WC.drop {f:FuncId} {args:List AV} {K:AV→Prop} (h:WC G P f args H fun r=>∃ v H',r=.ret v H'∧plainV v=true∧Ge H H'∧K v) : WC G P f args H fun r=>∃ v,r=.ret v H∧K v:=by
 intro B ρ us w s hv
 refine (h B ρ us w s hv).mono ?_
 rintro e w' ⟨r,⟨v,H',rfl,hp,hg,hk⟩,hc⟩
 refine ⟨_,⟨v,rfl,hk⟩,?_⟩
 cases e with
 | returned u =>
  obtain ⟨ρ',h1,h2,h3,h4⟩:=hc
  exact ⟨ρ,⟨fun _ _=>rfl,h1.keeps,h1.below⟩,s.back h1 h2 hg,plain_VR hp h3,Nat.le_refl _⟩
 | panicked chain=>assumption
 | outgrown=>assumption
theorem WC.drop1 {f:FuncId} {args:List AV} {v:AV} (hp:plainV v=true) (h:WC G P f args H fun r=>∃ H',r=.ret v H'∧Ge H H') : WC G P f args H fun r=>r=.ret v H:=by
 refine (WC.drop (K:=fun u=>u=v) (h.mono ?_)).mono ?_
 all_goals grind
/-! ### rows of cells -/
def Row (g:Nat→Option Blk) (a off:Nat) (cs:List AV) : Prop:=∃ l own z,g a=some (.cells l own z)∧off+cs.length≤l.length∧(l.drop off).take cs.length=cs
theorem Row.agg {g:Nat→Option Blk} {a off:Nat} {cs:List AV} (h:Row g a off cs) {k s:Nat} (hk:k+s≤cs.length) : loadB (some (true,s)) (g a) (off+k)=some (.agg ((cs.drop k).take s)):=by
 obtain ⟨l,own,z,h1,h2,h3⟩:=h
 grind [loadB_agg,List.drop_take,List.drop_drop]
theorem Row.one {g:Nat→Option Blk} {a off:Nat} {cs:List AV} (h:Row g a off cs) {k s:Nat} (hk:k < cs.length) : loadB (some (false,s)) (g a) (off+k)=some cs[k]:=by
 obtain ⟨l,own,z,h1,h2,h3⟩:=h
 grind [loadB_one]
theorem Row.mono {g g' : Nat→Option Blk} {a off:Nat} {cs:List AV} (h:Row g a off cs) (hg:g' a=g a) : Row g' a off cs:=by
 obtain ⟨l,own,z,h1,h2⟩:=h
 exact ⟨l,own,z,hg.trans h1,h2⟩
theorem flat_at {α:Type} {f:α→List AV} {sz:Nat} : ∀ (xs:List α) (i:Nat) (h:i < xs.length),(∀ x∈xs,(f x).length=sz)→((xs.flatMap f).drop (i * sz)).take sz=f xs[i]
 | x :: xs,0,_,hf=>by
  grind
 | x :: xs,i+1,h,hf=>by
  have h1:=hf x (by simp)
  rw [List.flatMap_cons,Nat.succ_mul,Nat.add_comm,← List.drop_drop,← h1,List.drop_left,h1]
  have:=flat_at xs i (by simpa using h) (fun y hy=>hf y (by simp [hy]))
  simpa using this
 | [],i,h,_=>by grind
theorem flat_len {α:Type} {f:α→List AV} {sz:Nat} : ∀ (xs:List α),(∀ x∈xs,(f x).length=sz)→(xs.flatMap f).length=xs.length * sz
 | [],_=>by simp
 | x :: xs,hf=>by
  rw [List.flatMap_cons,List.length_append,hf x (by simp),flat_len xs (fun y hy=>hf y (by simp [hy])),List.length_cons,Nat.succ_mul,Nat.add_comm]
end Go.Ai
end
